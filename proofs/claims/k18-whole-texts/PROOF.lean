import PyProof.Rows.All
import Wide.All
import OpenK.AllK
import Wide.FinOn
import HandS.Base
import HandS.Call
import HandS.List
import HandS.Words
import HandS.Defaults
import HandS.Property
import HandS.ClsMeth
import HandS.Codes
import HandS.HeadHook1
import HandS.HeadHook2
import HandS.HeadNt
import KE.KStateDown
import HandS.Head0
import HandS.Head1
import HandS.Head2
import HandS.HeadEnd
import HandS.Iter
import KE.GoesEnum
import HandS.Style
import HandS.More
import HandS.Deep
import HandS.Strs
import HandS.SlotsOwn
import HandS.Star
import HandS.RaiseMore
import HandS.Comp
import HandS.Dict
import HandS.DictComp
import HandS.Text
import HandS.Evl
import HandS.Conv
import HandS.FStr
import HandS.IsInst
import HandS.TupAny
import HandS.Wide
import HandS.WideBits
import HandS.MakeKw
import HandS.Steps
import HandS.ReCall
import HandS.ReplaceLit
import HandS.ReplaceList
import HandS.Ends
import Lean
import PySem.Challenge.RW_callflows_k18_whole_texts_carried_out
/-! text CfText -/
set_option Elab.async false
set_option linter.all false
set_option maxRecDepth 100000
set_option maxHeartbeats 4000000
/-! the text by places; what the top has left of it (printed by gentext.py) -/
namespace CF
open PySem PySem.Spec PyProof.Rows L2
abbrev PW : Program := PySem.Challenge.pw_callflows_k18_whole_texts_carried_out
def top (i : Nat) : Stmt := PySem.Challenge.pw_callflows_k18_whole_texts_carried_out.main.body.getD i (.Pass ⟨0, 0, 0, 0⟩)
def gD (x : String) (i : Nat) : He5.DefA := ⟨fun K => He.ga K (PySem.Str.ofString x), PySem.Str.ofString x, PySem.Str.ofString x, defArgs (top i), defBody (top i), defScope (top i), [], []⟩
def mD (C m q : String) (i j : Nat) (ds : List He.Dv) (ks : List (PySem.Str × He.Dv)) : He5.DefA :=
  ⟨fun K => He.ma K (He.ga K (PySem.Str.ofString C)) (PySem.Str.ofString m), PySem.Str.ofString m, PySem.Str.ofString q, defArgs (inClass (top i) j), defBody (inClass (top i) j), defScope (inClass (top i) j), ds, ks⟩
def wD (T C m q : String) (i j : Nat) : He5.DefA :=
  ⟨fun K => He5.wf K (He.ga K (PySem.Str.ofString C)) T (PySem.Str.ofString m), PySem.Str.ofString m, PySem.Str.ofString q, defArgs (inClass (top i) j), defBody (inClass (top i) j), defScope (inClass (top i) j), [], []⟩

def fn : List He5.DefA := [
  gD "is_integer" 23,
  gD "is_name" 24,
  gD "are_names" 25,
  gD "is_word" 26,
  gD "is_test" 27,
  gD "applied" 28,
  gD "is_count" 33,
  gD "is_detail" 34,
  gD "comprehension" 35,
  gD "call" 36,
  gD "line_of" 37,
  mD "Stage" "__init__" "Stage.__init__" 38 0 [.non] [("now", .bl false)],
  wD "property" "Stage" "kind" "Stage.kind" 38 1,
  wD "property" "Stage" "detail" "Stage.detail" 38 2,
  wD "property" "Stage" "now" "Stage.now" 38 3,
  mD "Stage" "__str__" "Stage.__str__" 38 7 [] [],
  mD "Flow" "__init__" "Flow.__init__" 57 0 [] [],
  wD "classmethod" "Flow" "of" "Flow.of" 57 1,
  wD "property" "Flow" "stages" "Flow.stages" 57 3,
  wD "property" "Flow" "atoms" "Flow.atoms" 57 7,
  mD "Flow" "__str__" "Flow.__str__" 57 14 [] [],
  gD "check_flow" 58,
  gD "parts_of" 61,
  gD "left_of" 62,
  gD "is_counted_in" 63,
  mD "Gate" "__init__" "Gate.__init__" 64 0 [] [],
  mD "Gate" "passed" "Gate.passed" 64 1 [] [],
  gD "played_part" 65,
  gD "played" 66,
  gD "check_atoms" 70,
  gD "is_row" 71,
  gD "check_rows" 72,
  gD "term_of" 73,
  mD "Teller" "__init__" "Teller.__init__" 74 0 [] [],
  mD "Teller" "behind" "Teller.behind" 74 1 [] [],
  mD "Teller" "is_true" "Teller.is_true" 74 2 [] [],
  mD "Play" "__init__" "Play.__init__" 75 0 [] [],
  wD "property" "Play" "entries" "Play.entries" 75 1,
  wD "property" "Play" "calls" "Play.calls" 75 2,
  mD "World" "__init__" "World.__init__" 76 0 [] [],
  mD "World" "play" "World.play" 76 6 [] [],
  gD "_law_cell" 78,
  gD "_law_purse" 79,
  gD "_law_take" 80,
  gD "_law_name" 81,
  gD "_law_tags" 82,
  gD "_law_labels" 83,
  gD "_law_detail" 84,
  gD "_law_part" 85,
  gD "_law_stage" 86,
  gD "_law_flow" 87,
  gD "_law_atoms" 88,
  gD "_law_few" 89,
  gD "_law_asked" 90,
  gD "_law_playable" 91,
  gD "_law_truths" 92,
  gD "_law_apply" 93,
  gD "_law_passes" 94,
  gD "_law_pull" 95,
  gD "_law_pull_slice" 96,
  gD "_law_all" 97,
  gD "_law_names_of" 98,
  gD "_law_call_begun" 99,
  gD "_law_line_done" 100,
  gD "_law_carried" 101,
  gD "_law_answer" 102,
  gD "_law_truth" 103,
  gD "_law_played_right" 104,
  gD "_law_right" 105,
  gD "law" 106]

def fa : List He.Fa := [
  .glo "is_integer",
  .glo "is_name",
  .glo "are_names",
  .glo "is_word",
  .glo "is_test",
  .glo "applied",
  .glo "is_count",
  .glo "is_detail",
  .glo "comprehension",
  .glo "call",
  .glo "line_of",
  .glo "check_flow",
  .glo "parts_of",
  .glo "left_of",
  .glo "is_counted_in",
  .glo "played_part",
  .glo "played",
  .glo "check_atoms",
  .glo "is_row",
  .glo "check_rows",
  .glo "term_of",
  .glo "_law_cell",
  .glo "_law_purse",
  .glo "_law_take",
  .glo "_law_name",
  .glo "_law_tags",
  .glo "_law_labels",
  .glo "_law_detail",
  .glo "_law_part",
  .glo "_law_stage",
  .glo "_law_flow",
  .glo "_law_atoms",
  .glo "_law_few",
  .glo "_law_asked",
  .glo "_law_playable",
  .glo "_law_truths",
  .glo "_law_apply",
  .glo "_law_passes",
  .glo "_law_pull",
  .glo "_law_pull_slice",
  .glo "_law_all",
  .glo "_law_names_of",
  .glo "_law_call_begun",
  .glo "_law_line_done",
  .glo "_law_carried",
  .glo "_law_answer",
  .glo "_law_truth",
  .glo "_law_played_right",
  .glo "_law_right",
  .glo "law",
  .glo "Stage",
  .glo "Flow",
  .glo "Gate",
  .glo "Teller",
  .glo "Play",
  .glo "World",
  .free "isinstance",
  .free "len",
  .free "all",
  .free "any",
  .free "tuple",
  .free "list",
  .free "str",
  .free "int",
  .free "bool",
  .free "max",
  .free "min",
  .free "range",
  .free "enumerate",
  .free "divmod",
  .free "abs",
  .free "repr",
  .int "MOST_DIGITS" 3,
  .int "MOST_NAMES" 3,
  .int "MOST" 9,
  .int "MOST_STAGES" 8,
  .int "MOST_WORLD_ATOMS" 6,
  .int "MOST_ATOM_NAMES" 30,
  .str "LETTERS" "abcdefghijklmnopqrstuvwyz",
  .str "DIGITS" "0123456789",
  .str "LAST_LINE" "return list(rows)",
  .cls "Stage",
  .mkr "Stage",
  .noat "Stage" "fields",
  .cls "Flow",
  .mkr "Flow",
  .noat "Flow" "kept",
  .cls "Gate",
  .mkr "Gate",
  .noat "Gate" "stage",
  .noat "Gate" "seen",
  .noat "Gate" "is_open",
  .meth "Gate" "passed",
  .cls "Teller",
  .mkr "Teller",
  .noat "Teller" "rows_told",
  .noat "Teller" "places",
  .noat "Teller" "made",
  .meth "Teller" "behind",
  .meth "Teller" "is_true",
  .cls "Play",
  .mkr "Play",
  .noat "Play" "shown",
  .cls "World",
  .mkr "World",
  .noat "World" "told",
  .meth "World" "play",
  .glo "KINDS",
  .glo "LIST_KINDS",
  .glo "TESTED",
  .glo "COUNTED"]

/-- a property of the class -/
def propB (K : PySem.W.Frag) (C : Addr) (f : PySem.Str) : Bool := He.eqO (PySem.W.findIn K (.ref C) f) (some (some (.ref (He.ma K C f)))) && (He.eqO (PySem.W.specialIn K (.ref (He.ma K C f)) "__get__") (some (some (.builtin "property.__get__"))) &&
  (decide (PySem.W.takesIn K (.ref (He.ma K C f)) = some true) && (match PySem.W.recIn K (He.ma K C f) "property" with
    | some (.ref _ :: _) => true
    | _ => false)))
theorem propB_ok {K : PySem.W.Frag} {C : Addr} {f : PySem.Str} (h : propB K C f = true) : PropOf K C f (He.ma K C f) (He5.wf K C "property" f) := by
  obtain ⟨h1, h⟩ := He.ba h
  obtain ⟨h2, h⟩ := He.ba h
  obtain ⟨h3, h4⟩ := He.ba h
  refine ⟨He.eqO_ok h1, He.eqO_ok h2, of_decide_eq_true h3, ?_⟩
  unfold He5.wf
  split at h4
  · rename_i g r e
    exact ⟨r, by rw [e]⟩
  · cases h4
def strB (K : PySem.W.Frag) (C : Addr) : Bool := He.eqO (PySem.W.findIn K (.ref C) "__str__") (some (some (.ref (He.ma K C "__str__")))) && PySem.W.isFn K (.ref (He.ma K C "__str__"))
def insB (K : PySem.W.Frag) (C : Addr) : Bool := He.eqO (PySem.W.findIn K (.ref C) "__class__") (some (some (.builtin "object.__class__"))) && (He.eqO (PySem.W.specialIn K (.builtin "object.__class__") "__get__") (some (some (.builtin "getset_descriptor.__get__"))) &&
  (decide (PySem.W.takesIn K (.builtin "object.__class__") = some true) && (decide (PySem.W.mroIn K C (.type "object") = some true) && decide (PySem.W.kitOne K (.ref C) (.ref C) = some true))))
theorem insB_ok {K : PySem.W.Frag} {C : Addr} (h : insB K C = true) (c : Cls K C) : C8.InsC K C := by
  obtain ⟨h1, h⟩ := He.ba h
  obtain ⟨h2, h⟩ := He.ba h
  obtain ⟨h3, h⟩ := He.ba h
  obtain ⟨h4, h5⟩ := He.ba h
  exact ⟨c, He.eqO_ok h1, He.eqO_ok h2, of_decide_eq_true h3, of_decide_eq_true h4, of_decide_eq_true h5⟩

def moreL (K : PySem.W.Frag) : List Bool := [
  He.tupB K "KINDS" [.str "each", .str "keep", .str "drop", .str "while", .str "from", .str "first", .str "skip", .str "every", .str "last", .str "but last", .str "turned"],
  He.tupB K "LIST_KINDS" [.str "last", .str "but last", .str "turned"],
  He.tupB K "TESTED" [.str "keep", .str "drop", .str "while", .str "from"],
  He.tupB K "COUNTED" [.str "first", .str "skip", .str "every"],
  propB K (He.ga K "Stage") "kind",
  propB K (He.ga K "Stage") "detail",
  propB K (He.ga K "Stage") "now",
  propB K (He.ga K "Flow") "stages",
  propB K (He.ga K "Flow") "atoms",
  propB K (He.ga K "Play") "entries",
  propB K (He.ga K "Play") "calls",
  He5.wrapB K (He.ga K "Flow") "classmethod" "classmethod.__get__" "of" && PySem.W.fnIn K (He5.wf K (He.ga K "Flow") "classmethod" "of"),
  PySem.W.readsIn K (He.ga K "Flow") (.type "type") && He.eqO (PySem.W.specialIn K (.ref (He.ga K "Flow")) "__getattribute__") (some (some (.builtin "type.__getattribute__"))),
  strB K (He.ga K "Stage"),
  strB K (He.ga K "Flow"),
  insB K (He.ga K "Stage"),
  insB K (He.ga K "Flow")]

def more (K : PySem.W.Frag) : Bool := (moreL K).all id
def obsC (K : PySem.W.Frag) : He.AlD := ((He5.obsA fa fn K).1 && more K, (He5.obsA fa fn K).2)
def valC : He.AlD := He5.valA fn
/-- what a proof leans on -/
structure Tx (K : PySem.W.Frag) (mg : PySem.Str → Option Value) : Prop where
  says : obsC K = valC
  at_ : ∃ h : Heap, K.In h ∧ h.Ns mainGlobals mg
section
variable {K : PySem.W.Frag} {mg : PySem.Str → Option Value}
theorem Tx.a (T : Tx K mg) : He5.SaysA fa fn K := by
  have e1 : ((He5.obsA fa fn K).1 && more K) = true := congrArg (fun z : He.AlD => z.1) T.says
  have e2 : (He5.obsA fa fn K).2 = fn.map He5.DefA.val := congrArg (fun z : He.AlD => z.2) T.says
  exact Prod.ext (He.ba e1).1 e2
theorem Tx.m (T : Tx K mg) (i : Nat) {b : Bool} (h : (moreL K)[i]? = some b := by rfl) : b = true := by
  have e1 : ((He5.obsA fa fn K).1 && more K) = true := congrArg (fun z : He.AlD => z.1) T.says
  exact List.all_eq_true.mp (He.ba e1).2 b (List.mem_of_getElem? h)

theorem Tx.g_is_integer (T : Tx K mg) : mg "is_integer" = some (.ref (He.ga K "is_integer")) := by
  obtain ⟨h, X, G⟩ := T.at_
  exact He.glo_ok X G (T.a.fact 0 rfl)
theorem Tx.g_is_name (T : Tx K mg) : mg "is_name" = some (.ref (He.ga K "is_name")) := by
  obtain ⟨h, X, G⟩ := T.at_
  exact He.glo_ok X G (T.a.fact 1 rfl)
theorem Tx.g_are_names (T : Tx K mg) : mg "are_names" = some (.ref (He.ga K "are_names")) := by
  obtain ⟨h, X, G⟩ := T.at_
  exact He.glo_ok X G (T.a.fact 2 rfl)
theorem Tx.g_is_word (T : Tx K mg) : mg "is_word" = some (.ref (He.ga K "is_word")) := by
  obtain ⟨h, X, G⟩ := T.at_
  exact He.glo_ok X G (T.a.fact 3 rfl)
theorem Tx.g_is_test (T : Tx K mg) : mg "is_test" = some (.ref (He.ga K "is_test")) := by
  obtain ⟨h, X, G⟩ := T.at_
  exact He.glo_ok X G (T.a.fact 4 rfl)
theorem Tx.g_applied (T : Tx K mg) : mg "applied" = some (.ref (He.ga K "applied")) := by
  obtain ⟨h, X, G⟩ := T.at_
  exact He.glo_ok X G (T.a.fact 5 rfl)
theorem Tx.g_is_count (T : Tx K mg) : mg "is_count" = some (.ref (He.ga K "is_count")) := by
  obtain ⟨h, X, G⟩ := T.at_
  exact He.glo_ok X G (T.a.fact 6 rfl)
theorem Tx.g_is_detail (T : Tx K mg) : mg "is_detail" = some (.ref (He.ga K "is_detail")) := by
  obtain ⟨h, X, G⟩ := T.at_
  exact He.glo_ok X G (T.a.fact 7 rfl)
theorem Tx.g_comprehension (T : Tx K mg) : mg "comprehension" = some (.ref (He.ga K "comprehension")) := by
  obtain ⟨h, X, G⟩ := T.at_
  exact He.glo_ok X G (T.a.fact 8 rfl)
theorem Tx.g_call (T : Tx K mg) : mg "call" = some (.ref (He.ga K "call")) := by
  obtain ⟨h, X, G⟩ := T.at_
  exact He.glo_ok X G (T.a.fact 9 rfl)
theorem Tx.g_line_of (T : Tx K mg) : mg "line_of" = some (.ref (He.ga K "line_of")) := by
  obtain ⟨h, X, G⟩ := T.at_
  exact He.glo_ok X G (T.a.fact 10 rfl)
theorem Tx.g_check_flow (T : Tx K mg) : mg "check_flow" = some (.ref (He.ga K "check_flow")) := by
  obtain ⟨h, X, G⟩ := T.at_
  exact He.glo_ok X G (T.a.fact 11 rfl)
theorem Tx.g_parts_of (T : Tx K mg) : mg "parts_of" = some (.ref (He.ga K "parts_of")) := by
  obtain ⟨h, X, G⟩ := T.at_
  exact He.glo_ok X G (T.a.fact 12 rfl)
theorem Tx.g_left_of (T : Tx K mg) : mg "left_of" = some (.ref (He.ga K "left_of")) := by
  obtain ⟨h, X, G⟩ := T.at_
  exact He.glo_ok X G (T.a.fact 13 rfl)
theorem Tx.g_is_counted_in (T : Tx K mg) : mg "is_counted_in" = some (.ref (He.ga K "is_counted_in")) := by
  obtain ⟨h, X, G⟩ := T.at_
  exact He.glo_ok X G (T.a.fact 14 rfl)
theorem Tx.g_played_part (T : Tx K mg) : mg "played_part" = some (.ref (He.ga K "played_part")) := by
  obtain ⟨h, X, G⟩ := T.at_
  exact He.glo_ok X G (T.a.fact 15 rfl)
theorem Tx.g_played (T : Tx K mg) : mg "played" = some (.ref (He.ga K "played")) := by
  obtain ⟨h, X, G⟩ := T.at_
  exact He.glo_ok X G (T.a.fact 16 rfl)
theorem Tx.g_check_atoms (T : Tx K mg) : mg "check_atoms" = some (.ref (He.ga K "check_atoms")) := by
  obtain ⟨h, X, G⟩ := T.at_
  exact He.glo_ok X G (T.a.fact 17 rfl)
theorem Tx.g_is_row (T : Tx K mg) : mg "is_row" = some (.ref (He.ga K "is_row")) := by
  obtain ⟨h, X, G⟩ := T.at_
  exact He.glo_ok X G (T.a.fact 18 rfl)
theorem Tx.g_check_rows (T : Tx K mg) : mg "check_rows" = some (.ref (He.ga K "check_rows")) := by
  obtain ⟨h, X, G⟩ := T.at_
  exact He.glo_ok X G (T.a.fact 19 rfl)
theorem Tx.g_term_of (T : Tx K mg) : mg "term_of" = some (.ref (He.ga K "term_of")) := by
  obtain ⟨h, X, G⟩ := T.at_
  exact He.glo_ok X G (T.a.fact 20 rfl)
theorem Tx.g__law_cell (T : Tx K mg) : mg "_law_cell" = some (.ref (He.ga K "_law_cell")) := by
  obtain ⟨h, X, G⟩ := T.at_
  exact He.glo_ok X G (T.a.fact 21 rfl)
theorem Tx.g__law_purse (T : Tx K mg) : mg "_law_purse" = some (.ref (He.ga K "_law_purse")) := by
  obtain ⟨h, X, G⟩ := T.at_
  exact He.glo_ok X G (T.a.fact 22 rfl)
theorem Tx.g__law_take (T : Tx K mg) : mg "_law_take" = some (.ref (He.ga K "_law_take")) := by
  obtain ⟨h, X, G⟩ := T.at_
  exact He.glo_ok X G (T.a.fact 23 rfl)
theorem Tx.g__law_name (T : Tx K mg) : mg "_law_name" = some (.ref (He.ga K "_law_name")) := by
  obtain ⟨h, X, G⟩ := T.at_
  exact He.glo_ok X G (T.a.fact 24 rfl)
theorem Tx.g__law_tags (T : Tx K mg) : mg "_law_tags" = some (.ref (He.ga K "_law_tags")) := by
  obtain ⟨h, X, G⟩ := T.at_
  exact He.glo_ok X G (T.a.fact 25 rfl)
theorem Tx.g__law_labels (T : Tx K mg) : mg "_law_labels" = some (.ref (He.ga K "_law_labels")) := by
  obtain ⟨h, X, G⟩ := T.at_
  exact He.glo_ok X G (T.a.fact 26 rfl)
theorem Tx.g__law_detail (T : Tx K mg) : mg "_law_detail" = some (.ref (He.ga K "_law_detail")) := by
  obtain ⟨h, X, G⟩ := T.at_
  exact He.glo_ok X G (T.a.fact 27 rfl)
theorem Tx.g__law_part (T : Tx K mg) : mg "_law_part" = some (.ref (He.ga K "_law_part")) := by
  obtain ⟨h, X, G⟩ := T.at_
  exact He.glo_ok X G (T.a.fact 28 rfl)
theorem Tx.g__law_stage (T : Tx K mg) : mg "_law_stage" = some (.ref (He.ga K "_law_stage")) := by
  obtain ⟨h, X, G⟩ := T.at_
  exact He.glo_ok X G (T.a.fact 29 rfl)
theorem Tx.g__law_flow (T : Tx K mg) : mg "_law_flow" = some (.ref (He.ga K "_law_flow")) := by
  obtain ⟨h, X, G⟩ := T.at_
  exact He.glo_ok X G (T.a.fact 30 rfl)
theorem Tx.g__law_atoms (T : Tx K mg) : mg "_law_atoms" = some (.ref (He.ga K "_law_atoms")) := by
  obtain ⟨h, X, G⟩ := T.at_
  exact He.glo_ok X G (T.a.fact 31 rfl)
theorem Tx.g__law_few (T : Tx K mg) : mg "_law_few" = some (.ref (He.ga K "_law_few")) := by
  obtain ⟨h, X, G⟩ := T.at_
  exact He.glo_ok X G (T.a.fact 32 rfl)
theorem Tx.g__law_asked (T : Tx K mg) : mg "_law_asked" = some (.ref (He.ga K "_law_asked")) := by
  obtain ⟨h, X, G⟩ := T.at_
  exact He.glo_ok X G (T.a.fact 33 rfl)
theorem Tx.g__law_playable (T : Tx K mg) : mg "_law_playable" = some (.ref (He.ga K "_law_playable")) := by
  obtain ⟨h, X, G⟩ := T.at_
  exact He.glo_ok X G (T.a.fact 34 rfl)
theorem Tx.g__law_truths (T : Tx K mg) : mg "_law_truths" = some (.ref (He.ga K "_law_truths")) := by
  obtain ⟨h, X, G⟩ := T.at_
  exact He.glo_ok X G (T.a.fact 35 rfl)
theorem Tx.g__law_apply (T : Tx K mg) : mg "_law_apply" = some (.ref (He.ga K "_law_apply")) := by
  obtain ⟨h, X, G⟩ := T.at_
  exact He.glo_ok X G (T.a.fact 36 rfl)
theorem Tx.g__law_passes (T : Tx K mg) : mg "_law_passes" = some (.ref (He.ga K "_law_passes")) := by
  obtain ⟨h, X, G⟩ := T.at_
  exact He.glo_ok X G (T.a.fact 37 rfl)
theorem Tx.g__law_pull (T : Tx K mg) : mg "_law_pull" = some (.ref (He.ga K "_law_pull")) := by
  obtain ⟨h, X, G⟩ := T.at_
  exact He.glo_ok X G (T.a.fact 38 rfl)
theorem Tx.g__law_pull_slice (T : Tx K mg) : mg "_law_pull_slice" = some (.ref (He.ga K "_law_pull_slice")) := by
  obtain ⟨h, X, G⟩ := T.at_
  exact He.glo_ok X G (T.a.fact 39 rfl)
theorem Tx.g__law_all (T : Tx K mg) : mg "_law_all" = some (.ref (He.ga K "_law_all")) := by
  obtain ⟨h, X, G⟩ := T.at_
  exact He.glo_ok X G (T.a.fact 40 rfl)
theorem Tx.g__law_names_of (T : Tx K mg) : mg "_law_names_of" = some (.ref (He.ga K "_law_names_of")) := by
  obtain ⟨h, X, G⟩ := T.at_
  exact He.glo_ok X G (T.a.fact 41 rfl)
theorem Tx.g__law_call_begun (T : Tx K mg) : mg "_law_call_begun" = some (.ref (He.ga K "_law_call_begun")) := by
  obtain ⟨h, X, G⟩ := T.at_
  exact He.glo_ok X G (T.a.fact 42 rfl)
theorem Tx.g__law_line_done (T : Tx K mg) : mg "_law_line_done" = some (.ref (He.ga K "_law_line_done")) := by
  obtain ⟨h, X, G⟩ := T.at_
  exact He.glo_ok X G (T.a.fact 43 rfl)
theorem Tx.g__law_carried (T : Tx K mg) : mg "_law_carried" = some (.ref (He.ga K "_law_carried")) := by
  obtain ⟨h, X, G⟩ := T.at_
  exact He.glo_ok X G (T.a.fact 44 rfl)
theorem Tx.g__law_answer (T : Tx K mg) : mg "_law_answer" = some (.ref (He.ga K "_law_answer")) := by
  obtain ⟨h, X, G⟩ := T.at_
  exact He.glo_ok X G (T.a.fact 45 rfl)
theorem Tx.g__law_truth (T : Tx K mg) : mg "_law_truth" = some (.ref (He.ga K "_law_truth")) := by
  obtain ⟨h, X, G⟩ := T.at_
  exact He.glo_ok X G (T.a.fact 46 rfl)
theorem Tx.g__law_played_right (T : Tx K mg) : mg "_law_played_right" = some (.ref (He.ga K "_law_played_right")) := by
  obtain ⟨h, X, G⟩ := T.at_
  exact He.glo_ok X G (T.a.fact 47 rfl)
theorem Tx.g__law_right (T : Tx K mg) : mg "_law_right" = some (.ref (He.ga K "_law_right")) := by
  obtain ⟨h, X, G⟩ := T.at_
  exact He.glo_ok X G (T.a.fact 48 rfl)
theorem Tx.g_law (T : Tx K mg) : mg "law" = some (.ref (He.ga K "law")) := by
  obtain ⟨h, X, G⟩ := T.at_
  exact He.glo_ok X G (T.a.fact 49 rfl)
theorem Tx.g_Stage (T : Tx K mg) : mg "Stage" = some (.ref (He.ga K "Stage")) := by
  obtain ⟨h, X, G⟩ := T.at_
  exact He.glo_ok X G (T.a.fact 50 rfl)
theorem Tx.g_Flow (T : Tx K mg) : mg "Flow" = some (.ref (He.ga K "Flow")) := by
  obtain ⟨h, X, G⟩ := T.at_
  exact He.glo_ok X G (T.a.fact 51 rfl)
theorem Tx.g_Gate (T : Tx K mg) : mg "Gate" = some (.ref (He.ga K "Gate")) := by
  obtain ⟨h, X, G⟩ := T.at_
  exact He.glo_ok X G (T.a.fact 52 rfl)
theorem Tx.g_Teller (T : Tx K mg) : mg "Teller" = some (.ref (He.ga K "Teller")) := by
  obtain ⟨h, X, G⟩ := T.at_
  exact He.glo_ok X G (T.a.fact 53 rfl)
theorem Tx.g_Play (T : Tx K mg) : mg "Play" = some (.ref (He.ga K "Play")) := by
  obtain ⟨h, X, G⟩ := T.at_
  exact He.glo_ok X G (T.a.fact 54 rfl)
theorem Tx.g_World (T : Tx K mg) : mg "World" = some (.ref (He.ga K "World")) := by
  obtain ⟨h, X, G⟩ := T.at_
  exact He.glo_ok X G (T.a.fact 55 rfl)
theorem Tx.f_isinstance (T : Tx K mg) : mg "isinstance" = none := by
  obtain ⟨h, X, G⟩ := T.at_
  exact He.free_ok X G (T.a.fact 56 rfl)
theorem Tx.f_len (T : Tx K mg) : mg "len" = none := by
  obtain ⟨h, X, G⟩ := T.at_
  exact He.free_ok X G (T.a.fact 57 rfl)
theorem Tx.f_all (T : Tx K mg) : mg "all" = none := by
  obtain ⟨h, X, G⟩ := T.at_
  exact He.free_ok X G (T.a.fact 58 rfl)
theorem Tx.f_any (T : Tx K mg) : mg "any" = none := by
  obtain ⟨h, X, G⟩ := T.at_
  exact He.free_ok X G (T.a.fact 59 rfl)
theorem Tx.f_tuple (T : Tx K mg) : mg "tuple" = none := by
  obtain ⟨h, X, G⟩ := T.at_
  exact He.free_ok X G (T.a.fact 60 rfl)
theorem Tx.f_list (T : Tx K mg) : mg "list" = none := by
  obtain ⟨h, X, G⟩ := T.at_
  exact He.free_ok X G (T.a.fact 61 rfl)
theorem Tx.f_str (T : Tx K mg) : mg "str" = none := by
  obtain ⟨h, X, G⟩ := T.at_
  exact He.free_ok X G (T.a.fact 62 rfl)
theorem Tx.f_int (T : Tx K mg) : mg "int" = none := by
  obtain ⟨h, X, G⟩ := T.at_
  exact He.free_ok X G (T.a.fact 63 rfl)
theorem Tx.f_bool (T : Tx K mg) : mg "bool" = none := by
  obtain ⟨h, X, G⟩ := T.at_
  exact He.free_ok X G (T.a.fact 64 rfl)
theorem Tx.f_max (T : Tx K mg) : mg "max" = none := by
  obtain ⟨h, X, G⟩ := T.at_
  exact He.free_ok X G (T.a.fact 65 rfl)
theorem Tx.f_min (T : Tx K mg) : mg "min" = none := by
  obtain ⟨h, X, G⟩ := T.at_
  exact He.free_ok X G (T.a.fact 66 rfl)
theorem Tx.f_range (T : Tx K mg) : mg "range" = none := by
  obtain ⟨h, X, G⟩ := T.at_
  exact He.free_ok X G (T.a.fact 67 rfl)
theorem Tx.f_enumerate (T : Tx K mg) : mg "enumerate" = none := by
  obtain ⟨h, X, G⟩ := T.at_
  exact He.free_ok X G (T.a.fact 68 rfl)
theorem Tx.f_divmod (T : Tx K mg) : mg "divmod" = none := by
  obtain ⟨h, X, G⟩ := T.at_
  exact He.free_ok X G (T.a.fact 69 rfl)
theorem Tx.f_abs (T : Tx K mg) : mg "abs" = none := by
  obtain ⟨h, X, G⟩ := T.at_
  exact He.free_ok X G (T.a.fact 70 rfl)
theorem Tx.f_repr (T : Tx K mg) : mg "repr" = none := by
  obtain ⟨h, X, G⟩ := T.at_
  exact He.free_ok X G (T.a.fact 71 rfl)
theorem Tx.i_MOST_DIGITS (T : Tx K mg) : ∃ t, mg "MOST_DIGITS" = some (.int 3 t) := by
  obtain ⟨h, X, G⟩ := T.at_
  exact He.int_ok X G (T.a.fact 72 rfl)
theorem Tx.i_MOST_NAMES (T : Tx K mg) : ∃ t, mg "MOST_NAMES" = some (.int 3 t) := by
  obtain ⟨h, X, G⟩ := T.at_
  exact He.int_ok X G (T.a.fact 73 rfl)
theorem Tx.i_MOST (T : Tx K mg) : ∃ t, mg "MOST" = some (.int 9 t) := by
  obtain ⟨h, X, G⟩ := T.at_
  exact He.int_ok X G (T.a.fact 74 rfl)
theorem Tx.i_MOST_STAGES (T : Tx K mg) : ∃ t, mg "MOST_STAGES" = some (.int 8 t) := by
  obtain ⟨h, X, G⟩ := T.at_
  exact He.int_ok X G (T.a.fact 75 rfl)
theorem Tx.i_MOST_WORLD_ATOMS (T : Tx K mg) : ∃ t, mg "MOST_WORLD_ATOMS" = some (.int 6 t) := by
  obtain ⟨h, X, G⟩ := T.at_
  exact He.int_ok X G (T.a.fact 76 rfl)
theorem Tx.i_MOST_ATOM_NAMES (T : Tx K mg) : ∃ t, mg "MOST_ATOM_NAMES" = some (.int 30 t) := by
  obtain ⟨h, X, G⟩ := T.at_
  exact He.int_ok X G (T.a.fact 77 rfl)
theorem Tx.s_LETTERS (T : Tx K mg) : ∃ t, mg "LETTERS" = some (.str "abcdefghijklmnopqrstuvwyz" t) := by
  obtain ⟨h, X, G⟩ := T.at_
  exact He.str_ok X G (T.a.fact 78 rfl)
theorem Tx.s_DIGITS (T : Tx K mg) : ∃ t, mg "DIGITS" = some (.str "0123456789" t) := by
  obtain ⟨h, X, G⟩ := T.at_
  exact He.str_ok X G (T.a.fact 79 rfl)
theorem Tx.s_LAST_LINE (T : Tx K mg) : ∃ t, mg "LAST_LINE" = some (.str "return list(rows)" t) := by
  obtain ⟨h, X, G⟩ := T.at_
  exact He.str_ok X G (T.a.fact 80 rfl)
theorem Tx.cls_Stage (T : Tx K mg) : Cls K (He.ga K "Stage") := He.cls_ok (T.a.fact 81 rfl)
theorem Tx.mk_Stage (T : Tx K mg) : Mk K (He.ga K "Stage") (He.ma K (He.ga K "Stage") "__init__") := He.mkr_ok (T.a.fact 82 rfl)
theorem Tx.no_Stage_fields (T : Tx K mg) : NoAttr K (He.ga K "Stage") "fields" := He.noat_ok (T.a.fact 83 rfl)
theorem Tx.cls_Flow (T : Tx K mg) : Cls K (He.ga K "Flow") := He.cls_ok (T.a.fact 84 rfl)
theorem Tx.mk_Flow (T : Tx K mg) : Mk K (He.ga K "Flow") (He.ma K (He.ga K "Flow") "__init__") := He.mkr_ok (T.a.fact 85 rfl)
theorem Tx.no_Flow_kept (T : Tx K mg) : NoAttr K (He.ga K "Flow") "kept" := He.noat_ok (T.a.fact 86 rfl)
theorem Tx.cls_Gate (T : Tx K mg) : Cls K (He.ga K "Gate") := He.cls_ok (T.a.fact 87 rfl)
theorem Tx.mk_Gate (T : Tx K mg) : Mk K (He.ga K "Gate") (He.ma K (He.ga K "Gate") "__init__") := He.mkr_ok (T.a.fact 88 rfl)
theorem Tx.no_Gate_stage (T : Tx K mg) : NoAttr K (He.ga K "Gate") "stage" := He.noat_ok (T.a.fact 89 rfl)
theorem Tx.no_Gate_seen (T : Tx K mg) : NoAttr K (He.ga K "Gate") "seen" := He.noat_ok (T.a.fact 90 rfl)
theorem Tx.no_Gate_is_open (T : Tx K mg) : NoAttr K (He.ga K "Gate") "is_open" := He.noat_ok (T.a.fact 91 rfl)
theorem Tx.me_Gate_passed (T : Tx K mg) : Meth K (He.ga K "Gate") "passed" (He.ma K (He.ga K "Gate") "passed") := He.meth_ok (T.a.fact 92 rfl)
theorem Tx.cls_Teller (T : Tx K mg) : Cls K (He.ga K "Teller") := He.cls_ok (T.a.fact 93 rfl)
theorem Tx.mk_Teller (T : Tx K mg) : Mk K (He.ga K "Teller") (He.ma K (He.ga K "Teller") "__init__") := He.mkr_ok (T.a.fact 94 rfl)
theorem Tx.no_Teller_rows_told (T : Tx K mg) : NoAttr K (He.ga K "Teller") "rows_told" := He.noat_ok (T.a.fact 95 rfl)
theorem Tx.no_Teller_places (T : Tx K mg) : NoAttr K (He.ga K "Teller") "places" := He.noat_ok (T.a.fact 96 rfl)
theorem Tx.no_Teller_made (T : Tx K mg) : NoAttr K (He.ga K "Teller") "made" := He.noat_ok (T.a.fact 97 rfl)
theorem Tx.me_Teller_behind (T : Tx K mg) : Meth K (He.ga K "Teller") "behind" (He.ma K (He.ga K "Teller") "behind") := He.meth_ok (T.a.fact 98 rfl)
theorem Tx.me_Teller_is_true (T : Tx K mg) : Meth K (He.ga K "Teller") "is_true" (He.ma K (He.ga K "Teller") "is_true") := He.meth_ok (T.a.fact 99 rfl)
theorem Tx.cls_Play (T : Tx K mg) : Cls K (He.ga K "Play") := He.cls_ok (T.a.fact 100 rfl)
theorem Tx.mk_Play (T : Tx K mg) : Mk K (He.ga K "Play") (He.ma K (He.ga K "Play") "__init__") := He.mkr_ok (T.a.fact 101 rfl)
theorem Tx.no_Play_shown (T : Tx K mg) : NoAttr K (He.ga K "Play") "shown" := He.noat_ok (T.a.fact 102 rfl)
theorem Tx.cls_World (T : Tx K mg) : Cls K (He.ga K "World") := He.cls_ok (T.a.fact 103 rfl)
theorem Tx.mk_World (T : Tx K mg) : Mk K (He.ga K "World") (He.ma K (He.ga K "World") "__init__") := He.mkr_ok (T.a.fact 104 rfl)
theorem Tx.no_World_told (T : Tx K mg) : NoAttr K (He.ga K "World") "told" := He.noat_ok (T.a.fact 105 rfl)
theorem Tx.me_World_play (T : Tx K mg) : Meth K (He.ga K "World") "play" (He.ma K (He.ga K "World") "play") := He.meth_ok (T.a.fact 106 rfl)
theorem Tx.g_KINDS (T : Tx K mg) : mg "KINDS" = some (.ref (He.ga K "KINDS")) := by
  obtain ⟨h, X, G⟩ := T.at_
  exact He.glo_ok X G (T.a.fact 107 rfl)
theorem Tx.g_LIST_KINDS (T : Tx K mg) : mg "LIST_KINDS" = some (.ref (He.ga K "LIST_KINDS")) := by
  obtain ⟨h, X, G⟩ := T.at_
  exact He.glo_ok X G (T.a.fact 108 rfl)
theorem Tx.g_TESTED (T : Tx K mg) : mg "TESTED" = some (.ref (He.ga K "TESTED")) := by
  obtain ⟨h, X, G⟩ := T.at_
  exact He.glo_ok X G (T.a.fact 109 rfl)
theorem Tx.g_COUNTED (T : Tx K mg) : mg "COUNTED" = some (.ref (He.ga K "COUNTED")) := by
  obtain ⟨h, X, G⟩ := T.at_
  exact He.glo_ok X G (T.a.fact 110 rfl)
theorem Tx.d_is_integer (T : Tx K mg) : ∃ fd, FunD K "is_integer" "is_integer" (defArgs (top 23)) (defBody (top 23)) (defScope (top 23)) [] [] (He.ga K "is_integer") fd := T.a.def_ 0 rfl
theorem Tx.d_is_name (T : Tx K mg) : ∃ fd, FunD K "is_name" "is_name" (defArgs (top 24)) (defBody (top 24)) (defScope (top 24)) [] [] (He.ga K "is_name") fd := T.a.def_ 1 rfl
theorem Tx.d_are_names (T : Tx K mg) : ∃ fd, FunD K "are_names" "are_names" (defArgs (top 25)) (defBody (top 25)) (defScope (top 25)) [] [] (He.ga K "are_names") fd := T.a.def_ 2 rfl
theorem Tx.d_is_word (T : Tx K mg) : ∃ fd, FunD K "is_word" "is_word" (defArgs (top 26)) (defBody (top 26)) (defScope (top 26)) [] [] (He.ga K "is_word") fd := T.a.def_ 3 rfl
theorem Tx.d_is_test (T : Tx K mg) : ∃ fd, FunD K "is_test" "is_test" (defArgs (top 27)) (defBody (top 27)) (defScope (top 27)) [] [] (He.ga K "is_test") fd := T.a.def_ 4 rfl
theorem Tx.d_applied (T : Tx K mg) : ∃ fd, FunD K "applied" "applied" (defArgs (top 28)) (defBody (top 28)) (defScope (top 28)) [] [] (He.ga K "applied") fd := T.a.def_ 5 rfl
theorem Tx.d_is_count (T : Tx K mg) : ∃ fd, FunD K "is_count" "is_count" (defArgs (top 33)) (defBody (top 33)) (defScope (top 33)) [] [] (He.ga K "is_count") fd := T.a.def_ 6 rfl
theorem Tx.d_is_detail (T : Tx K mg) : ∃ fd, FunD K "is_detail" "is_detail" (defArgs (top 34)) (defBody (top 34)) (defScope (top 34)) [] [] (He.ga K "is_detail") fd := T.a.def_ 7 rfl
theorem Tx.d_comprehension (T : Tx K mg) : ∃ fd, FunD K "comprehension" "comprehension" (defArgs (top 35)) (defBody (top 35)) (defScope (top 35)) [] [] (He.ga K "comprehension") fd := T.a.def_ 8 rfl
theorem Tx.d_call (T : Tx K mg) : ∃ fd, FunD K "call" "call" (defArgs (top 36)) (defBody (top 36)) (defScope (top 36)) [] [] (He.ga K "call") fd := T.a.def_ 9 rfl
theorem Tx.d_line_of (T : Tx K mg) : ∃ fd, FunD K "line_of" "line_of" (defArgs (top 37)) (defBody (top 37)) (defScope (top 37)) [] [] (He.ga K "line_of") fd := T.a.def_ 10 rfl
theorem Tx.d_Stage___init__ (T : Tx K mg) : ∃ fd, FunD K "__init__" "Stage.__init__" (defArgs (inClass (top 38) 0)) (defBody (inClass (top 38) 0)) (defScope (inClass (top 38) 0)) [.non] [("now", .bl false)] (He.ma K (He.ga K "Stage") "__init__") fd := T.a.def_ 11 rfl
theorem Tx.d_Stage_kind (T : Tx K mg) : ∃ fd, FunD K "kind" "Stage.kind" (defArgs (inClass (top 38) 1)) (defBody (inClass (top 38) 1)) (defScope (inClass (top 38) 1)) [] [] (He5.wf K (He.ga K "Stage") "property" "kind") fd := T.a.def_ 12 rfl
theorem Tx.d_Stage_detail (T : Tx K mg) : ∃ fd, FunD K "detail" "Stage.detail" (defArgs (inClass (top 38) 2)) (defBody (inClass (top 38) 2)) (defScope (inClass (top 38) 2)) [] [] (He5.wf K (He.ga K "Stage") "property" "detail") fd := T.a.def_ 13 rfl
theorem Tx.d_Stage_now (T : Tx K mg) : ∃ fd, FunD K "now" "Stage.now" (defArgs (inClass (top 38) 3)) (defBody (inClass (top 38) 3)) (defScope (inClass (top 38) 3)) [] [] (He5.wf K (He.ga K "Stage") "property" "now") fd := T.a.def_ 14 rfl
theorem Tx.d_Stage___str__ (T : Tx K mg) : ∃ fd, FunD K "__str__" "Stage.__str__" (defArgs (inClass (top 38) 7)) (defBody (inClass (top 38) 7)) (defScope (inClass (top 38) 7)) [] [] (He.ma K (He.ga K "Stage") "__str__") fd := T.a.def_ 15 rfl
theorem Tx.d_Flow___init__ (T : Tx K mg) : ∃ fd, FunD K "__init__" "Flow.__init__" (defArgs (inClass (top 57) 0)) (defBody (inClass (top 57) 0)) (defScope (inClass (top 57) 0)) [] [] (He.ma K (He.ga K "Flow") "__init__") fd := T.a.def_ 16 rfl
theorem Tx.d_Flow_of (T : Tx K mg) : ∃ fd, FunD K "of" "Flow.of" (defArgs (inClass (top 57) 1)) (defBody (inClass (top 57) 1)) (defScope (inClass (top 57) 1)) [] [] (He5.wf K (He.ga K "Flow") "classmethod" "of") fd := T.a.def_ 17 rfl
theorem Tx.d_Flow_stages (T : Tx K mg) : ∃ fd, FunD K "stages" "Flow.stages" (defArgs (inClass (top 57) 3)) (defBody (inClass (top 57) 3)) (defScope (inClass (top 57) 3)) [] [] (He5.wf K (He.ga K "Flow") "property" "stages") fd := T.a.def_ 18 rfl
theorem Tx.d_Flow_atoms (T : Tx K mg) : ∃ fd, FunD K "atoms" "Flow.atoms" (defArgs (inClass (top 57) 7)) (defBody (inClass (top 57) 7)) (defScope (inClass (top 57) 7)) [] [] (He5.wf K (He.ga K "Flow") "property" "atoms") fd := T.a.def_ 19 rfl
theorem Tx.d_Flow___str__ (T : Tx K mg) : ∃ fd, FunD K "__str__" "Flow.__str__" (defArgs (inClass (top 57) 14)) (defBody (inClass (top 57) 14)) (defScope (inClass (top 57) 14)) [] [] (He.ma K (He.ga K "Flow") "__str__") fd := T.a.def_ 20 rfl
theorem Tx.d_check_flow (T : Tx K mg) : ∃ fd, FunD K "check_flow" "check_flow" (defArgs (top 58)) (defBody (top 58)) (defScope (top 58)) [] [] (He.ga K "check_flow") fd := T.a.def_ 21 rfl
theorem Tx.d_parts_of (T : Tx K mg) : ∃ fd, FunD K "parts_of" "parts_of" (defArgs (top 61)) (defBody (top 61)) (defScope (top 61)) [] [] (He.ga K "parts_of") fd := T.a.def_ 22 rfl
theorem Tx.d_left_of (T : Tx K mg) : ∃ fd, FunD K "left_of" "left_of" (defArgs (top 62)) (defBody (top 62)) (defScope (top 62)) [] [] (He.ga K "left_of") fd := T.a.def_ 23 rfl
theorem Tx.d_is_counted_in (T : Tx K mg) : ∃ fd, FunD K "is_counted_in" "is_counted_in" (defArgs (top 63)) (defBody (top 63)) (defScope (top 63)) [] [] (He.ga K "is_counted_in") fd := T.a.def_ 24 rfl
theorem Tx.d_Gate___init__ (T : Tx K mg) : ∃ fd, FunD K "__init__" "Gate.__init__" (defArgs (inClass (top 64) 0)) (defBody (inClass (top 64) 0)) (defScope (inClass (top 64) 0)) [] [] (He.ma K (He.ga K "Gate") "__init__") fd := T.a.def_ 25 rfl
theorem Tx.d_Gate_passed (T : Tx K mg) : ∃ fd, FunD K "passed" "Gate.passed" (defArgs (inClass (top 64) 1)) (defBody (inClass (top 64) 1)) (defScope (inClass (top 64) 1)) [] [] (He.ma K (He.ga K "Gate") "passed") fd := T.a.def_ 26 rfl
theorem Tx.d_played_part (T : Tx K mg) : ∃ fd, FunD K "played_part" "played_part" (defArgs (top 65)) (defBody (top 65)) (defScope (top 65)) [] [] (He.ga K "played_part") fd := T.a.def_ 27 rfl
theorem Tx.d_played (T : Tx K mg) : ∃ fd, FunD K "played" "played" (defArgs (top 66)) (defBody (top 66)) (defScope (top 66)) [] [] (He.ga K "played") fd := T.a.def_ 28 rfl
theorem Tx.d_check_atoms (T : Tx K mg) : ∃ fd, FunD K "check_atoms" "check_atoms" (defArgs (top 70)) (defBody (top 70)) (defScope (top 70)) [] [] (He.ga K "check_atoms") fd := T.a.def_ 29 rfl
theorem Tx.d_is_row (T : Tx K mg) : ∃ fd, FunD K "is_row" "is_row" (defArgs (top 71)) (defBody (top 71)) (defScope (top 71)) [] [] (He.ga K "is_row") fd := T.a.def_ 30 rfl
theorem Tx.d_check_rows (T : Tx K mg) : ∃ fd, FunD K "check_rows" "check_rows" (defArgs (top 72)) (defBody (top 72)) (defScope (top 72)) [] [] (He.ga K "check_rows") fd := T.a.def_ 31 rfl
theorem Tx.d_term_of (T : Tx K mg) : ∃ fd, FunD K "term_of" "term_of" (defArgs (top 73)) (defBody (top 73)) (defScope (top 73)) [] [] (He.ga K "term_of") fd := T.a.def_ 32 rfl
theorem Tx.d_Teller___init__ (T : Tx K mg) : ∃ fd, FunD K "__init__" "Teller.__init__" (defArgs (inClass (top 74) 0)) (defBody (inClass (top 74) 0)) (defScope (inClass (top 74) 0)) [] [] (He.ma K (He.ga K "Teller") "__init__") fd := T.a.def_ 33 rfl
theorem Tx.d_Teller_behind (T : Tx K mg) : ∃ fd, FunD K "behind" "Teller.behind" (defArgs (inClass (top 74) 1)) (defBody (inClass (top 74) 1)) (defScope (inClass (top 74) 1)) [] [] (He.ma K (He.ga K "Teller") "behind") fd := T.a.def_ 34 rfl
theorem Tx.d_Teller_is_true (T : Tx K mg) : ∃ fd, FunD K "is_true" "Teller.is_true" (defArgs (inClass (top 74) 2)) (defBody (inClass (top 74) 2)) (defScope (inClass (top 74) 2)) [] [] (He.ma K (He.ga K "Teller") "is_true") fd := T.a.def_ 35 rfl
theorem Tx.d_Play___init__ (T : Tx K mg) : ∃ fd, FunD K "__init__" "Play.__init__" (defArgs (inClass (top 75) 0)) (defBody (inClass (top 75) 0)) (defScope (inClass (top 75) 0)) [] [] (He.ma K (He.ga K "Play") "__init__") fd := T.a.def_ 36 rfl
theorem Tx.d_Play_entries (T : Tx K mg) : ∃ fd, FunD K "entries" "Play.entries" (defArgs (inClass (top 75) 1)) (defBody (inClass (top 75) 1)) (defScope (inClass (top 75) 1)) [] [] (He5.wf K (He.ga K "Play") "property" "entries") fd := T.a.def_ 37 rfl
theorem Tx.d_Play_calls (T : Tx K mg) : ∃ fd, FunD K "calls" "Play.calls" (defArgs (inClass (top 75) 2)) (defBody (inClass (top 75) 2)) (defScope (inClass (top 75) 2)) [] [] (He5.wf K (He.ga K "Play") "property" "calls") fd := T.a.def_ 38 rfl
theorem Tx.d_World___init__ (T : Tx K mg) : ∃ fd, FunD K "__init__" "World.__init__" (defArgs (inClass (top 76) 0)) (defBody (inClass (top 76) 0)) (defScope (inClass (top 76) 0)) [] [] (He.ma K (He.ga K "World") "__init__") fd := T.a.def_ 39 rfl
theorem Tx.d_World_play (T : Tx K mg) : ∃ fd, FunD K "play" "World.play" (defArgs (inClass (top 76) 6)) (defBody (inClass (top 76) 6)) (defScope (inClass (top 76) 6)) [] [] (He.ma K (He.ga K "World") "play") fd := T.a.def_ 40 rfl
theorem Tx.d__law_cell (T : Tx K mg) : ∃ fd, FunD K "_law_cell" "_law_cell" (defArgs (top 78)) (defBody (top 78)) (defScope (top 78)) [] [] (He.ga K "_law_cell") fd := T.a.def_ 41 rfl
theorem Tx.d__law_purse (T : Tx K mg) : ∃ fd, FunD K "_law_purse" "_law_purse" (defArgs (top 79)) (defBody (top 79)) (defScope (top 79)) [] [] (He.ga K "_law_purse") fd := T.a.def_ 42 rfl
theorem Tx.d__law_take (T : Tx K mg) : ∃ fd, FunD K "_law_take" "_law_take" (defArgs (top 80)) (defBody (top 80)) (defScope (top 80)) [] [] (He.ga K "_law_take") fd := T.a.def_ 43 rfl
theorem Tx.d__law_name (T : Tx K mg) : ∃ fd, FunD K "_law_name" "_law_name" (defArgs (top 81)) (defBody (top 81)) (defScope (top 81)) [] [] (He.ga K "_law_name") fd := T.a.def_ 44 rfl
theorem Tx.d__law_tags (T : Tx K mg) : ∃ fd, FunD K "_law_tags" "_law_tags" (defArgs (top 82)) (defBody (top 82)) (defScope (top 82)) [] [] (He.ga K "_law_tags") fd := T.a.def_ 45 rfl
theorem Tx.d__law_labels (T : Tx K mg) : ∃ fd, FunD K "_law_labels" "_law_labels" (defArgs (top 83)) (defBody (top 83)) (defScope (top 83)) [] [] (He.ga K "_law_labels") fd := T.a.def_ 46 rfl
theorem Tx.d__law_detail (T : Tx K mg) : ∃ fd, FunD K "_law_detail" "_law_detail" (defArgs (top 84)) (defBody (top 84)) (defScope (top 84)) [] [] (He.ga K "_law_detail") fd := T.a.def_ 47 rfl
theorem Tx.d__law_part (T : Tx K mg) : ∃ fd, FunD K "_law_part" "_law_part" (defArgs (top 85)) (defBody (top 85)) (defScope (top 85)) [] [] (He.ga K "_law_part") fd := T.a.def_ 48 rfl
theorem Tx.d__law_stage (T : Tx K mg) : ∃ fd, FunD K "_law_stage" "_law_stage" (defArgs (top 86)) (defBody (top 86)) (defScope (top 86)) [] [] (He.ga K "_law_stage") fd := T.a.def_ 49 rfl
theorem Tx.d__law_flow (T : Tx K mg) : ∃ fd, FunD K "_law_flow" "_law_flow" (defArgs (top 87)) (defBody (top 87)) (defScope (top 87)) [] [] (He.ga K "_law_flow") fd := T.a.def_ 50 rfl
theorem Tx.d__law_atoms (T : Tx K mg) : ∃ fd, FunD K "_law_atoms" "_law_atoms" (defArgs (top 88)) (defBody (top 88)) (defScope (top 88)) [] [] (He.ga K "_law_atoms") fd := T.a.def_ 51 rfl
theorem Tx.d__law_few (T : Tx K mg) : ∃ fd, FunD K "_law_few" "_law_few" (defArgs (top 89)) (defBody (top 89)) (defScope (top 89)) [] [] (He.ga K "_law_few") fd := T.a.def_ 52 rfl
theorem Tx.d__law_asked (T : Tx K mg) : ∃ fd, FunD K "_law_asked" "_law_asked" (defArgs (top 90)) (defBody (top 90)) (defScope (top 90)) [] [] (He.ga K "_law_asked") fd := T.a.def_ 53 rfl
theorem Tx.d__law_playable (T : Tx K mg) : ∃ fd, FunD K "_law_playable" "_law_playable" (defArgs (top 91)) (defBody (top 91)) (defScope (top 91)) [] [] (He.ga K "_law_playable") fd := T.a.def_ 54 rfl
theorem Tx.d__law_truths (T : Tx K mg) : ∃ fd, FunD K "_law_truths" "_law_truths" (defArgs (top 92)) (defBody (top 92)) (defScope (top 92)) [] [] (He.ga K "_law_truths") fd := T.a.def_ 55 rfl
theorem Tx.d__law_apply (T : Tx K mg) : ∃ fd, FunD K "_law_apply" "_law_apply" (defArgs (top 93)) (defBody (top 93)) (defScope (top 93)) [] [] (He.ga K "_law_apply") fd := T.a.def_ 56 rfl
theorem Tx.d__law_passes (T : Tx K mg) : ∃ fd, FunD K "_law_passes" "_law_passes" (defArgs (top 94)) (defBody (top 94)) (defScope (top 94)) [] [] (He.ga K "_law_passes") fd := T.a.def_ 57 rfl
theorem Tx.d__law_pull (T : Tx K mg) : ∃ fd, FunD K "_law_pull" "_law_pull" (defArgs (top 95)) (defBody (top 95)) (defScope (top 95)) [] [] (He.ga K "_law_pull") fd := T.a.def_ 58 rfl
theorem Tx.d__law_pull_slice (T : Tx K mg) : ∃ fd, FunD K "_law_pull_slice" "_law_pull_slice" (defArgs (top 96)) (defBody (top 96)) (defScope (top 96)) [] [] (He.ga K "_law_pull_slice") fd := T.a.def_ 59 rfl
theorem Tx.d__law_all (T : Tx K mg) : ∃ fd, FunD K "_law_all" "_law_all" (defArgs (top 97)) (defBody (top 97)) (defScope (top 97)) [] [] (He.ga K "_law_all") fd := T.a.def_ 60 rfl
theorem Tx.d__law_names_of (T : Tx K mg) : ∃ fd, FunD K "_law_names_of" "_law_names_of" (defArgs (top 98)) (defBody (top 98)) (defScope (top 98)) [] [] (He.ga K "_law_names_of") fd := T.a.def_ 61 rfl
theorem Tx.d__law_call_begun (T : Tx K mg) : ∃ fd, FunD K "_law_call_begun" "_law_call_begun" (defArgs (top 99)) (defBody (top 99)) (defScope (top 99)) [] [] (He.ga K "_law_call_begun") fd := T.a.def_ 62 rfl
theorem Tx.d__law_line_done (T : Tx K mg) : ∃ fd, FunD K "_law_line_done" "_law_line_done" (defArgs (top 100)) (defBody (top 100)) (defScope (top 100)) [] [] (He.ga K "_law_line_done") fd := T.a.def_ 63 rfl
theorem Tx.d__law_carried (T : Tx K mg) : ∃ fd, FunD K "_law_carried" "_law_carried" (defArgs (top 101)) (defBody (top 101)) (defScope (top 101)) [] [] (He.ga K "_law_carried") fd := T.a.def_ 64 rfl
theorem Tx.d__law_answer (T : Tx K mg) : ∃ fd, FunD K "_law_answer" "_law_answer" (defArgs (top 102)) (defBody (top 102)) (defScope (top 102)) [] [] (He.ga K "_law_answer") fd := T.a.def_ 65 rfl
theorem Tx.d__law_truth (T : Tx K mg) : ∃ fd, FunD K "_law_truth" "_law_truth" (defArgs (top 103)) (defBody (top 103)) (defScope (top 103)) [] [] (He.ga K "_law_truth") fd := T.a.def_ 66 rfl
theorem Tx.d__law_played_right (T : Tx K mg) : ∃ fd, FunD K "_law_played_right" "_law_played_right" (defArgs (top 104)) (defBody (top 104)) (defScope (top 104)) [] [] (He.ga K "_law_played_right") fd := T.a.def_ 67 rfl
theorem Tx.d__law_right (T : Tx K mg) : ∃ fd, FunD K "_law_right" "_law_right" (defArgs (top 105)) (defBody (top 105)) (defScope (top 105)) [] [] (He.ga K "_law_right") fd := T.a.def_ 68 rfl
theorem Tx.d_law (T : Tx K mg) : ∃ fd, FunD K "law" "law" (defArgs (top 106)) (defBody (top 106)) (defScope (top 106)) [] [] (He.ga K "law") fd := T.a.def_ 69 rfl
theorem Tx.t_KINDS (T : Tx K mg) (H : Hp) : SqT K H (He.ga K "KINDS") [.str "each", .str "keep", .str "drop", .str "while", .str "from", .str "first", .str "skip", .str "every", .str "last", .str "but last", .str "turned"] := He.tupB_ok (vs := [.str "each", .str "keep", .str "drop", .str "while", .str "from", .str "first", .str "skip", .str "every", .str "last", .str "but last", .str "turned"]) (T.m 0 rfl) H
theorem Tx.t_LIST_KINDS (T : Tx K mg) (H : Hp) : SqT K H (He.ga K "LIST_KINDS") [.str "last", .str "but last", .str "turned"] := He.tupB_ok (vs := [.str "last", .str "but last", .str "turned"]) (T.m 1 rfl) H
theorem Tx.t_TESTED (T : Tx K mg) (H : Hp) : SqT K H (He.ga K "TESTED") [.str "keep", .str "drop", .str "while", .str "from"] := He.tupB_ok (vs := [.str "keep", .str "drop", .str "while", .str "from"]) (T.m 2 rfl) H
theorem Tx.t_COUNTED (T : Tx K mg) (H : Hp) : SqT K H (He.ga K "COUNTED") [.str "first", .str "skip", .str "every"] := He.tupB_ok (vs := [.str "first", .str "skip", .str "every"]) (T.m 3 rfl) H
theorem Tx.p_Stage_kind (T : Tx K mg) : PropOf K (He.ga K "Stage") "kind" (He.ma K (He.ga K "Stage") "kind") (He5.wf K (He.ga K "Stage") "property" "kind") := propB_ok (T.m 4 rfl)
theorem Tx.p_Stage_detail (T : Tx K mg) : PropOf K (He.ga K "Stage") "detail" (He.ma K (He.ga K "Stage") "detail") (He5.wf K (He.ga K "Stage") "property" "detail") := propB_ok (T.m 5 rfl)
theorem Tx.p_Stage_now (T : Tx K mg) : PropOf K (He.ga K "Stage") "now" (He.ma K (He.ga K "Stage") "now") (He5.wf K (He.ga K "Stage") "property" "now") := propB_ok (T.m 6 rfl)
theorem Tx.p_Flow_stages (T : Tx K mg) : PropOf K (He.ga K "Flow") "stages" (He.ma K (He.ga K "Flow") "stages") (He5.wf K (He.ga K "Flow") "property" "stages") := propB_ok (T.m 7 rfl)
theorem Tx.p_Flow_atoms (T : Tx K mg) : PropOf K (He.ga K "Flow") "atoms" (He.ma K (He.ga K "Flow") "atoms") (He5.wf K (He.ga K "Flow") "property" "atoms") := propB_ok (T.m 8 rfl)
theorem Tx.p_Play_entries (T : Tx K mg) : PropOf K (He.ga K "Play") "entries" (He.ma K (He.ga K "Play") "entries") (He5.wf K (He.ga K "Play") "property" "entries") := propB_ok (T.m 9 rfl)
theorem Tx.p_Play_calls (T : Tx K mg) : PropOf K (He.ga K "Play") "calls" (He.ma K (He.ga K "Play") "calls") (He5.wf K (He.ga K "Play") "property" "calls") := propB_ok (T.m 10 rfl)
theorem Tx.c_Flow_of (T : Tx K mg) : ClX.CMet K (He.ga K "Flow") (.type "type") "of" (He.ma K (He.ga K "Flow") "of") (He5.wf K (He.ga K "Flow") "classmethod" "of") := He5.cmet_of (He.ba (T.m 11 rfl)).1 (He.ba (T.m 11 rfl)).2
theorem Tx.r_Flow (T : Tx K mg) : ClX.CRead K (He.ga K "Flow") (.type "type") := ⟨(He.ba (T.m 12 rfl)).1, He.eqO_ok (He.ba (T.m 12 rfl)).2⟩
theorem Tx.str_Stage (T : Tx K mg) : PySem.W.findIn K (.ref (He.ga K "Stage")) "__str__" = some (some (.ref (He.ma K (He.ga K "Stage") "__str__"))) ∧ PySem.W.isFn K (.ref (He.ma K (He.ga K "Stage") "__str__")) = true := ⟨He.eqO_ok (He.ba (T.m 13 rfl)).1, (He.ba (T.m 13 rfl)).2⟩
theorem Tx.str_Flow (T : Tx K mg) : PySem.W.findIn K (.ref (He.ga K "Flow")) "__str__" = some (some (.ref (He.ma K (He.ga K "Flow") "__str__"))) ∧ PySem.W.isFn K (.ref (He.ma K (He.ga K "Flow") "__str__")) = true := ⟨He.eqO_ok (He.ba (T.m 14 rfl)).1, (He.ba (T.m 14 rfl)).2⟩
theorem Tx.ins_Stage (T : Tx K mg) : C8.InsC K (He.ga K "Stage") := insB_ok (T.m 15 rfl) T.cls_Stage
theorem Tx.ins_Flow (T : Tx K mg) : C8.InsC K (He.ga K "Flow") := insB_ok (T.m 16 rfl) T.cls_Flow
end
end CF

/-! text CfHa -/
set_option Elab.async false
set_option linter.all false
set_option maxRecDepth 100000
set_option maxHeartbeats 0
/-! the head: the top run once, what it has left -/
namespace CF
open PySem PySem.Spec PyProof.Rows L2
def nm0 : List PySem.Str := ["_wall", "FlowError", "InvalidKind", "InvalidDetail", "InvalidMode", "InvalidStages", "InvalidText", "WrongLine", "InvalidAtoms", "InvalidRow", "InvalidIndex", "NotAFlow", "LackError", "NotTold", "KINDS", "LIST_KINDS", "MOST_STAGES", "LETTERS", "DIGITS", "MOST_DIGITS"]
def nm1 : List PySem.Str := ["MOST_NAMES", "is_integer", "is_name", "are_names", "is_word", "is_test", "applied", "names_in", "TESTED", "MOST", "is_count", "is_detail", "comprehension", "call", "line_of", "Stage", "BEGIN", "LAST_LINE", "LOOP", "LAMBDA"]
def nm2 : List PySem.Str := ["CALLS", "MOST_CONDITIONS", "inside", "digit_in", "condition_in", "comprehension_in", "slice_in", "call_in", "list_in", "stages_in", "read_stages", "check_index", "Flow", "check_flow", "COUNTED", "parts_of", "left_of", "is_counted_in", "Gate", "played_part"]
def nm3 : List PySem.Str := ["played", "MOST_WORLD_ATOMS", "MOST_ATOM_NAMES", "check_atoms", "is_row", "check_rows", "term_of", "Teller", "Play", "World", "_law_cell", "_law_purse", "_law_take", "_law_name", "_law_tags", "_law_labels", "_law_detail", "_law_part", "_law_stage", "_law_flow"]
def nm4 : List PySem.Str := ["_law_atoms", "_law_few", "_law_asked", "_law_playable", "_law_truths", "_law_apply", "_law_passes", "_law_pull", "_law_pull_slice", "_law_all", "_law_names_of", "_law_call_begun", "_law_line_done", "_law_carried", "_law_answer", "_law_truth", "_law_played_right", "_law_right"]
def nms : List PySem.Str := nm0 ++ nm1 ++ nm2 ++ nm3 ++ nm4
abbrev RR : PySem.W.OpenRow := PySem.W.OpenLaw.row PySem.Challenge.rw_callflows_k18_whole_texts_carried_out
/-- the facts, out of the objects that the names reach -/
def refsC (o : Obj) : List Addr := match o.data with
  | .dict es _ => es.toList.flatMap fun e => He.refV e.val
  | .func fd => He.refV fd.code ++ (He.refV fd.defaults ++ He.refV fd.kwdefaults)
  | .cls cd => [cd.ns]
  | .fields vs => vs.toList.flatMap He.refV
  | _ => []
def dfsC (g : Addr → Option Obj) : Nat → Addr → List Addr
  | 0, a => [a]
  | n + 1, a => a :: (match g a with
    | some o => (refsC o).flatMap (dfsC g n)
    | none => [])
def rootA (g : Addr → Option Obj) (x : PySem.Str) : List Addr := match g mainGlobals with
  | some ⟨_, _, .dict es _, _⟩ => (match es.toList.find? (·.key.isStr x) with
    | some e => He.refV e.val
    | none => [])
  | _ => []
def rts : List PySem.Str := ["Stage", "Flow", "Gate", "Teller", "Play", "World", "KINDS", "LIST_KINDS", "TESTED", "COUNTED"]
def fnsN : List PySem.Str := (fn.filter fun d => decide (d.name = d.qual)).map fun d => d.name
def asC (g : Addr → Option Obj) : List Addr := cStatics :: mainGlobals :: (rts.flatMap fun x => (rootA g x).flatMap (dfsC g 5)) ++ (fnsN.flatMap fun x => (rootA g x).flatMap (dfsC g 2))
def forceA {β : Type} : List Addr → (List Addr → β) → β
  | [], k => k []
  | a :: r, k => HandSHeadRun.frNat a fun a => forceA r fun l => k (a :: l)
theorem forceA_eq {β : Type} : ∀ (l : List Addr) (k : List Addr → β), forceA l k = k l
  | [], _ => rfl
  | a :: r, k => by
    show (HandSHeadRun.frNat a fun a => forceA r fun l => k (a :: l)) = _
    rw [HandSHeadRun.frNat_eq, forceA_eq r]
def forceK {β : Type} (g : Addr → Option Obj) : List Addr → (PySem.W.Frag → β) → β
  | [], k => k []
  | a :: r, k => match g a with
    | some o => forceK g r fun l => k ((a, o) :: l)
    | none => forceK g r k
theorem forceK_eq {β : Type} {g : Addr → Option Obj} : ∀ (l : List Addr) (k : PySem.W.Frag → β), forceK g l k = k (He.frG g l)
  | [], _ => rfl
  | a :: r, k => by
    show (match g a with
    | some o => forceK g r fun l => k ((a, o) :: l)
    | none => forceK g r k) = _
    unfold He.frG
    rw [List.filterMap_cons]
    cases g a with
    | none => exact forceK_eq r k
    | some o => exact forceK_eq r _
def obsCG (g : Addr → Option Obj) : He.AlD := obsC (He.frG g (asC g))
def hookC : PySem.W.Hook where
  α := He.AlD
  obs := fun s => obsCG s.heap.get?
  val := fun _ => valC
  says := fun _ h => ∃ K : PySem.W.Frag, K.In h ∧ obsC K = valC
  of := fun _ _ e => ⟨_, He.frG_in, e⟩
  keeps := fun _ _ _ ⟨K, hK, c⟩ k => ⟨K, PySem.W.Frag.In.keeps hK k, c⟩
theorem obsCG_eq {g : Addr → Option Obj} {s : Shared} (h : ∀ a, g a = s.heap.get? a) : obsCG g = hookC.obs s := by
  have e : g = s.heap.get? := funext h
  rw [e] <;> rfl
abbrev hk : PySem.W.Hook := hookC
/-- the part of the heap, made -/
def withK {β : Type} (s : PySem.W.SharedT) (k : PySem.W.Frag → β) : β := forceA (asC (HandSHeadRun.getT s)) fun as => forceK (HandSHeadRun.getT s) as k
theorem withK_eq {β : Type} (s : PySem.W.SharedT) (k : PySem.W.Frag → β) : withK s k = k (He.frG (HandSHeadRun.getT s) (asC (HandSHeadRun.getT s))) := by
  unfold withK
  rw [forceA_eq, forceK_eq]
def ob (s : PySem.W.SharedT) : He.AlD := withK s obsC
theorem ob_eq (s : PySem.W.SharedT) : ob s = hk.obs s.abs := by
  unfold ob
  rw [withK_eq]
  exact obsCG_eq (HandSHeadRun.getT_eq s)
/-- the end of the top's run -/
noncomputable def endC (b : Bool) (w : World) (os : OsState) : Option PySem.W.SharedT := HandSHeadRun.endF (HandSHeadRun.stepQ (HandSHeadRun.denQ HandSHeadRun.tabQ) RR.prog (w.withFollow "special-get-raises" b)) 20000 RR.prog (w.withFollow "special-get-raises" b) os
abbrev qv : Program := PySem.W.view RR.prog [106]
open PySem.W PySem.Calls in
noncomputable def seenC (b : Bool) (w : World) (s : PySem.W.SharedT) := (HandSHeadRun.looksF RR.prog (boot_heap (w.withFollow "special-get-raises" b).params) s.abs, HandSHeadRun.seenQ qv nms (importedModules RR.prog.main.body) (fun s => PySem.W.xlAt qv [] s && PySem.W.recOk RR.toRowW.records s) s.abs)
def bitsC (s : PySem.W.SharedT) : Bool := withK s fun K => (fa.all fun f => f.ok K) && more K
def defsC (s : PySem.W.SharedT) : He.AlD := withK s fun K => (fn.all fun d => d.ok K, fn.map fun d => He5.fnA K (d.at_ K))
end CF

/-! text CfHb -/
set_option Elab.async false
set_option linter.all false
set_option maxRecDepth 100000
set_option maxHeartbeats 0
/-! the runs -/
namespace CF
open PySem PySem.Spec PyProof.Rows L2
theorem seen_f (w : World) (os : OsState) : (endC false w os).map (seenC false w) = some (true, PySem.W.openGood qv nms) := by kernel_rfl
theorem seen_t (w : World) (os : OsState) : (endC true w os).map (seenC true w) = some (true, PySem.W.openGood qv nms) := by kernel_rfl
theorem bits_f (w : World) (os : OsState) : (endC false w os).map bitsC = some true := by kernel_rfl
theorem bits_t (w : World) (os : OsState) : (endC true w os).map bitsC = some true := by kernel_rfl
theorem defs_f (w : World) (os : OsState) : (endC false w os).map defsC = some (true, fn.map He5.DefA.val) := by kernel_rfl
theorem defs_t (w : World) (os : OsState) : (endC true w os).map defsC = some (true, fn.map He5.DefA.val) := by kernel_rfl
end CF

/-! text CfHc -/
set_option Elab.async false
set_option linter.all false
set_option maxRecDepth 100000
set_option maxHeartbeats 400000
/-! the joins -/
namespace CF
open PySem PySem.Spec PyProof.Rows L2
theorem joinC {S A B : Type} {o : Option S} {f1 : S → Bool} {f2 : S → A} {f3 : S → B} {a : A} {v : B} (e1 : o.map (fun s => (f1 s, f2 s)) = some (true, a)) (e3 : ∀ s, o = some s → f3 s = v) : o.map (fun s => (f1 s, f2 s, f3 s)) = some (true, a, v) := by
  obtain ⟨s, h, h1⟩ := Option.map_eq_some_iff.mp e1
  rw [h]
  obtain ⟨l1, l2⟩ := Prod.mk.inj h1
  exact congrArg some (Prod.ext l1 (Prod.ext l2 (e3 s h)))
theorem pairB {α β : Type} {a b c : Bool} {x : β} {y : β} (h1 : (a && b) = true) (h2 : (c, x) = (true, y)) : ((a && c) && b, x) = (true, y) := by
  obtain ⟨q1, q2⟩ := He.ba h1
  obtain ⟨q3, q4⟩ := Prod.mk.inj h2
  rw [q1, q2, q3, q4]
  rfl
theorem ob_of {s : PySem.W.SharedT} (h2 : bitsC s = true) (h3 : defsC s = (true, fn.map He5.DefA.val)) : ob s = valC := by
  unfold bitsC at h2
  unfold defsC at h3
  rw [withK_eq] at h2 h3
  unfold ob
  rw [withK_eq]
  unfold obsC He5.obsA valC He5.valA
  exact pairB (α := Unit) h2 h3
theorem ob_run {b : Bool} {w : World} {os : OsState} (e2 : (endC b w os).map bitsC = some true) (e3 : (endC b w os).map defsC = some (true, fn.map He5.DefA.val)) : ∀ s, endC b w os = some s → ob s = valC := by
  intro s h
  rw [h] at e2 e3
  exact ob_of (Option.some.inj e2) (Option.some.inj e3)
end CF

/-! text CfHr -/
set_option Elab.async false
set_option linter.all false
set_option maxRecDepth 100000
set_option maxHeartbeats 400000
/-! the run's equation -/
namespace CF
open PySem PySem.Spec PyProof.Rows L2
theorem run_of {b : Bool} (w : World) (e1 : ∀ os, (endC b w os).map (seenC b w) = some (true, PySem.W.openGood qv nms)) (e2 : ∀ os, (endC b w os).map bitsC = some true) (e3 : ∀ os, (endC b w os).map defsC = some (true, fn.map He5.DefA.val)) :
    HandSHeadRun.RunEq RR qv hk ob 20000 nms (w.withFollow "special-get-raises" b) := fun os => joinC (e1 os) (ob_run (e2 os) (e3 os))
theorem run (w : World) : HandSHeadRun.RunEq RR qv hk ob 20000 nms w :=
  PySem.W.byRow2 "special-get-raises" (P := fun w => HandSHeadRun.RunEq RR qv hk ob 20000 nms w) (fun w => run_of w (seen_f w) (bits_f w) (defs_f w)) (fun w => run_of w (seen_t w) (bits_t w) (defs_t w)) w
end CF

/-! text CfEnum -/
set_option Elab.async false
set_option linter.all false
set_option maxRecDepth 100000
set_option maxHeartbeats 2000000
/-! own rule: for i, x in enumerate(t), t a tuple -/
namespace CF
open PySem PySem.Spec PyProof.Rows L2
theorem tc_enum1 (a : Value) : checkTypeCall "enumerate" ⟨[a], []⟩ = pure () := PySem.F.typeCall_enumerate_1 _
set_option maxHeartbeats 4000000 in
theorem meets_enum1 {v : Value} {o : Obj} {H : Heap → Prop} (B : Begins v o H) (hv : ∃ a, v = .ref a) :
    Meets (Builtin.«enumerate.__new__» ⟨[.type "enumerate", v], []⟩) (fun _ R s => H s.heap ∧
      R (.ok (.ret (.ref (s.heap.push o).objs.size))) { s with heap := (s.heap.push o).push { cls := .type "enumerate", data := .fields #[.none, .bool false, .ref s.heap.objs.size, rawInt 0, .none, .none] } }) :=
  .of_wp fun prog w A R s h => by
    obtain ⟨hp, g, d, tk, os⟩ := s
    obtain ⟨h1, h⟩ := h
    obtain ⟨a, rfl⟩ := hv
    have hsub := sub_enumerate
    have q1 : ∀ {A' : Around} {E : Value → Shared → Prop} {Q : Value → Shared → Prop}, Q (.ref hp.objs.size) ⟨hp.push o, g, d, tk, os⟩ → wpAny (model prog w) A' (pyIter (.ref a)) Q E ⟨hp, g, d, tk, os⟩ :=
      fun q => B.iter prog w _ _ ⟨hp, g, d, tk, os⟩ _ h1 q
    wp_walk using q1
    refine wpAny_stack_any fun st => wpAny_pure ?_
    split
    · rename_i c _ _ _ _ _
      cases (c == Value.type "enumerate")
      · wp_walk using q1
        exact ⟨_, rfl, h⟩
      · wp_walk using q1
        exact ⟨_, rfl, h⟩
    · wp_walk using q1
      exact ⟨_, rfl, h⟩
section
variable {prog : Program} {w : World} {A : Around} {E : Value → Shared → Prop} {s : Shared}
theorem enum1_begins {a : Addr} {o : Obj} {H : Heap → Prop} {Q : Value → Shared → Prop} (B : Begins (.ref a) o H) (h1 : H s.heap)
    (h : ∀ h', IsEnum h' (s.heap.objs.size + 1) s.heap.objs.size 0 .none → h'.get? s.heap.objs.size = some o → h'.objs.size = s.heap.objs.size + 2 →
      (∀ b o, s.heap.get? b = some o → h'.get? b = some o) → Q (.ref (s.heap.objs.size + 1)) { s with heap := h' }) :
    wpAny (model prog w) A (call (.type "enumerate") [.ref a]) Q E s := by
  refine callType_new F.called_enumerate (by decide) (F.typeCall_enumerate_1 _) (F.newCall_enumerate_1 _) (fun obj => F.args_object_init_2 obj _) F.entry_enumerate_new
    (meets_enum1 B ⟨a, rfl⟩) ⟨h1, ?_⟩
  have hz : (s.heap.push o).objs.size = s.heap.objs.size + 1 := Heap.size_push ..
  show _ ∧ _
  rw [hz]
  have he : IsEnum ((s.heap.push o).push { cls := .type "enumerate", data := .fields #[.none, .bool false, .ref s.heap.objs.size, rawInt 0, .none, .none] }) (s.heap.objs.size + 1) s.heap.objs.size 0 .none := by
    have := Heap.get?_push_size (s.heap.push o) (o := { cls := .type "enumerate", data := .fields #[.none, .bool false, .ref s.heap.objs.size, rawInt 0, .none, .none] }) rfl
    rw [hz] at this; exact this
  refine ⟨⟨_, he, rfl⟩, h _ he (Heap.get?_push_of_some _ (Heap.get?_push_size _ B.free)) (by rw [Heap.size_push, hz]) fun b o x => Heap.get?_push_of_some _ (Heap.get?_push_of_some _ x)⟩
end
def IteT (K : PySem.W.Frag) (a : Addr) : It :=
  ⟨fun i H => ∃ (xs : List V) (x : V), SqT K H a xs ∧ xs[i]? = some x, fun i H v H' => ∃ T x, v = .ref T ∧ H T = none ∧ H' = upd H T (.tup [.int (i : Nat), x]) ∧ ∀ xs, SqT K H a xs → xs[i]? = some x, fun i H => ∃ xs : List V, SqT K H a xs ∧ xs.length ≤ i⟩
theorem turn_enumT {P : Program} {w : World} {K : PySem.W.Frag} {elts : List Expr} {kk : Nat} {tpos : Pos} (a e it : Addr) (hne' : a ≠ it) (hae : a ≠ e) :
    Turn P w K (.Tuple elts kk tpos) (IteT K a) [e, it] e (fun i h => (∃ old, IsEnum h e it ((i : Nat) : Int) old) ∧ h.IsTupleIter it a i ∧ e ≠ it) where
  mem := by simp
  obj := fun i h st b hb => by
    obtain ⟨⟨old, he⟩, ⟨o, ho, hc, hd⟩, _⟩ := st
    have e' : b = e ∨ b = it := by simpa using hb
    rcases e' with z | z
    · rw [z]; exact ⟨_, he, fun v q => nomatch q⟩
    · rw [z]; exact ⟨o, ho, fun v q => by rw [hd] at q; cases q⟩
  keep := fun i h h' st k => let ⟨⟨old, he⟩, hi, hne⟩ := st; ⟨⟨old, k e (by simp) _ he⟩, hi.at fun o q => k it (by simp) o q, hne⟩
  item := by
    intro X hP hw hK hc i pins s σ H E I hf st hg
    subst hP hw hK
    obtain ⟨⟨old, he⟩, hit, hne⟩ := st
    obtain ⟨xs, x, hq, hx⟩ := hg
    obtain ⟨its, rv, p, hz⟩ := I.tuple hq
    obtain ⟨u, hu, ru⟩ := rv.get hx
    have hel : e < s.heap.objs.size := Heap.lt_size he
    have hil : it < s.heap.objs.size := by obtain ⟨_, q, _⟩ := hit; exact Heap.lt_size q
    have hlt : i < its.toArray.size := by
      obtain ⟨h1, _⟩ := List.getElem?_eq_some_iff.mp hu
      simpa using h1
    have D := Draws.tuple (prog := X.prog) (w := X.w) (A := X.A.in1) (I.ok.hd hc) it a hne' its.toArray
    refine wpAny_pyNext_enum_itemD D he ⟨hit, show s.heap.IsTuple a its.toArray from p⟩ hlt hne (by simp [hne, Ne.symm hae]) fun y h' tk hy ho hst' hT hsz hk => ?_
    have ey : y = u := by
      have e1 : its.toArray[i]? = some u := by simpa using hu
      rw [e1] at hy
      exact (Option.some.inj hy).symm
    subst ey
    refine ⟨_, rfl, wpAny_letOwnedTupleGo_enum (s := { s with heap := h', toks := tk + 1 }) ho fun h'' he' sb => ?_⟩
    have hT2 : h''.get? s.heap.objs.size = some { cls := .type "tuple", data := .seq #[.int i tk, y] } := (sb.2 _ (Nat.ne_of_gt hel)).trans hT
    have new : ObjOk X.prog X.w (upd H s.heap.objs.size (.tup [.int (i : Nat), x])) h'' s.heap.objs.size (.tup [.int (i : Nat), x]) :=
      ⟨by show 2 ≤ sizeLine; decide, [.int i tk, y], .cons ⟨_, rfl⟩ (.cons ru .nil), ⟨_, hT2, rfl, _, rfl⟩⟩
    have I1 : Inv X pins σ (upd H s.heap.objs.size (.tup [.int (i : Nat), x])) { s with heap := h'', toks := tk + 1 } :=
      I.turnedNew (ch := [e, it]) (fun b ob hb q => (sb.2 b (fun z => hb (by simp [z]))).trans (hk b ob (fun z => hb (by simp [z])) (fun z => hb (by simp [z])) q)) hf (Nat.le_refl _) new
    refine ⟨.ref s.heap.objs.size, _, I1, rfl, ⟨_, x, rfl, I.hok.fresh (Nat.le_refl _), rfl, fun ys hy => by rw [I.tuple_inj hy hq]; exact hx⟩, ⟨⟨y, ?_⟩, hst'.1.at fun o q => (sb.2 it (Ne.symm hne)).trans q, hne⟩, fun b hb => ?_⟩
    · have e1 : ((i + 1 : Nat) : Int) = (i : Int) + 1 := by omega
      rw [e1]; exact he'
    · have hb' : b < s.heap.objs.size := by
        have e' : b = e ∨ b = it := by simpa using hb
        rcases e' with z | z
        · rw [z]; exact hel
        · rw [z]; exact hil
      rw [upd_ne (Nat.ne_of_lt hb')]
      exact (hf b hb).1
  done := by
    intro X hP hw hK hc i pins s σ H E I hf st hg
    subst hP hw hK
    obtain ⟨⟨old, he⟩, hit, hne⟩ := st
    obtain ⟨xs, hq, hx⟩ := hg
    obtain ⟨its, rv, p, hz⟩ := I.tuple hq
    obtain ⟨f0, f1, f2, f3, f4, f5⟩ := hf it (by simp)
    have hl := rv.length
    have D1 : Draws X.prog X.w X.A.in1 it [it, a] i (fun _ _ => False) (fun j h => j = i ∧ h.IsTupleIter it a i ∧ h.IsTuple a its.toArray) := {
      live := fun _ _ st => by obtain ⟨_, ⟨o, q, _⟩, _⟩ := st; exact ⟨o, q⟩
      frame := fun j h h' st hk => ⟨st.1, st.2.1.at fun o q => hk it (by simp) o q, st.2.2.at fun o q => hk a (by simp) o q⟩
      item := fun j s' Q E' hi st => absurd st.1 (Nat.ne_of_lt hi)
      done := fun s' Q E' st hE => wpAny_nextOf_tuple_end (I.ok.hd hc) st.2.1 st.2.2 (by simp; omega) hE }
    exact wpAny_pyNext_enum_endD (n := i) D1 he ⟨rfl, hit, show s.heap.IsTuple a its.toArray from p⟩ fun h' eb => ⟨rfl, I.turned (t' := s.toks) (fun b o hb q => eb b o hb q) f0 f1 f3 f4 f5⟩
  self := fun A i s Q E st h => let ⟨⟨_, he⟩, _⟩ := st; wpAny_pyIter_enum he h
def iEnumT (K : PySem.W.Frag) (ta : TA) : TI := fun σ H R => ta σ H fun vs H1 => ∃ a xs, vs = [.ref a] ∧ SqT K H1 a xs ∧ R (IteT K a) H1
theorem pi_enumT {X : Cx} {e : Expr} {ta : TA} {p pos tpos : Pos} {elts : List Expr} {kk : Nat} (hg : Gl X "enumerate") (hm : X.mg "enumerate" = none) (ha : PA X [e] ta) (hs : starEach [e] X.env = [(false, eval e X.env)] := by rfl) :
    PI X (.Tuple elts kk tpos) (.Call (.Name "enumerate" p) [e] [] pos) (iEnumT X.K ta) := by
  refine ⟨fun pins s σ H R I h => ?_⟩
  refine wpAny_Call_Name_kw (ld_blt I hg hm (u := .type "enumerate") (by decide +kernel) ?_)
  refine PyProof.Rows.callWith_type1 (thn (ha.run pos pins s σ H _ I h) fun us s1 ⟨vs, H1, I1, r, q1⟩ => ?_) hs (by rfl)
  obtain ⟨a, xs, e', hq, q⟩ := q1
  subst e'
  obtain ⟨u, eu, ru⟩ := vals1 r
  subst eu
  cases ru
  obtain ⟨its, rv, p', hz⟩ := I1.tuple hq
  have hal : a < s1.heap.objs.size := p'.lt
  refine enum1_begins (begins_tuple a its.toArray) (show s1.heap.IsTuple a its.toArray from p') fun h' he hit hsz hk => wpAny_pyIter_enum he ?_
  have I2 : Inv X pins σ H1 { s1 with heap := h' } := I1.kept (t' := s1.toks) hk
  refine ⟨s1.heap.objs.size + 1, [s1.heap.objs.size + 1, s1.heap.objs.size], _, _, H1, rfl, I2, turn_enumT a (s1.heap.objs.size + 1) s1.heap.objs.size (Nat.ne_of_lt hal) (Nat.ne_of_lt (Nat.lt_succ_of_lt hal)), ⟨⟨.none, he⟩, ⟨_, hit, rfl, rfl⟩, Nat.succ_ne_self _⟩, fun b hb => ?_, q⟩
  have e' : b = s1.heap.objs.size + 1 ∨ b = s1.heap.objs.size := by simpa using hb
  have hle : s1.heap.objs.size ≤ b := by
    rcases e' with z | z
    · rw [z]; exact Nat.le_add_right _ _
    · rw [z]; exact Nat.le_refl _
  exact I1.fpOk hle (I1.hok.fresh hle)
/-- the loop over it, the tuple left as it is -/
theorem for_enumT {K : PySem.W.Frag} {a : Addr} {xs : List V} {g : TG} {tb : TS} {D : Ends} {σ : L2.St} {H : Hp} (Pv : Nat → L2.St → Hp → Prop) (h0 : Pv 0 σ H) (hl : ∀ i σ H, i ≤ xs.length → Pv i σ H → SqT K H a xs)
    (hs : ∀ i x σ H, xs[i]? = some x → Pv i σ H → ∀ T, H T = none → g (.ref T) σ (upd H T (.tup [.int (i : Nat), x])) fun σ' H' => tb { D with nx := Pv (i + 1), ct := Pv (i + 1), bk := D.nx } σ' H') (hd : ∀ σ H, Pv xs.length σ H → D.nx σ H) :
    ∃ W : Nat → Nat → L2.St → Hp → Prop, (∃ m, W 0 m σ H) ∧ ∀ i m σ H, W i m σ H →
      ((IteT K a).stop i H ∧ D.nx σ H) ∨ ((IteT K a).go i H ∧ ∃ N : L2.St → Hp → Prop, (∀ σ' H', N σ' H' → ∃ m', m' < m ∧ W (i + 1) m' σ' H') ∧ ∀ x H', (IteT K a).yld i H x H' → g x σ H' fun σ' H'' => tb { D with nx := N, ct := N, bk := D.nx } σ' H'') := by
  refine ⟨fun i m σ H => m = xs.length - i ∧ i ≤ xs.length ∧ Pv i σ H, ⟨xs.length, by simp, Nat.zero_le _, h0⟩, ?_⟩
  rintro i m σ H ⟨rfl, hi, p⟩
  have q := hl i σ H hi p
  by_cases hlt : i < xs.length
  · refine .inr ⟨⟨xs, xs[i], q, by simp [hlt]⟩, Pv (i + 1), fun σ' H' p' => ⟨xs.length - (i + 1), by omega, rfl, hlt, p'⟩, fun x H' y => ?_⟩
    obtain ⟨T, z, e1, e2, e3, e4⟩ := y
    subst e1 e3
    exact hs i z σ H (e4 xs q) p T e2
  · have e : i = xs.length := by omega
    subst e
    exact .inl ⟨⟨xs, q, Nat.le_refl _⟩, hd σ H p⟩
end CF

/-! text CfRev -/
set_option Elab.async false
set_option linter.all false
set_option maxRecDepth 100000
set_option maxHeartbeats 2000000
/-! own rule: t[::-1] of a tuple -/
namespace CF
open PySem PySem.Spec PyProof.Rows L2 HT
theorem rev_adjust (n : Nat) : Builtin.Slice.sliceAdjust none none (-1) (n : Int) = ((n : Int) - 1, -1) := by
  unfold Builtin.Slice.sliceAdjust
  simp
theorem rev_places (n : Nat) : Builtin.Slice.slicePlaces ((n : Int) - 1) (-1) (-1) = n := by
  unfold Builtin.Slice.slicePlaces
  have h1 : ¬ ((-1 : Int) > 0) := by omega
  simp only [h1, if_false]
  by_cases h : ((n : Int) - 1 > -1)
  · simp only [h, if_true]
    show (((n : Int) - 1 - -1 - 1) / (1 : Int) + 1).toNat = n
    rw [Int.ediv_one]; omega
  · simp only [h, if_false]
    omega
theorem rev_pick (xs : List Value) : ((List.range xs.length).filterMap fun (m : Nat) => xs.toArray[(((xs.length : Int) - 1) + (m : Int) * -1).toNat]?).toArray = xs.reverse.toArray := by
  have e : ∀ (ys : List Value) (k : Nat), k ≤ ys.length → ((List.range k).filterMap fun (m : Nat) => ys.toArray[(((k : Int) - 1) + (m : Int) * -1).toNat]?) = (ys.take k).reverse := by
    intro ys k
    induction k with
    | zero => intro _; simp
    | succ k ih =>
      intro hk
      rw [List.range_succ_eq_map, List.filterMap_cons, List.filterMap_map]
      have h1 : (((k + 1 : Nat) : Int) - 1 + ((0 : Nat) : Int) * -1).toNat = k := by omega
      have hk2 : k < ys.length := by omega
      have h2 : ys.toArray[k]? = some ys[k] := by simp [hk2]
      have h3 : ((fun (m : Nat) => ys.toArray[(((k + 1 : Nat) : Int) - 1 + (m : Int) * -1).toNat]?) ∘ Nat.succ) = fun (m : Nat) => ys.toArray[((k : Int) - 1 + (m : Int) * -1).toNat]? := by
        funext m
        have : (((k + 1 : Nat) : Int) - 1 + ((Nat.succ m : Nat) : Int) * -1).toNat = ((k : Int) - 1 + (m : Int) * -1).toNat := by
          rw [show ((Nat.succ m : Nat) : Int) = (m : Int) + 1 by omega]; omega
        show ys.toArray[_]? = _
        rw [this]
      rw [h1, h2, h3, ih (by omega)]
      rw [List.take_succ_eq_append_getElem hk2, List.reverse_append]
      rfl
  have z := e xs xs.length (Nat.le_refl _)
  rw [z, List.take_length]
section
variable {prog : Program} {w : World} {A : Around} {E : Value → Shared → Prop} {s : Shared}
theorem sliceApplied_rev {sl : Addr} {vs : Value} {n : Nat} {Q : Int × Int × Nat → Shared → Prop} (hs : s.heap.IsSliceOf sl .none .none vs) (ps : IsPart vs (some (-1)))
    (h : Q ((n : Int) - 1, -1, n) s) : wpAny (model prog w) A (Builtin.Slice.sliceApplied (.ref sl) (pure (n : Int))) Q E s := by
  obtain ⟨os, hos, hcs, hds⟩ := id hs
  unfold Builtin.Slice.sliceApplied Builtin.Slice.sliceFields
  refine wpAny_bind (wpAny_bind (wpAny_field hos hds (x := .none) rfl (wpAny_bind (wpAny_field hos hds (x := .none) rfl (wpAny_bind (wpAny_field hos hds (x := vs) rfl (wpAny_pure ?_)))))))
  refine wpAny_bind (slicePart_ ps ?_)
  show wpAny _ _ (if ((-1 : Int) == 0) = true then _ else _) _ _ s
  rw [if_neg (by decide)]
  refine wpAny_bind (slicePart_none (wpAny_bind (slicePart_none (wpAny_bind (wpAny_pure ?_)))))
  show wpAny _ _ (match Builtin.Slice.sliceAdjust none none (-1) (n : Int) with | (lo, hi) => pure (lo, (-1 : Int), Builtin.Slice.slicePlaces lo hi (-1))) _ _ s
  rw [rev_adjust n]
  show wpAny _ _ (pure ((n : Int) - 1, (-1 : Int), Builtin.Slice.slicePlaces ((n : Int) - 1) (-1) (-1))) _ _ s
  rw [rev_places]
  exact wpAny_pure h
theorem getItem_tuple_rev {t sl : Addr} {xs : List Value} {vs : Value} {Q : Value → Shared → Prop} (ht : IsTup s.heap t xs.toArray) (hs : s.heap.IsSliceOf sl .none .none vs) (ps : IsPart vs (some (-1)))
    (h : Q (.ref s.heap.objs.size) { s with heap := s.heap.push { cls := .type "tuple", data := .seq xs.reverse.toArray } })
    (hsz : xs.length ≤ sizeLine) : wpAny (model prog w) A (getItem (.ref t) (.ref sl)) Q E s := by
  have htake : sizeOk (.seq xs.reverse.toArray) := by
    show xs.reverse.toArray.size ≤ sizeLine
    rw [List.size_toArray, List.length_reverse]
    exact hsz
  obtain ⟨os, hos, hcs, hds⟩ := id hs
  have hTs : s.TypeIs (.ref sl) "slice" := ⟨os, hos, hcs⟩
  unfold getItem
  try with_reducible refine wpAny_holding ?_
  first | refine wpAny_bind (wpAny_pure ?_) | skip
  refine wpAny_bind (wpAny_sequenceKey ht.typeIs (by decide) ?_)
  refine wpAny_bind (wpAny_callSpecial?_slot (name := Str.ofString "__getitem__") ht.typeIs PyProof.Rows.slot_tuple_getitem
    (wpAny_call_entry PyProof.Rows.slot_tuple_getitem ht.typeIs entry_tuple_getitem ?_ (args_tuple_getitem _ _)))
  show wpAny _ _ (Builtin.Tuple.tupleItemsOf (.ref t) >>= _) _ _ s
  refine wpAny_bind (tupleItemsOf_ ht ?_)
  refine wpAny_bind (wpAny_typeOf hTs ?_)
  rw [if_pos (by decide), List.size_toArray]
  refine wpAny_bind (sliceApplied_rev (n := xs.length) hs ps ?_)
  have hno : ¬ ((((xs.length : Int) - 1) == 0 && (-1 : Int) == 1 && xs.length == xs.length) = true) := by
    intro q
    rw [Bool.and_eq_true, Bool.and_eq_true] at q
    exact absurd q.1.2 (by decide)
  show wpAny _ _ (if (((xs.length : Int) - 1) == 0 && (-1 : Int) == 1 && xs.length == xs.length) = true then _ else _) _ _ s
  rw [if_neg hno, rev_pick]
  first
    | exact wpAny_bind (m := Builtin.Tuple.tupleExact _) (wpAny_newObj_type (wpAny_pure ⟨_, rfl, wpAny_pure h⟩) htake)
    | exact wpAny_bind (m := Builtin.Tuple.tupleExact _) (wpAny_newObj_type (wpAny_bind (wpAny_pure (wpAny_pure ⟨_, rfl, wpAny_pure h⟩))) htake)
    | exact wpAny_bind (wpAny_bind (m := Builtin.Tuple.tupleExact _) (wpAny_newObj_type (wpAny_pure (wpAny_pure ⟨_, rfl, wpAny_pure h⟩)) htake))
    | exact wpAny_bind (wpAny_bind (m := Builtin.Tuple.tupleExact _) (wpAny_newObj_type (wpAny_pure ⟨_, rfl, wpAny_pure h⟩) htake))
end
def tRevT (K : PySem.W.Frag) (te : TE) : TE := fun σ H Q => te σ H fun x H1 => ∃ a xs, x = .ref a ∧ SqT K H1 a xs ∧ ∀ p, H1 p = none → Q (.ref p) (upd H1 p (.tup xs.reverse))
theorem pe_revT {X : Cx} {e : Expr} {te : TE} {k : Nat} {p1 p2 p3 pos : Pos} (he : PE X e te) : PE X (.Subscript e (.Slice none none (some (.UnaryOp .USub (.Constant (.int 1) k p1) p2)) p3) pos) (tRevT X.K te) := by
  refine ⟨fun pins s σ H Q I h => ?_⟩
  refine Subscript_ (thn (he.run pins s σ H _ I h) fun v s1 ⟨x, H1, I1, r1, q1⟩ => ?_)
  obtain ⟨a, xs, ex, hx, q⟩ := q1
  subst ex
  cases r1
  have hst : PO X (some (.UnaryOp .USub (.Constant (.int 1) k p1) p2)) (tPart (tUn (rU fun i => .int (-i)) (tC (.int 1)))) := po_some (pe_un un_neg pe_int)
  refine wpAny_Slice (thn (po_none.run pins s1 σ H1 (fun o H2 => o = none ∧ H2 = H1) I1 ⟨rfl, rfl⟩) fun vl s2 ⟨l, H2, I2, pl, el, e2⟩ => ?_)
  subst el e2
  refine thn (po_none.run pins s2 σ H2 (fun o H3 => o = none ∧ H3 = H2) I2 ⟨rfl, rfl⟩) fun vu s3 ⟨u, H3, I3, pu, eu, e3⟩ => ?_
  subst eu e3
  refine thn (hst.run pins s3 σ H3 (fun o H4 => o = some (-1) ∧ H4 = H3) I3 ⟨1, rfl, -1, rfl, rfl, rfl⟩) fun vs s4 ⟨o, H4, I4, ps, eo, e4⟩ => ?_
  subst eo e4
  cases pl
  cases pu
  have I5 : Inv X pins σ H4 { s4 with heap := s4.heap.push { cls := .type "slice", data := .fields #[.none, .none, vs] } } := I4.kept (t' := s4.toks) fun b ob q => Heap.get?_push_of_some _ q
  obtain ⟨its, r, ht, hz⟩ := I5.tuple hx
  have hlen := r.length
  show wpAny (model X.prog X.w) X.A (subscriptTail e (.Slice none none (some (.UnaryOp .USub (.Constant (.int 1) k p1) p2)) p3) (.ref a) (.ref s4.heap.objs.size)) (EP X pins σ Q) X.xe { s4 with heap := s4.heap.push { cls := .type "slice", data := .fields #[.none, .none, vs] } }
  refine tail_any (ops := [.ref a, .ref s4.heap.objs.size]) ht.typeIs (PyProof.Rows.slot_tuple_getitem.lookup) ?_ (by with_unfolding_all rfl)
  refine getItem_tuple_rev ht (Heap.IsSliceOf.new _ .none .none vs) ps ?_ (by rw [← hlen]; exact hz)
  refine ⟨.ref _, _, I5.laid (t' := s4.toks) (o := .tup xs.reverse) (fun b ob q => Heap.get?_push_of_some _ q) (Nat.le_refl _) ?_, rfl, q _ (I5.hok.fresh (Nat.le_refl _))⟩
  exact ⟨by rw [List.length_reverse]; exact hz, _, r.reverse, ⟨_, Heap.get?_push_size _ rfl, rfl, _, rfl⟩⟩
end CF

/-! text CfOps -/
set_option Elab.async false
set_option linter.all false
set_option maxRecDepth 100000
set_option maxHeartbeats 2000000
/-! own rules: in, index of tuples of data; str(x) by an own __str__; cls(*xs) -/
namespace CF
open PySem PySem.Spec PyProof.Rows L2 SeqAt
section
variable {X : Cx}
def rInDT (K : PySem.W.Frag) (neg : Bool) : R2 := fun x y H Q => ∃ d ds, Dp K H x d ∧ Dp K H y (.tuple ds) ∧ shaped d = true ∧ shaped (.list ds) = true ∧ Q (.bl (if neg then !(ds.any fun z => PyData.eqv z d) else (ds.any fun z => PyData.eqv z d))) H
theorem op_inDT (hu : X.A.units + 65 < cLine) : OpR X (compareOp .In) (rInDT X.K false) := by
  intro pins s σ H x y v u Q I rx ry h
  obtain ⟨d, ds, hd, he, sd, se, q⟩ := h
  obtain ⟨as, r1⟩ := Dp.reads I d x v hd rx
  obtain ⟨bs, r2⟩ := Dp.reads I (.tuple ds) y u he ry
  have hl : PyData.canLayAll0 ds = true := canLay_of_shaped se
  exact in_tuple_reads r2 r1 hl (canLay_of_shaped sd) (room_in_shaped sd hu) ⟨.bl _, H, I, rfl, q⟩
theorem op_notInDT (hu : X.A.units + 65 < cLine) : OpR X (compareOp .NotIn) (rInDT X.K true) := by
  intro pins s σ H x y v u Q I rx ry h
  obtain ⟨d, ds, hd, he, sd, se, q⟩ := h
  obtain ⟨as, r1⟩ := Dp.reads I d x v hd rx
  obtain ⟨bs, r2⟩ := Dp.reads I (.tuple ds) y u he ry
  have hl : PyData.canLayAll0 ds = true := canLay_of_shaped se
  exact notIn_tuple_reads r2 r1 hl (canLay_of_shaped sd) (room_in_shaped sd hu) ⟨.bl _, H, I, rfl, q⟩
/-- t.index(x) of data -/
def rIndexDT (K : PySem.W.Frag) : V → List V → Hp → VK → Prop := fun x xs H Q => ∃ (a : Addr) (y : V) (d : PyData) (ds : List PyData) (j : Nat) (z : PyData), x = V.ref a ∧ xs = [y] ∧ Dp K H (V.ref a) (.tuple ds) ∧ Dp K H y d ∧
  shaped (.list ds) = true ∧ shaped d = true ∧ ds[j]? = some z ∧ PyData.eqv z d = true ∧ (∀ (m : Nat) (z' : PyData), m < j → ds[m]? = some z' → PyData.eqv z' d = false) ∧ Q (.int (j : Nat)) H
theorem mt_tupIndexD (hu : X.A.units + 65 < cLine) : MtR X "tuple.index" (rIndexDT X.K) := by
  intro pins s σ H x xs v us Q I rx rxs h
  obtain ⟨a, y, d, ds, j, z, rfl, rfl, hl, hy, sl, sd, hz, hzj, hno, q⟩ := h
  cases rx
  cases rxs with
  | cons ry rt =>
    rename_i uy ut
    cases rt
    obtain ⟨bs, r1⟩ := Dp.reads I d y uy hy ry
    have hxs : PyData.canLayAll0 ds = true := canLay_of_shaped sl
    have hroom : X.A.units + 1 + min (PyData.depthAll ds) d.depth < cLine := room_in_shaped sd hu
    cases hl with
    | tup hs ha =>
      obtain ⟨its, rv, ⟨⟨cls, dd, data, sls⟩, ho, hc, n, hdt⟩, hlen⟩ := I.tuple hs
      simp only at hc hdt
      subst hc hdt
      obtain ⟨as, h4⟩ := Dp.readsAll I ds _ its ha rv
      have hn : its.length = ds.length := ReadsAll.length ds its as h4
      have hmap : its.map (readOf s.heap) = ds := readsAll_map ds its as hxs h4
      obtain ⟨hjd, _⟩ := List.getElem?_eq_some_iff.mp hz
      have hjl : j < its.length := by omega
      have hj : j < its.toArray.size := by simpa using hjl
      have at_ : ∀ (m : Nat) (hm : m < its.toArray.size) (z' : PyData), ds[m]? = some z' → readOf s.heap its.toArray[m] = z' := by
        intro m hm z' hz'
        have hml : m < its.length := by simpa using hm
        rw [← hmap, List.getElem?_map, List.getElem?_eq_getElem hml] at hz'
        have e1 : readOf s.heap its[m] = z' := Option.some.inj (show some (readOf s.heap its[m]) = some z' from hz')
        simpa using e1
      refine call_meets PySem.F.slot_tuple_index ⟨_, ho, rfl⟩ PySem.F.entry_tuple_index (PySem.F.args_tuple_index_2 _ _)
        (TI.tuple_indexAt a its.toArray n dd sls uy (fun u => PyData.eqv (readOf s.heap u) d) j hj ?_ ?_) ⟨ho, items_eqAt (vs := its.toArray) (show ReadsAll s.heap its.toArray.toList ds as from h4) r1 hxs (canLay_of_shaped sd) hroom, ?_⟩
      · show PyData.eqv (readOf s.heap its.toArray[j]) d = true
        rw [at_ j hj z hz]
        exact hzj
      · intro m hm hmj
        have hmd : m < ds.length := by
          have hml : m < its.length := by simpa using hm
          omega
        have hz' : ds[m]? = some ds[m] := List.getElem?_eq_getElem hmd
        show PyData.eqv (readOf s.heap its.toArray[m]) d = false
        rw [at_ m hm _ hz']
        exact hno m _ hmj hz'
      · exact ⟨.int (j : Nat), H, I.tok _, ⟨_, rfl⟩, q⟩
/-- str(x), x an instance whose class has its own __str__ -/
def rStrOwn (C : Addr) (sp : Sp) (E : XK) : List V → Hp → VK → Prop := fun xs H Q => ∃ a dx fs, xs = [V.ref a] ∧ H a = some (.ins C dx fs) ∧ sp [.ref a] H (fun z H' => ∃ y, z = .str y ∧ Q z H') E
theorem call_strOwn {CX : CXT} {C g : Addr} {n : Nat} {sp : Sp} {E : XK} (hs : PySem.W.findIn X.K (.ref C) "__str__" = some (some (.ref g))) (hf : PySem.W.isFn X.K (.ref g) = true)
    (F : FnR X.prog X.w X.K X.mg X.base CX n g sp) (hr : Room (n + 2) X.A) (hx : Passes CX X E) : CallR X (.type "str") (rStrOwn C sp E) := by
  intro pins s σ H xs us Q I r h
  obtain ⟨a, dx, fs, rfl, ea, q⟩ := h
  obtain ⟨u, rfl, ru⟩ := vals1 r
  cases (show u = Value.ref a from ru)
  obtain ⟨mA, O, _⟩ := ins_get I.hok ea
  obtain ⟨od, J, _⟩ := O.look
  have hr2 : Room n X.A.in1.in1 := (show Room (n + 1) X.A.in1 from Room.in1 hr).in1
  refine PySem.W.kso_call hr2.units0 I.kIn J hs hf (wpAny_mono (wpAny_call (SlX.run_at (us := [.ref a]) (ws := [.ref a]) F hr2 I.env0.in1.in1 hx I (.cons rfl .nil) q)) (fun w s' z => ?_) fun _ _ x => x)
  obtain ⟨z', H', I', rz, y, ey, qz⟩ := z
  subst ey
  obtain ⟨t, e⟩ := (show ∃ t, w = Value.str y t from rz)
  cases e
  exact ⟨.str y, H', I', ⟨t, rfl⟩, qz⟩
/-- x(*y), x a local name that holds an own class -/
theorem pe_makeV1 {CX : CXT} {C f : Addr} {k i : Nat} {sp : Sp} {E : XK} {x : Str} {e : Expr} {te : TE} {p sp_ pos : Pos} (M : Mk X.K C f) (F : FnR X.prog X.w X.K X.mg X.base CX k f sp) (hr : Room (k + 1) X.A) (hx : Passes CX X E)
    (hN : X.N[i]? = some x) (hv : Vis X.env.scope x) (he : PE X e te) (hd : (x == ("__debug__" : Str)) = false := by decide) (hcd : (x == ("__classdict__" : Str)) = false := by decide)
    (hst : starEach [.Starred e sp_] X.env = [(true, eval e X.env)] := by rfl) :
    PE X (.Call (.Name x p) [.Starred e sp_] [] pos) (fun σ H Q => σ[i]? = some (some (.ref C)) ∧ te σ H fun y H1 => ∃ a xs, y = V.ref a ∧ (SqT X.K H1 a xs ∨ SqL X.K H1 a xs) ∧ ∀ x dx, H1 x = Option.none → H1 dx = Option.none → dx ≠ x →
      sp (V.ref x :: xs) (upd (upd H1 dx (.own x)) x (.ins C dx [])) (fun v H2 => v = .non ∧ Q (.ref x) H2) E) := by
  refine ⟨fun pins s σ H Q I h => ?_⟩
  obtain ⟨hi, h⟩ := h
  refine wpAny_Call_Name_kw (thn ((pe_var (pos := p) hN hv hd hcd).run pins s σ H (fun v H1 => v = .ref C ∧ H1 = H) I ⟨.ref C, hi, rfl, rfl⟩) fun u s1 ⟨v, H1, I1, r1, q1⟩ => ?_)
  obtain ⟨rfl, rfl⟩ := q1
  cases r1
  refine PySem.W.callWith_S (h₀ := X.base) I.ok.mod.kin M.kp (thn (he.run pins s1 σ _ _ I1 h) fun v s2 ⟨y, H2, I2, ry, a, xs, ey, hxs, q⟩ => ?_) hst
  subst ey
  obtain rfl : v = Value.ref a := ry
  exact StX.star_any I2 hxs fun us s3 I3 rv => ⟨I3.kIn, StX.run_makeR M F hr hx I3 rv q⟩
end
end CF

/-! text CfDict -/
set_option Elab.async false
set_option linter.all false
set_option maxRecDepth 100000
set_option maxHeartbeats 4000000
/-! own rule: a dict comprehension whose keys are tuples of texts (the loop goes as in HandS.DictComp, the store by the tuples' kind) -/
namespace CF
open PySem PySem.Spec PyProof.Rows L2
theorem d_dictSetT {X : Cx} {pins : List (Addr × Obj)} {σ : L2.St} {H : Hp} {s : Shared} {E : Value → Shared → Prop} {D b : Addr} {kvs : List (List Key × V)} {k : List Key} {v : V} {r : Value} {Q : Unit → Shared → Prop} (hu : X.A.units + 1 < cLine) (I : Inv X pins σ H s) (hD : H D = some (.dT kvs)) (eb : H b = some (.tup (k.map kV))) (hz : kvs.length < sizeLine)
    (rv : RelV v r) (h : ∀ s', Inv X pins σ (upd H D (.dT (putK kvs k v))) s' → Q () s') : wpAny (model X.prog X.w) X.A (dictSet D (.ref b) r) Q E s := by
  obtain ⟨z, hd, xs, rel, dd⟩ := dt_of I.hok hD
  have hl0 : xs.length ≤ sizeLine := by rw [← Paired.length rel]; exact z
  have hl : (putK kvs k v).length ≤ sizeLine := by have := length_putK kvs k v; omega
  refine wpAny_dictSet_heap (hsz := hl0) (show X.A.units < cLine by omega) (key_of I.hok eb) dd fun h' dd' hs => h _ ?_
  obtain ⟨q, es, ep, hq, h2, h3, h4, _, h5⟩ := dd'
  refine d_write I (by rw [hD]; exact True.intro) hs ⟨q, hq⟩ ⟨hl, hd, _, (rel.put k eb rv).keeps fun c ys ec => ?_, q, es, ep, hq, h2, h3, h4, h5⟩
  rw [upd_ne (ne_of ec hD (fun z => nomatch z))]
  exact ec
section
variable {X : Cx}
def tDcT (K : PySem.W.Frag) (wi : TI) (g : TG) (tt : TT) (tk tv : TE) (vs : List Nat) : TE := fun σ H Q => wi σ H fun J H1 => ∀ D, H1 D = none → ∃ W : Nat → Nat → Hp → Prop, (∃ m, W 0 m (upd H1 D (.dT []))) ∧ ∀ i m H, W i m H →
  (J.stop i H ∧ Q (.ref D) H) ∨ (J.go i H ∧ ∃ Nx : Hp → Prop, (∀ H', Nx H' → ∃ m', m' < m ∧ W (i + 1) m' H') ∧ ∀ x H', J.yld i H x H' → g x (wipe σ vs) H' fun σ2 H2 => wipe σ2 vs = wipe σ vs ∧ tt σ2 H2 fun b H3 =>
    if b = true then tk σ2 H3 fun y H4 => tv σ2 H4 fun z H5 => ∃ kvs k b, y = .ref b ∧ H5 b = some (.tup (k.map kV)) ∧ H5 D = some (.dT kvs) ∧ kvs.length < sizeLine ∧ Nx (upd H5 D (.dT (putK kvs k z))) else Nx H3)
theorem dcT_core {pins : List (Addr × Obj)} {s : Shared} {σ : L2.St} {H : Hp} {Q : VK} {kx vx tg iter : Expr} {ifs : List Expr} {scope : Scope} {own : List (Str × Nat)} {pos pos' : Pos} {wi : TI} {g : TG} {tt : TT} {tk tv : TE} {use : Option (Value → Sem Unit)} {Qf : Value → Shared → Prop}
    (hu : X.A.units + 1 < cLine) (hc : X.calm = true) (hN : X.N.Nodup) (I : Inv X pins σ H s) (hi : PI X tg iter wi) (ok : BlkOk X.N X.env.scope scope own)
    (hg : ∀ (s : Shared) (H : Hp) (C : Addr) (cl : List (Str × Addr)) (fp : List Addr), PG (X.blk s H scope (compEnvC scope cl C X.env) fp) tg g) (ht : ∀ (s : Shared) (H : Hp) (C : Addr) (cl : List (Str × Addr)) (fp : List Addr), PTs (X.blk s H scope (compEnvC scope cl C X.env) fp) ifs tt)
    (hk : ∀ (s : Shared) (H : Hp) (C : Addr) (cl : List (Str × Addr)) (fp : List Addr), PE (X.blk s H scope (compEnvC scope cl C X.env) fp) kx tk)
    (he : ∀ (s : Shared) (H : Hp) (C : Addr) (cl : List (Str × Addr)) (fp : List Addr), PE (X.blk s H scope (compEnvC scope cl C X.env) fp) vx tv) (hs : ∀ x, foldedSetIterable iter X.env x = pure x)
    (h : tDcT X.K wi g tt tk tv (own.map (·.2)) σ H Q)
    (hRR : ∀ D C s' m H', Inv X pins σ H' s' → Q (.ref D) H' → s'.heap.Ns C m → FpOk X pins H' C → compPost (model X.prog X.w) X.A X.xe use Qf (.ref D) C (.ok .next) s') :
    wpAny (model X.prog X.w) X.A (comprehension (.DictComp kx vx [⟨tg, iter, ifs, 0⟩] scope pos) scope X.env pos' newDict false (eval iter X.env) use) Qf X.xe s := by
  have hfree : ∀ y ∈ scope.names, y.2 = .free → ∃ c, X.env.cells.lookup y.1 = some c := fun y hy e => by
    rcases ok.free y hy e with k | k
    · exact I.ok.has _ (.inl k)
    · exact I.ok.has _ (.inr k)
  refine wpAny_comprehension_free (use := use) rfl hs (closure_ok hfree) ok.kind (fun y hy e => by rw [ok.uniq y hy, e])
    (thn (hi.run pins s σ H _ I h) fun xv s1 hx => thn hx fun itv s2 h2 => ?_)
  obtain ⟨it, fp, tn, J, H2, e, I2, T, st2, f2, q⟩ := h2
  subst e
  refine wpAny_newObj_type (newEnv_comp ?_)
  generalize hD : s2.heap.objs.size = D
  have hDn : H2 D = none := I2.hok.fresh (Nat.le_of_eq hD)
  obtain ⟨W, ⟨m0, w0⟩, turn⟩ := q D hDn
  -- the new list
  generalize hs3 : ({ s2 with heap := s2.heap.push { cls := .type "dict", data := .dict #[] } } : Shared) = s3
  have I3 : Inv X pins σ (upd H2 D (.dT [])) s3 := by
    rw [← hs3]
    refine I2.laid (t' := s2.toks) (fun b o e => Heap.get?_push_of_some _ e) (Nat.le_of_eq hD) ?_
    rw [← hD]
    exact dt_empty s2.heap I2.big
  have h3 : s3.heap = s2.heap.push { cls := .type "dict", data := .dict #[] } := by rw [← hs3]
  have sz : ∀ b ∈ fp, b < s2.heap.objs.size := fun b hb => by
    obtain ⟨o, e, _⟩ := T.obj _ _ st2 b hb
    exact Heap.lt_size e
  have f3 : ∀ b ∈ fp, FpOk X pins (upd H2 D (.dT [])) b ∧ b < s3.heap.objs.size := fun b hb => by
    have hlt := sz b hb
    refine ⟨⟨?_, (f2 b hb).2⟩, by rw [h3, Heap.size_push]; exact Nat.lt_succ_of_lt hlt⟩
    rw [upd_ne (by rw [← hD]; exact Nat.ne_of_lt hlt)]
    exact (f2 b hb).1
  have st3 : tn 0 s3.heap := T.keep _ _ _ st2 fun b _ o e => by rw [h3]; exact Heap.get?_push_of_some _ e
  have I4 := block_start I3 ok hN f3
  have pg := hg s3 (upd H2 D (.dT [])) s3.heap.objs.size (cellsFrom (s3.heap.objs.size + 1) scope.names (cloFrom X.env.cells scope.names [])) fp
  have pt := ht s3 (upd H2 D (.dT [])) s3.heap.objs.size (cellsFrom (s3.heap.objs.size + 1) scope.names (cloFrom X.env.cells scope.names [])) fp
  have pk := hk s3 (upd H2 D (.dT [])) s3.heap.objs.size (cellsFrom (s3.heap.objs.size + 1) scope.names (cloFrom X.env.cells scope.names [])) fp
  have pe := he s3 (upd H2 D (.dT [])) s3.heap.objs.size (cellsFrom (s3.heap.objs.size + 1) scope.names (cloFrom X.env.cells scope.names [])) fp
  show codeAny _ _ (.compStart (.DictComp kx vx [⟨tg, iter, ifs, 0⟩] scope pos) 0 (.ref it) (.ref D) (compEnvC scope (cellsFrom (s3.heap.objs.size + 1) scope.names (cloFrom X.env.cells scope.names [])) s3.heap.objs.size X.env)) (compPost (model X.prog X.w) X.A X.xe use Qf (.ref D) s3.heap.objs.size) { s3 with heap := pushCells (s3.heap.push { cls := .type "dict", data := .dict #[] }) scope.names }
  have nfp : ∀ b ∈ fp, (upd H2 D (.dT [])) b = none := fun b hb => (f3 b hb).1.1
  generalize hce : compEnvC scope (cellsFrom (s3.heap.objs.size + 1) scope.names (cloFrom X.env.cells scope.names [])) s3.heap.objs.size X.env = ce at I4 pg pt pk pe ⊢
  have cL : ce.locals = s3.heap.objs.size := by subst hce; rfl
  generalize hH3 : upd H2 D (.dT []) = H3 at I3 I4 pg pt pk pe w0 nfp f3
  generalize hs4 : ({ s3 with heap := pushCells (s3.heap.push { cls := .type "dict", data := .dict #[] }) scope.names } : Shared) = s4 at I4 ⊢
  have st4 : tn 0 s4.heap := T.keep _ _ _ st3 fun b _ o e => by rw [← hs4]; exact pushCells_keeps _ _ _ _ (Heap.get?_push_of_some _ e)
  have stat : ∀ {σ' : L2.St} {H' : Hp} {s' : Shared}, Inv (X.blk s3 H3 scope ce fp) [] σ' H' s' → (∀ b ∈ fp, H' b = none) → ∀ b ∈ fp, FpOk (X.blk s3 H3 scope ce fp) [] H' b := fun {σ' H' s'} I' hn b hb =>
    ⟨hn b hb, (I'.ok.exf b hb).1, I'.ok.exfs b hb, .inl hb, fun x c e => (I'.ok.exf b hb).2 x c e, fun p hp => absurd (show p ∈ ([] : List (Addr × Obj)) ++ [] from hp) (by simp)⟩
  have loop : codeAny (model X.prog X.w) X.A (.compLoop (.DictComp kx vx [⟨tg, iter, ifs, 0⟩] scope pos) 0 (.ref it) (.ref D) ce) (compPost (model X.prog X.w) X.A X.xe use Qf (.ref D) s3.heap.objs.size) s4 := by
    refine compLoop_anyD (fun n s' => ∃ i H', Inv (X.blk s3 H3 scope ce fp) [] (wipe σ (own.map (·.2))) H' s' ∧ tn i s'.heap ∧ (∀ b ∈ fp, H' b = none) ∧ W i n H') ?_ m0 ⟨0, H3, I4, st4, nfp, w0⟩
    rintro n s5 ⟨i, H5, I5, st5, n5, w5⟩
    rcases turn i n H5 w5 with ⟨stop, qq⟩ | ⟨go, Nx, hNx, step⟩
    · have td := T.done (X.blk s3 H3 scope ce fp) rfl rfl rfl hc i [] s5 _ H5 (fun _ _ => False) I5 (stat I5 n5) st5 stop
      refine thnF td fun r s6 ⟨hr, I6⟩ => ?_
      subst hr
      -- back in the def's context
      have I7 : Inv X pins σ H5 s6 := I3.call' (ch := fp) I6.os I6.base I6.hok I6.bare fun b hb => ⟨(f3 b hb).1.2.2.2.1, (f3 b hb).1.2.1, (f3 b hb).1.2.2.2.2.1, (f3 b hb).1.2.2.2.2.2⟩
      have nC : H5 s3.heap.objs.size = none := by
        have z : H5 ce.locals = none := I6.free
        rw [cL] at z
        exact z
      obtain ⟨m, hn, _⟩ := I6.loc
      have hn : s6.heap.Ns ce.locals m := hn
      rw [cL] at hn
      exact hRR D s3.heap.objs.size s6 m H5 I7 qq hn (I3.fpOk (Nat.le_refl _) nC)
    · have ti := T.item (X.blk s3 H3 scope ce fp) rfl rfl rfl hc i [] s5 _ H5 (fun _ _ => False) I5 (stat I5 n5) st5 go
      refine thnF ti fun r s6 ⟨u, hr, h6⟩ => ?_
      subst hr
      refine thnF h6 fun _ s7 ⟨x, H7, I7, r7, y7, st7, n7⟩ => ?_
      have I7' := I7.pinned (stat I7 n7) (T.obj _ _ st7)
      refine thnF (pg.run _ s7 _ H7 x u _ I7' r7 (step x H7 y7)) fun _ s8 ⟨σ8, H8, I8, hw8, q8⟩ => ?_
      refine thnF (pt.run _ s8 σ8 H8 _ I8 q8) fun b s9 ⟨H9, I9, q9⟩ => ?_
      -- the turn's end
      have fin : ∀ {s' : Shared} {H' : Hp}, Inv (X.blk s3 H3 scope ce fp) ([] ++ pinsAt fp s7.heap) σ8 H' s' → Nx H' → ∃ m, m < n ∧ ∃ i H', Inv (X.blk s3 H3 scope ce fp) [] (wipe σ (own.map (·.2))) H' s' ∧ tn i s'.heap ∧ (∀ b ∈ fp, H' b = none) ∧ W i m H' := fun {s' H'} I' nx => by
        obtain ⟨m', hm, w'⟩ := hNx H' nx
        have pin' : ∀ b ∈ fp, ∀ o, s7.heap.get? b = some o → s'.heap.get? b = some o ∧ H' b = none := fun b hb o e =>
          let z := I'.pin (b, o) (List.mem_append_right _ (List.mem_append_right _ (mem_pinsAt hb e)))
          ⟨z.1, z.2.1⟩
        have hl : (wipe σ (own.map (·.2))).length = σ8.length := by rw [← hw8, wipe_length]
        refine ⟨m', hm, i + 1, H', (I'.unpinned (pins := [])).weak hl (fun j v e => ?_), T.keep _ _ _ st7 fun b hb o e => (pin' b hb o e).1, fun b hb => ?_, w'⟩
        · rw [← hw8] at e
          exact (wipe_some e).1
        · obtain ⟨o, e, _⟩ := T.obj _ _ st7 b hb
          exact (pin' b hb o e).2
      cases b with
      | false =>
        simp only [Bool.false_eq_true, if_false] at q9 ⊢
        exact fin I9 q9
      | true =>
        simp only [if_true] at q9 ⊢
        refine thnF (pk.run _ s9 σ8 H9 _ I9 q9) fun z s10 ⟨yk, H10, I10, r10, q10⟩ => ?_
        refine thnF (pe.run _ s10 σ8 H10 _ I10 q10) fun z2 s11 ⟨yv, H11, I11, r11, kvs, k, bk, ek, hb11, hD11, hz11, nx⟩ => ?_
        subst ek
        cases r10
        exact d_dictSetT (X := X.blk s3 H3 scope ce fp) hu I11 hD11 hb11 hz11 r11 fun s12 I12 => fin I12 nx
  exact codeAny_compStart_dict loop (T.self X.A 0 _ _ _ st4 loop)
theorem pe_dcT {kx vx tg iter : Expr} {ifs : List Expr} {scope : Scope} {own : List (Str × Nat)} {pos : Pos} {wi : TI} {g : TG} {tt : TT} {tk tv : TE} (hu : X.A.units + 1 < cLine) (hc : X.calm = true) (hN : X.N.Nodup) (hi : PI X tg iter wi) (ok : BlkOk X.N X.env.scope scope own)
    (hg : ∀ (s : Shared) (H : Hp) (C : Addr) (cl : List (Str × Addr)) (fp : List Addr), PG (X.blk s H scope (compEnvC scope cl C X.env) fp) tg g) (ht : ∀ (s : Shared) (H : Hp) (C : Addr) (cl : List (Str × Addr)) (fp : List Addr), PTs (X.blk s H scope (compEnvC scope cl C X.env) fp) ifs tt)
    (hk : ∀ (s : Shared) (H : Hp) (C : Addr) (cl : List (Str × Addr)) (fp : List Addr), PE (X.blk s H scope (compEnvC scope cl C X.env) fp) kx tk)
    (he : ∀ (s : Shared) (H : Hp) (C : Addr) (cl : List (Str × Addr)) (fp : List Addr), PE (X.blk s H scope (compEnvC scope cl C X.env) fp) vx tv) (hs : ∀ x, foldedSetIterable iter X.env x = pure x := by intro _; rfl) :
    PE X (.DictComp kx vx [⟨tg, iter, ifs, 0⟩] scope pos) (tDcT X.K wi g tt tk tv (own.map (·.2))) := by
  refine ⟨fun pins s σ H Q I h => ?_⟩
  rw [arm_eval_DictComp]
  refine dcT_core hu hc hN I hi ok hg ht hk he hs h fun D C s' m H' I' q hn f => ⟨m, hn, fun h'' sb => ?_⟩
  obtain ⟨f0, f1, f2, f3, f4, f5⟩ := f
  exact ⟨.ref D, H', I'.turned (t' := s'.toks) (fun b o hb e => (sb.2 b hb).trans e) f0 f1 f3 f4 f5, rfl, q⟩
end
/-- over enumerate of a tuple that stays -/
theorem dcT_enum {K : PySem.W.Frag} {a : Addr} {xs : List V} {g : TG} {tt : TT} {tk tv : TE} {vs : List Nat} {σ : L2.St} {H1 : Hp} {D : Addr} {Qd : Hp → Prop} (Pv : Nat → Hp → Prop) (h0 : Pv 0 (upd H1 D (.dT []))) (hl : ∀ i H, i ≤ xs.length → Pv i H → SqT K H a xs)
    (hs : ∀ i x H, xs[i]? = some x → Pv i H → ∀ T, H T = none → g (.ref T) (wipe σ vs) (upd H T (.tup [.int (i : Nat), x])) fun σ2 H2 => wipe σ2 vs = wipe σ vs ∧ tt σ2 H2 fun b H3 =>
      if b = true then tk σ2 H3 fun y H4 => tv σ2 H4 fun z H5 => ∃ kvs k b, y = .ref b ∧ H5 b = some (.tup (k.map kV)) ∧ H5 D = some (.dT kvs) ∧ kvs.length < sizeLine ∧ Pv (i + 1) (upd H5 D (.dT (putK kvs k z))) else Pv (i + 1) H3) (hd : ∀ H, Pv xs.length H → Qd H) :
    ∃ W : Nat → Nat → Hp → Prop, (∃ m, W 0 m (upd H1 D (.dT []))) ∧ ∀ i m H, W i m H →
      ((IteT K a).stop i H ∧ Qd H) ∨ ((IteT K a).go i H ∧ ∃ Nx : Hp → Prop, (∀ H', Nx H' → ∃ m', m' < m ∧ W (i + 1) m' H') ∧ ∀ x H', (IteT K a).yld i H x H' → g x (wipe σ vs) H' fun σ2 H2 => wipe σ2 vs = wipe σ vs ∧ tt σ2 H2 fun b H3 =>
        if b = true then tk σ2 H3 fun y H4 => tv σ2 H4 fun z H5 => ∃ kvs k b, y = .ref b ∧ H5 b = some (.tup (k.map kV)) ∧ H5 D = some (.dT kvs) ∧ kvs.length < sizeLine ∧ Nx (upd H5 D (.dT (putK kvs k z))) else Nx H3) := by
  refine ⟨fun i m H => m = xs.length - i ∧ i ≤ xs.length ∧ Pv i H, ⟨xs.length, by simp, Nat.zero_le _, h0⟩, ?_⟩
  rintro i m H ⟨rfl, hi, p⟩
  have q := hl i H hi p
  by_cases hlt : i < xs.length
  · refine .inr ⟨⟨xs, xs[i], q, by simp [hlt]⟩, Pv (i + 1), fun H' p' => ⟨xs.length - (i + 1), by omega, rfl, hlt, p'⟩, fun x H' y => ?_⟩
    obtain ⟨T, z, e1, e2, e3, e4⟩ := y
    subst e1 e3
    exact hs i z _ (e4 xs q) p T e2
  · have e : i = xs.length := by omega
    subst e
    exact .inl ⟨⟨xs, q, Nat.le_refl _⟩, hd H p⟩
end CF

/-! text CfBase -/
set_option Elab.async false
set_option linter.all false
set_option maxRecDepth 100000
set_option maxHeartbeats 2000000
/-! short names of readings, the rules by them, what may be called -/
namespace CF
open PySem PySem.Spec PyProof.Rows L2
abbrev RCs := List V → Hp → VK → Prop
abbrev rAddI : R2 := rI0 fun i j => .int (i + j)
abbrev rSubI : R2 := rI0 fun i j => .int (i - j)
abbrev rMulI : R2 := rI CMul fun i j => .int (i * j)
abbrev rModI : R2 := rI (fun _ j => 0 < j) fun i j => .int (i % j)
abbrev rFdvI : R2 := rI CDiv fun i j => .int (i / j)
abbrev rPowI : R2 := rI CPow fun i j => .int (i ^ j.toNat)
abbrev rLtI : R2 := rI0 fun i j => .bl (decide (i < j))
abbrev rLeI : R2 := rI0 fun i j => .bl (decide (i ≤ j))
abbrev rGtI : R2 := rI0 fun i j => .bl (decide (j < i))
abbrev rGeI : R2 := rI0 fun i j => .bl (decide (j ≤ i))
abbrev rIsNo : R2 := fun x y H Q => y = .non ∧ Q (.bl (decide (x = .non))) H
abbrev rNotNo : R2 := fun x y H Q => y = .non ∧ Q (.bl (!decide (x = .non))) H
abbrev rAddT : R2 := fun x y H Q => ∃ i j, x = .str i ∧ y = .str j ∧ i.length + j.length ≤ sizeLine ∧ Q (.str (i ++ j)) H
abbrev rInC : R2 := fun x y H Q => ∃ (c : Nat) (z : Str), x = .str ⟨#[c]⟩ ∧ y = .str z ∧ Q (.bl (decide (c ∈ z.cps.toList))) H
abbrev rNotInC : R2 := fun x y H Q => ∃ (c : Nat) (z : Str), x = .str ⟨#[c]⟩ ∧ y = .str z ∧ Q (.bl (!decide (c ∈ z.cps.toList))) H
abbrev cAbs : RCs := fun xs H Q => ∃ i, xs = [.int i] ∧ Q (.int (if i < 0 then -i else i)) H
abbrev cMax : RCs := fun xs H Q => ∃ i j, xs = [.int i, .int j] ∧ Q (.int (if j > i then j else i)) H
abbrev cMin : RCs := fun xs H Q => ∃ i j, xs = [.int i, .int j] ∧ Q (.int (if j < i then j else i)) H
abbrev cInt : RCs := fun xs H Q => (∃ i, xs = [.int i] ∧ Q (.int i) H) ∨ ∃ k, xs = [.bl k] ∧ Q (.int (if k then 1 else 0)) H
abbrev cIntS : RCs := fun xs H Q => ∃ a n, xs = [.str a] ∧ PySem.intText? a = some n ∧ a.length ≤ 640 ∧ Q (.int n) H
abbrev cTup (K : PySem.W.Frag) : RCs := fun xs H Q => ∃ p ys, xs = [.ref p] ∧ ((SqL K H p ys ∧ ∀ l, H l = none → Q (.ref l) (upd H l (.tup ys))) ∨ (SqT K H p ys ∧ Q (.ref p) H))
abbrev cLst (K : PySem.W.Frag) : RCs := fun xs H Q => ∃ p ys, xs = [.ref p] ∧ (SqL K H p ys ∨ SqT K H p ys) ∧ ∀ l, H l = none → Q (.ref l) (upd H l (.lst ys))
abbrev cStrI : RCs := fun xs H Q => ∃ i : Int, xs = [.int i] ∧ i.natAbs.log2 < 1920 ∧ Q (.str (toString i)) H
abbrev cStrS : RCs := fun xs H Q => ∃ a, xs = [.str a] ∧ Q (.str a) H
abbrev cDvm : RCs := fun xs H Q => ∃ i j, xs = [.int i, .int j] ∧ CDivP i j ∧ ∀ p, H p = none → Q (.ref p) (upd H p (.tup [.int (i / j), .int (i % j)]))
abbrev mSplit : V → List V → Hp → VK → Prop := fun x xs H Q => ∃ a b, x = .str a ∧ xs = [.str b] ∧ (b.length == 0) = false ∧ a.length + 2 ≤ sizeLine ∧ rNewStrs (Txt.split a b) H Q
abbrev mJoin (K : PySem.W.Frag) : V → List V → Hp → VK → Prop := fun x xs H Q => ∃ a p, ∃ ys : List Str, x = .str a ∧ xs = [.ref p] ∧ (SqL K H p (ys.map V.str) ∨ SqT K H p (ys.map V.str)) ∧ (ys.map (·.length)).sum + ys.length * a.length ≤ 16777216 ∧ Q (.str (Txt.join a ys)) H
abbrev mFind : V → List V → Hp → VK → Prop := fun x xs H Q => ∃ a b, x = .str a ∧ xs = [.str b] ∧ Q (.int (Txt.find a b)) H
abbrev tJoined (ts : List TE) : TE := fun σ H Q => tJs ts Str.empty σ H fun out H1 => Q (.str out) H1
abbrev tMakeV (K : PySem.W.Frag) (C : Addr) (i : Nat) (sp : Sp) (te : TE) : TE := fun σ H Q => σ[i]? = some (some (.ref C)) ∧ te σ H fun y H1 => ∃ a xs, y = V.ref a ∧ (SqT K H1 a xs ∨ SqL K H1 a xs) ∧ ∀ x dx, H1 x = Option.none → H1 dx = Option.none → dx ≠ x →
      sp (V.ref x :: xs) (upd (upd H1 dx (.own x)) x (.ins C dx [])) (fun v H2 => v = .non ∧ Q (.ref x) H2) C8.E0
section
variable {P : Program} {w : World} {K : PySem.W.Frag} {mg : Str → Option Value} {base : Heap}
/-- a property of the class at C -/
structure Gtr (P : Program) (w : World) (K : PySem.W.Frag) (mg : Str → Option Value) (base : Heap) (k : Nat) (C : Addr) (m : Str) (sp : Sp) : Prop where
  ex : ∃ (p g : Addr) (fd : FuncData) (ps : List Str), Cls K C ∧ PropOf K C m p g ∧ FnOk P w K mg base C8.CX0 k g fd ps sp ∧ Binds K fd ps []
section
variable {x m qual : Str} {args : Arguments} {body : List Stmt} {scope : Scope} {f C : Addr} {fd : FuncData} {N ps : List Str} {k : Nat} {sp : Sp} {kws : List (Str × V)}
/-- by the body: a def of the module -/
theorem calN (F : FunD K x x args body scope [] kws f fd) (hm : mg x = some (.ref f)) (S : C8.scC N ps scope = true) (b : ∀ (kV doc pm : Value) (an : Option Addr) (cdv ct : Value) (us : List Value), us.length = ps.length → bindArgs (PySem.W.fnOf x x args body scope .none kV doc pm an cdv ct) ⟨us, []⟩ = pure (ps.zip us))
    (len : ∀ vs H Q E, sp vs H Q E → vs.length = ps.length)
    (hbody : ∀ (cdv : Value) (A : Around) (outer : List Env) (s : Shared) (H : Hp) (vs : List V) (Q : VK) (E : XK), Room k (A.deeper (envOfC x scope s.heap.objs.size f cdv)) → sp vs H Q E →
      ∃ t, PSs (cxOf C8.CX0 P w K mg base N x scope f cdv A outer s H E).nox body t ∧ t { nx := fun _ H' => Q .non H', rt := Q } (start N vs) H) : C8.Cal P w K mg base (k + 1) x sp [] :=
  ⟨f, fd, ps, [], F.ok (C8.fnScope_by S) len fun cdv A outer s H vs Q E hr h => by
    obtain ⟨t, h1, h2⟩ := hbody cdv A outer s H vs Q E hr h
    exact ⟨t, h1.nox, h2⟩, hm, F.kp, F.bindsN b, .nil⟩
theorem metN (c : Cls K C) (me : Meth K C m f) (F : FunD K m qual args body scope [] kws f fd) (S : C8.scC N ps scope = true) (b : ∀ (kV doc pm : Value) (an : Option Addr) (cdv ct : Value) (us : List Value), us.length = ps.length → bindArgs (PySem.W.fnOf m qual args body scope .none kV doc pm an cdv ct) ⟨us, []⟩ = pure (ps.zip us))
    (len : ∀ vs H Q E, sp vs H Q E → vs.length = ps.length)
    (hbody : ∀ (cdv : Value) (A : Around) (outer : List Env) (s : Shared) (H : Hp) (vs : List V) (Q : VK) (E : XK), Room k (A.deeper (envOfC qual scope s.heap.objs.size f cdv)) → sp vs H Q E →
      ∃ t, PSs (cxOf C8.CX0 P w K mg base N qual scope f cdv A outer s H E).nox body t ∧ t { nx := fun _ H' => Q .non H', rt := Q } (start N vs) H) : C8.Met P w K mg base (k + 1) C m sp [] :=
  ⟨f, fd, ps, [], c, me, F.ok (C8.fnScope_by S) len fun cdv A outer s H vs Q E hr h => by
    obtain ⟨t, h1, h2⟩ := hbody cdv A outer s H vs Q E hr h
    exact ⟨t, h1.nox, h2⟩, F.bindsN b, .nil⟩
theorem makN (M : Mk K C f) (hm : mg x = some (.ref C)) (F : FunD K m qual args body scope [] kws f fd) (S : C8.scC N ps scope = true) (b : ∀ (kV doc pm : Value) (an : Option Addr) (cdv ct : Value) (us : List Value), us.length = ps.length → bindArgs (PySem.W.fnOf m qual args body scope .none kV doc pm an cdv ct) ⟨us, []⟩ = pure (ps.zip us))
    (len : ∀ vs H Q E, sp vs H Q E → vs.length = ps.length)
    (hbody : ∀ (cdv : Value) (A : Around) (outer : List Env) (s : Shared) (H : Hp) (vs : List V) (Q : VK) (E : XK), Room k (A.deeper (envOfC qual scope s.heap.objs.size f cdv)) → sp vs H Q E →
      ∃ t, PSs (cxOf C8.CX0 P w K mg base N qual scope f cdv A outer s H E).nox body t ∧ t { nx := fun _ H' => Q .non H', rt := Q } (start N vs) H) : C8.Mak P w K mg base (k + 1) x C sp [] :=
  ⟨f, fd, ps, [], M, F.ok (C8.fnScope_by S) len fun cdv A outer s H vs Q E hr h => by
    obtain ⟨t, h1, h2⟩ := hbody cdv A outer s H vs Q E hr h
    exact ⟨t, h1.nox, h2⟩, hm, F.bindsN b, .nil⟩
theorem gtrN {p : Addr} (c : Cls K C) (pr : PropOf K C m p f) (F : FunD K m qual args body scope [] kws f fd) (S : C8.scC N ps scope = true) (b : ∀ (kV doc pm : Value) (an : Option Addr) (cdv ct : Value) (us : List Value), us.length = ps.length → bindArgs (PySem.W.fnOf m qual args body scope .none kV doc pm an cdv ct) ⟨us, []⟩ = pure (ps.zip us))
    (len : ∀ vs H Q E, sp vs H Q E → vs.length = ps.length)
    (hbody : ∀ (cdv : Value) (A : Around) (outer : List Env) (s : Shared) (H : Hp) (vs : List V) (Q : VK) (E : XK), Room k (A.deeper (envOfC qual scope s.heap.objs.size f cdv)) → sp vs H Q E →
      ∃ t, PSs (cxOf C8.CX0 P w K mg base N qual scope f cdv A outer s H E).nox body t ∧ t { nx := fun _ H' => Q .non H', rt := Q } (start N vs) H) : Gtr P w K mg base (k + 1) C m sp :=
  ⟨p, f, fd, ps, c, pr, F.ok (C8.fnScope_by S) len fun cdv A outer s H vs Q E hr h => by
    obtain ⟨t, h1, h2⟩ := hbody cdv A outer s H vs Q E hr h
    exact ⟨t, h1.nox, h2⟩, F.bindsN b⟩
/-- a method that is found otherwise (a wrapped one, a special one) -/
theorem rawN (F : FunD K m qual args body scope [] kws f fd) (S : C8.scC N ps scope = true) (b : ∀ (kV doc pm : Value) (an : Option Addr) (cdv ct : Value) (us : List Value), us.length = ps.length → bindArgs (PySem.W.fnOf m qual args body scope .none kV doc pm an cdv ct) ⟨us, []⟩ = pure (ps.zip us))
    (len : ∀ vs H Q E, sp vs H Q E → vs.length = ps.length)
    (hbody : ∀ (cdv : Value) (A : Around) (outer : List Env) (s : Shared) (H : Hp) (vs : List V) (Q : VK) (E : XK), Room k (A.deeper (envOfC qual scope s.heap.objs.size f cdv)) → sp vs H Q E →
      ∃ t, PSs (cxOf C8.CX0 P w K mg base N qual scope f cdv A outer s H E).nox body t ∧ t { nx := fun _ H' => Q .non H', rt := Q } (start N vs) H) : FnR P w K mg base C8.CX0 (k + 1) f sp := by
  have h : FnR P w K mg base C8.CX0 (k + 1) f (fun vs H Q E => sp (vs ++ []) H Q E) := (F.ok (CX := C8.CX0) (P := P) (w := w) (mg := mg) (base := base) (C8.fnScope_by S) len fun cdv A outer s H vs Q E hr h => by
    obtain ⟨t, h1, h2⟩ := hbody cdv A outer s H vs Q E hr h
    exact ⟨t, h1.nox, h2⟩).raw (F.bindsN b) .nil
  intro A outer s H us vs Q E hr e0 r q
  exact h A outer s H us vs Q E hr e0 r (by
    show sp (vs ++ []) H Q E
    rw [List.append_nil]
    exact q)
end
end
section
variable {X : Cx} {pos p apos : Pos} {e o a b : Expr} {es : List Expr} {te ta tb to : TE} {t : TA} {k j : Nat} {C : Addr} {m : Str} {sp : Sp}
theorem pe_gt (c : Gtr X.prog X.w X.K X.mg X.base k C m sp) (hr : Room j X.A) (hk : k + 1 ≤ j) (he : PE X o to) (hab : attributeBase o m X.env (eval o X.env) = eval o X.env := by rfl) : PE X (.Attribute o m pos) (tProp C sp [] C8.E0 to) := by
  obtain ⟨p, g, fd, ps, hc, hp, F, b⟩ := c.ex
  exact pe_prop he hc hp F (hr.mono hk) b .nil C8.pass0 hab
theorem pe_c0 {x : Str} {dvs : List V} (c : C8.Cal X.prog X.w X.K X.mg X.base k x sp dvs) (hr : Room j X.A) (hk : k ≤ j) (hg : Gl X x) (hdb : (x == ("__debug__" : Str)) = false := by decide) : PE X (.Call (.Name x p) [] [] pos) (tCall sp dvs C8.E0 tNil) := by
  obtain ⟨f, fd, ps, ds, F, hm, kp, b, d⟩ := c.ex
  exact pe_call0 F (hr.mono hk) hg hm kp b d C8.pass0 hdb
theorem pip_ext : PIp X .Add rExt2 := iop_ext
end
end CF

/-! text CfMath -/
set_option Elab.async false
set_option maxHeartbeats 4000000
/-! Plain law: pulled sources against gates. No program in sight. -/
namespace CF
/-- a term: the entry's index, its word -/
abbrev Tm (α : Type) := Nat × List α
inductive Sg (α : Type) where
  | each (w : List α) | keep (t : List α) | drop (t : List α) | whil (t : List α) | from_ (t : List α)
  | first (n : Nat) | skip (n : Nat) | every (k r : Nat)
  | last (n : Nat) | butl (n : Nat) | turned
def Sg.isList {α : Type} : Sg α → Bool
  | .last _ => true | .butl _ => true | .turned => true | _ => false
structure Step (α : Type) where
  s : Sg α
  now : Bool
section
variable {α : Type} (T : Nat → List α → Bool)
/-- the calls of ns on the value (i, w), the innermost first -/
def behC (i : Nat) : List α → List α → List (Tm α)
  | [], _ => []
  | n :: r, w => behC i r w ++ [(i, n :: (r ++ w))]
abbrev GS := Nat × Bool
/-- a gate's step: calls, what goes on, whether the part ends, the gate behind it -/
def gstep (s : Sg α) (g : GS) (x : Tm α) : List (Tm α) × Option (Tm α) × Bool × GS :=
  match s with
  | .each w => (behC x.1 w x.2, some (x.1, w ++ x.2), false, (g.1 + 1, g.2))
  | .keep t => (behC x.1 t x.2, if T x.1 (t ++ x.2) = true then some x else none, false, (g.1 + 1, g.2))
  | .drop t => (behC x.1 t x.2, if T x.1 (t ++ x.2) = true then none else some x, false, (g.1 + 1, g.2))
  | .whil t => (behC x.1 t x.2, if T x.1 (t ++ x.2) = true then some x else none, !T x.1 (t ++ x.2), (g.1 + 1, g.2))
  | .from_ t => if g.2 = true then ([], some x, false, (g.1 + 1, g.2)) else
      (behC x.1 t x.2, if T x.1 (t ++ x.2) = true then none else some x, false, (g.1 + 1, !T x.1 (t ++ x.2)))
  | .first n => ([], if g.1 + 1 ≤ n then some x else none, decide (g.1 + 1 = n), (g.1 + 1, g.2))
  | .skip n => ([], if n < g.1 + 1 then some x else none, false, (g.1 + 1, g.2))
  | .every k r => ([], if r < g.1 + 1 ∧ (g.1 - r) % k = 0 then some x else none, false, (g.1 + 1, g.2))
  | _ => ([], some x, false, g)
/-- a value through all gates -/
def pass : List (Sg α) → List GS → Tm α → List (Tm α) × Option (Tm α) × Bool × List GS
  | s :: ss, g :: gs, x =>
    let r := gstep T s g x
    match r.2.1 with
    | none => (r.1, none, r.2.2.1, r.2.2.2 :: gs)
    | some y => let q := pass ss gs y; (r.1 ++ q.1, q.2.1, r.2.2.1 || q.2.2.1, r.2.2.2 :: q.2.2.2)
  | _, gs, x => ([], some x, false, gs)
/-- the values of a list through gates: what is left, the calls -/
def runPart (ss : List (Sg α)) : List GS → List (Tm α) → List (Tm α) × List (Tm α)
  | _, [] => ([], [])
  | gs, x :: xs =>
    let r := pass T ss gs x
    let q := if r.2.2.1 = true then ([], []) else runPart ss r.2.2.2 xs
    (r.2.1.toList ++ q.1, r.1 ++ q.2)
def isF0 : Sg α → Bool
  | .first 0 => true
  | _ => false
def gs0 (ss : List (Sg α)) : List GS := ss.map fun _ => (0, false)
def playPart (ss : List (Sg α)) (xs : List (Tm α)) : List (Tm α) × List (Tm α) := if ss.any isF0 = true then ([], []) else runPart T ss (gs0 ss) xs
def leftOf (s : Sg α) (xs : List (Tm α)) : List (Tm α) := match s with
  | .turned => xs.reverse
  | .last n => xs.drop (xs.length - n)
  | .butl n => xs.take (xs.length - n)
  | _ => xs

/-! ### traces -/
abbrev Tr (α : Type) := List (List (Tm α) × Tm α) × List (Tm α)
def ofVals (xs : List (Tm α)) : Tr α := (xs.map fun x => ([], x), [])
def flat (t : Tr α) : List (Tm α) × List (Tm α) := (t.1.map (·.2), t.1.flatMap (·.1) ++ t.2)
def pre (c : List (Tm α)) : Tr α → Tr α
  | ([], tl) => ([], c ++ tl)
  | ((d, x) :: ev, tl) => ((c ++ d, x) :: ev, tl)
/-- a gate's trace -/
def trM (s : Sg α) : GS → List (List (Tm α) × Tm α) → List (Tm α) → Tr α
  | _, [], tl => ([], tl)
  | g, (c, x) :: ev, tl =>
    let r := gstep T s g x
    match r.2.1 with
    | some y => if r.2.2.1 = true then ([(c ++ r.1, y)], []) else let q := trM s r.2.2.2 ev tl; ((c ++ r.1, y) :: q.1, q.2)
    | none => if r.2.2.1 = true then ([], c ++ r.1) else pre (c ++ r.1) (trM s r.2.2.2 ev tl)
/-- the trace of many gates -/
def trP (ss : List (Sg α)) : List GS → List (List (Tm α) × Tm α) → List (Tm α) → Tr α
  | _, [], tl => ([], tl)
  | gs, (c, x) :: ev, tl =>
    let r := pass T ss gs x
    match r.2.1 with
    | some y => if r.2.2.1 = true then ([(c ++ r.1, y)], []) else let q := trP ss r.2.2.2 ev tl; ((c ++ r.1, y) :: q.1, q.2)
    | none => if r.2.2.1 = true then ([], c ++ r.1) else pre (c ++ r.1) (trP ss r.2.2.2 ev tl)
/-- islice: how many were taken, the next index, the end, the step -/
def islT (stop : Option Nat) (step : Nat) : Nat → Nat → List (List (Tm α) × Tm α) → List (Tm α) → Tr α
  | cnt, nxt, [], tl => if cnt < nxt then ([], tl) else if stop.any (fun m => decide (m ≤ cnt)) = true then ([], []) else ([], tl)
  | cnt, nxt, (c, x) :: ev, tl => if cnt < nxt then pre c (islT stop step (cnt + 1) nxt ev tl)
    else if stop.any (fun m => decide (m ≤ cnt)) = true then ([], []) else let q := islT stop step (cnt + 1) (nxt + step) ev tl; ((c, x) :: q.1, q.2)
def takT (t : List α) : List (List (Tm α) × Tm α) → List (Tm α) → Tr α
  | [], tl => ([], tl)
  | (c, x) :: ev, tl => if T x.1 (t ++ x.2) = true then let q := takT t ev tl; ((c ++ behC x.1 t x.2, x) :: q.1, q.2) else ([], c ++ behC x.1 t x.2)
def drpT (t : List α) : List (List (Tm α) × Tm α) → List (Tm α) → Tr α
  | [], tl => ([], tl)
  | (c, x) :: ev, tl => if T x.1 (t ++ x.2) = true then pre (c ++ behC x.1 t x.2) (drpT t ev tl) else ((c ++ behC x.1 t x.2, x) :: ev, tl)
/-- a generator expression with at most one condition -/
def rowT (cd : Option (List α × Bool)) (w : List α) : List (List (Tm α) × Tm α) → List (Tm α) → Tr α
  | [], tl => ([], tl)
  | (c, x) :: ev, tl => match cd with
    | none => let q := rowT cd w ev tl; ((c ++ behC x.1 w x.2, (x.1, w ++ x.2)) :: q.1, q.2)
    | some (t, b) => if T x.1 (t ++ x.2) = b then let q := rowT cd w ev tl; ((c ++ behC x.1 t x.2 ++ behC x.1 w x.2, (x.1, w ++ x.2)) :: q.1, q.2)
      else pre (c ++ behC x.1 t x.2) (rowT cd w ev tl)
/-- the trace of a line's generator -/
def lineT (s : Sg α) (t : Tr α) : Tr α := match s with
  | .each w => rowT T none w t.1 t.2
  | .keep p => rowT T (some (p, true)) [] t.1 t.2
  | .drop p => rowT T (some (p, false)) [] t.1 t.2
  | .whil p => takT T p t.1 t.2
  | .from_ p => drpT T p t.1 t.2
  | .first n => islT (some n) 1 0 0 t.1 t.2
  | .skip n => islT none 1 0 n t.1 t.2
  | .every k r => islT none k 0 r t.1 t.2
  | _ => t
/-- a text carried out line by line -/
def lawRun : List (Step α) → Tr α → List (Tm α) → List (Tm α) × List (Tm α)
  | [], t, cs => ((flat t).1, cs ++ (flat t).2)
  | st :: r, t, cs =>
    if st.s.isList = true then lawRun r (ofVals (leftOf st.s (flat t).1)) (cs ++ (flat t).2)
    else if st.now = true then lawRun r (ofVals (flat (lineT T st.s t)).1) (cs ++ (flat (lineT T st.s t)).2)
    else lawRun r (lineT T st.s t) cs
/-- a flow's parts -/
def partsGo : List (Step α) → List (Step α) → List (List (Step α))
  | [], p => [p]
  | st :: r, p => if st.s.isList = true then p :: [st] :: partsGo r []
    else if st.now = true then (p ++ [st]) :: partsGo r [] else partsGo r (p ++ [st])
def partsOf (l : List (Step α)) : List (List (Step α)) := (partsGo l []).filter fun p => decide (0 < p.length)
def partRun (p : List (Step α)) (xs : List (Tm α)) : List (Tm α) × List (Tm α) := match p with
  | [] => (xs, [])
  | st :: r => if st.s.isList = true then (leftOf st.s xs, []) else playPart T ((st :: r).map (·.s)) xs
def playParts : List (List (Step α)) → List (Tm α) → List (Tm α) → List (Tm α) × List (Tm α)
  | [], xs, cs => (xs, cs)
  | p :: r, xs, cs => playParts r (partRun T p xs).1 (cs ++ (partRun T p xs).2)
def progRun (l : List (Step α)) (xs : List (Tm α)) : List (Tm α) × List (Tm α) := playParts T (partsOf l) xs []

/-! ### lemmas on traces -/
variable {T}
theorem pre_nil (t : Tr α) : pre [] t = t := by
  obtain ⟨ev, tl⟩ := t
  cases ev with
  | nil => rfl
  | cons e ev => obtain ⟨c, x⟩ := e; rfl
theorem pre_pre (a b : List (Tm α)) (t : Tr α) : pre a (pre b t) = pre (a ++ b) t := by
  obtain ⟨ev, tl⟩ := t
  cases ev with
  | nil => simp [pre, List.append_assoc]
  | cons e ev => obtain ⟨c, x⟩ := e; simp [pre, List.append_assoc]
theorem flat_pre (a : List (Tm α)) (t : Tr α) : flat (pre a t) = ((flat t).1, a ++ (flat t).2) := by
  obtain ⟨ev, tl⟩ := t
  cases ev with
  | nil => simp [pre, flat]
  | cons e ev => obtain ⟨c, x⟩ := e; simp [pre, flat, List.append_assoc]
theorem trM_pre (s : Sg α) (g : GS) (a : List (Tm α)) (t : Tr α) : trM T s g (pre a t).1 (pre a t).2 = pre a (trM T s g t.1 t.2) := by
  obtain ⟨ev, tl⟩ := t
  cases ev with
  | nil => simp [pre, trM]
  | cons e ev =>
    obtain ⟨c, x⟩ := e
    have e : pre a (((c, x) :: ev, tl) : Tr α) = ((a ++ c, x) :: ev, tl) := rfl
    rw [e]
    simp only [trM]
    split
    · split
      · simp [pre, List.append_assoc]
      · simp [pre, List.append_assoc]
    · split
      · simp [pre, List.append_assoc]
      · rw [pre_pre, List.append_assoc]
/-- one gate more at the end -/
theorem pass_snoc (s : Sg α) (g : GS) : ∀ (ss : List (Sg α)) (gs : List GS) (x : Tm α), gs.length = ss.length →
    pass T (ss ++ [s]) (gs ++ [g]) x = (match (pass T ss gs x).2.1 with
      | none => ((pass T ss gs x).1, none, (pass T ss gs x).2.2.1, (pass T ss gs x).2.2.2 ++ [g])
      | some y => ((pass T ss gs x).1 ++ (gstep T s g y).1, (gstep T s g y).2.1, (pass T ss gs x).2.2.1 || (gstep T s g y).2.2.1, (pass T ss gs x).2.2.2 ++ [(gstep T s g y).2.2.2]))
  | [], [], x, _ => by
    simp only [List.nil_append, pass]
    cases h : (gstep T s g x).2.1 <;> simp
  | [], _ :: _, _, h => by simp at h
  | _ :: _, [], _, h => by simp at h
  | a :: ss, b :: gs, x, h => by
    have ih := fun y => pass_snoc s g ss gs y (by simpa using h)
    simp only [List.cons_append, pass]
    cases h1 : (gstep T a b x).2.1 with
    | none => simp
    | some y =>
      simp only [ih y]
      cases h2 : (pass T ss gs y).2.1 with
      | none => simp
      | some z => simp [List.append_assoc, Bool.or_assoc]
theorem pass_len : ∀ (ss : List (Sg α)) (gs : List GS) (x : Tm α), gs.length = ss.length → (pass T ss gs x).2.2.2.length = ss.length
  | [], [], x, _ => by simp [pass]
  | [], _ :: _, _, h => by simp at h
  | _ :: _, [], _, h => by simp at h
  | a :: ss, b :: gs, x, h => by
    have ih := fun y => pass_len ss gs y (by simpa using h)
    simp only [pass]
    cases h1 : (gstep T a b x).2.1 with
    | none => simpa using h
    | some y => simp [ih y]
theorem trM_trP (s : Sg α) (ss : List (Sg α)) : ∀ (ev : List (List (Tm α) × Tm α)) (tl : List (Tm α)) (g : GS) (gs : List GS), gs.length = ss.length →
    trM T s g (trP T ss gs ev tl).1 (trP T ss gs ev tl).2 = trP T (ss ++ [s]) (gs ++ [g]) ev tl
  | [], tl, g, gs, _ => by simp [trP, trM]
  | (c, x) :: ev, tl, g, gs, h => by
    have hl := pass_len (T := T) ss gs x h
    have ih := fun g' => trM_trP s ss ev tl g' _ hl
    simp only [trP, pass_snoc s g ss gs x h]
    cases h1 : (pass T ss gs x).2.1 with
    | none =>
      simp only
      cases h2 : (pass T ss gs x).2.2.1 with
      | true => simp [trM]
      | false => simp only [Bool.false_eq_true, if_false, trM_pre, ih g]
    | some y =>
      simp only
      cases h2 : (pass T ss gs x).2.2.1 with
      | true =>
        simp only [if_true, trM, Bool.true_or]
        cases h3 : (gstep T s g y).2.1 with
        | none => simp [pre, List.append_assoc]
        | some z => simp [List.append_assoc]
      | false =>
        simp only [Bool.false_eq_true, if_false, trM, Bool.false_or, ih]
        cases h3 : (gstep T s g y).2.1 with
        | none => simp [List.append_assoc]
        | some z => simp [List.append_assoc]
theorem trP_nil : ∀ (ev : List (List (Tm α) × Tm α)) (tl : List (Tm α)), trP T [] [] ev tl = (ev, tl)
  | [], tl => rfl
  | (c, x) :: ev, tl => by simp [trP, pass, trP_nil ev tl]
theorem flat_trP (ss : List (Sg α)) : ∀ (xs : List (Tm α)) (gs : List GS), flat (trP T ss gs (ofVals xs).1 (ofVals xs).2) = runPart T ss gs xs
  | [], gs => rfl
  | x :: xs, gs => by
    have ih := flat_trP ss xs
    have e : (ofVals (x :: xs)).1 = ([], x) :: (ofVals xs).1 := rfl
    have e2 : (ofVals (x :: xs)).2 = (ofVals xs).2 := rfl
    rw [e, e2]
    simp only [trP, runPart]
    cases h1 : (pass T ss gs x).2.1 with
    | none =>
      simp only
      cases h2 : (pass T ss gs x).2.2.1 with
      | true => simp [flat]
      | false => simp [flat_pre, ih]
    | some y =>
      simp only
      cases h2 : (pass T ss gs x).2.2.1 with
      | true => simp [flat]
      | false =>
        have q := ih (pass T ss gs x).2.2.2
        simp only [flat] at q
        simp only [flat, Bool.false_eq_true, if_false, List.map_cons, List.flatMap_cons, List.nil_append, ← q]
        simp [List.append_assoc]

/-! ### each line's generator is its gate -/
theorem rowT_none (w : List α) : ∀ (ev : List (List (Tm α) × Tm α)) (tl : List (Tm α)) (g : GS), rowT T none w ev tl = trM T (.each w) g ev tl
  | [], tl, g => rfl
  | (c, x) :: ev, tl, g => by simp [rowT, trM, gstep, rowT_none w ev tl (g.1 + 1, g.2)]
theorem rowT_keep (t : List α) : ∀ (ev : List (List (Tm α) × Tm α)) (tl : List (Tm α)) (g : GS), rowT T (some (t, true)) [] ev tl = trM T (.keep t) g ev tl
  | [], tl, g => rfl
  | (c, x) :: ev, tl, g => by
    have ih := rowT_keep t ev tl (g.1 + 1, g.2)
    simp only [rowT, trM, gstep]
    cases h : T x.1 (t ++ x.2) <;> simp [ih, behC]
theorem rowT_drop (t : List α) : ∀ (ev : List (List (Tm α) × Tm α)) (tl : List (Tm α)) (g : GS), rowT T (some (t, false)) [] ev tl = trM T (.drop t) g ev tl
  | [], tl, g => rfl
  | (c, x) :: ev, tl, g => by
    have ih := rowT_drop t ev tl (g.1 + 1, g.2)
    simp only [rowT, trM, gstep]
    cases h : T x.1 (t ++ x.2) <;> simp [ih, behC]
theorem takT_gate (t : List α) : ∀ (ev : List (List (Tm α) × Tm α)) (tl : List (Tm α)) (g : GS), takT T t ev tl = trM T (.whil t) g ev tl
  | [], tl, g => rfl
  | (c, x) :: ev, tl, g => by
    have ih := takT_gate t ev tl (g.1 + 1, g.2)
    simp only [takT, trM, gstep]
    rcases Bool.eq_false_or_eq_true (T x.1 (t ++ x.2)) with h | h <;> simp [h, ih]
theorem trM_open (t : List α) : ∀ (ev : List (List (Tm α) × Tm α)) (tl : List (Tm α)) (n : Nat), trM T (.from_ t) (n, true) ev tl = (ev, tl)
  | [], tl, n => rfl
  | (c, x) :: ev, tl, n => by simp [trM, gstep, trM_open t ev tl (n + 1)]
theorem drpT_gate (t : List α) : ∀ (ev : List (List (Tm α) × Tm α)) (tl : List (Tm α)) (n : Nat), drpT T t ev tl = trM T (.from_ t) (n, false) ev tl
  | [], tl, n => rfl
  | (c, x) :: ev, tl, n => by
    have ih := drpT_gate t ev tl (n + 1)
    simp only [drpT, trM, gstep]
    cases h : T x.1 (t ++ x.2)
    · simp [trM_open]
    · simp [ih]
theorem islT_first (n : Nat) : ∀ (ev : List (List (Tm α) × Tm α)) (tl : List (Tm α)) (i : Nat) (b : Bool), i < n → islT (some n) 1 i i ev tl = trM T (.first n) (i, b) ev tl
  | [], tl, i, b, h => by
    have : ¬ n ≤ i := by omega
    simp [islT, trM, this]
  | (c, x) :: ev, tl, i, b, h => by
    have h0 : ¬ n ≤ i := by omega
    have h1 : i + 1 ≤ n := by omega
    simp only [islT, trM, gstep, if_pos h1]
    by_cases e : i + 1 = n
    · have z : ∀ ev : List (List (Tm α) × Tm α), islT (some n) 1 (i + 1) (i + 1) ev tl = ([], []) := by
        intro ev
        have : n ≤ i + 1 := by omega
        cases ev with
        | nil => simp [islT, this]
        | cons e ev => obtain ⟨c, x⟩ := e; simp [islT, this]
      rw [z]
      simp [h0, e]
    · have ih := islT_first n ev tl (i + 1) b (by omega)
      simp [h0, e, ih]
theorem islT_first0 (ev : List (List (Tm α) × Tm α)) (tl : List (Tm α)) : islT (some 0) 1 0 0 ev tl = (([], []) : Tr α) := by
  cases ev with
  | nil => simp [islT]
  | cons e ev => obtain ⟨c, x⟩ := e; simp [islT]
theorem islT_skip2 (n : Nat) : ∀ (ev : List (List (Tm α) × Tm α)) (tl : List (Tm α)) (i : Nat) (b : Bool), n ≤ i → islT none 1 i i ev tl = trM T (.skip n) (i, b) ev tl
  | [], tl, i, b, h => by simp [islT, trM]
  | (c, x) :: ev, tl, i, b, h => by
    have ih := islT_skip2 n ev tl (i + 1) b (by omega)
    have h1 : n < i + 1 := by omega
    simp [islT, trM, gstep, h1, ih]
theorem islT_skip (n : Nat) : ∀ (ev : List (List (Tm α) × Tm α)) (tl : List (Tm α)) (i : Nat) (b : Bool), i ≤ n → islT none 1 i n ev tl = trM T (.skip n) (i, b) ev tl
  | [], tl, i, b, h => by simp [islT, trM]
  | (c, x) :: ev, tl, i, b, h => by
    by_cases e : i = n
    · subst e; exact islT_skip2 i _ tl i b (Nat.le_refl _)
    · have ih := islT_skip n ev tl (i + 1) b (by omega)
      have h1 : ¬ n < i + 1 := by omega
      have h2 : i < n := by omega
      simp only [islT, trM, gstep]
      simp [h1, h2, ih]
/-- every: the next index is the least from the count on that is r + k * m -/
theorem islT_every (k r : Nat) (hk : 0 < k) : ∀ (ev : List (List (Tm α) × Tm α)) (tl : List (Tm α)) (i nxt : Nat) (b : Bool), i ≤ nxt → r ≤ nxt → (nxt - r) % k = 0 → (∀ j, i ≤ j → j < nxt → r ≤ j → (j - r) % k ≠ 0) →
    islT none k i nxt ev tl = trM T (.every k r) (i, b) ev tl
  | [], tl, i, nxt, b, _, _, _, _ => by simp [islT, trM]
  | (c, x) :: ev, tl, i, nxt, b, h1, h2, h3, h4 => by
    by_cases e : i < nxt
    · have ih := islT_every k r hk ev tl (i + 1) nxt b (by omega) h2 h3 (fun j a b c => h4 j (by omega) b c)
      have h5 : ¬ (r < i + 1 ∧ (i - r) % k = 0) := fun z => h4 i (Nat.le_refl _) e (by omega) z.2
      simp only [islT, trM, gstep]
      simp [e, h5, ih]
    · have e2 : i = nxt := by omega
      subst e2
      have ih := islT_every k r hk ev tl (i + 1) (i + k) b (by omega) (by omega) (by rw [show i + k - r = (i - r) + k by omega, Nat.add_mod_right]; exact h3) (fun j a b c => by
        intro z
        have q1 : j - r = (i - r) + (j - i) := by omega
        have q2 : (j - r) % k = (j - i) % k := by rw [q1, Nat.add_mod, h3]; simp
        rw [q2, Nat.mod_eq_of_lt (by omega)] at z
        omega)
      have h5 : r < i + 1 ∧ (i - r) % k = 0 := ⟨by omega, h3⟩
      simp only [islT, trM, gstep]
      simp [h5, ih]
theorem first_nxt (k r i : Nat) (hi : i = 0) : ∀ j, i ≤ j → j < r → r ≤ j → (j - r) % k ≠ 0 := fun j _ a b => absurd a (by omega)

def Sg.ok0 : Sg α → Bool
  | .every k _ => decide (0 < k)
  | _ => true
theorem lineT_gate (s : Sg α) (hl : s.isList = false) (h0 : isF0 s = false) (hk : s.ok0 = true) (t : Tr α) : lineT T s t = trM T s (0, false) t.1 t.2 := by
  cases s with
  | each w => exact rowT_none w _ _ _
  | keep p => exact rowT_keep p _ _ _
  | drop p => exact rowT_drop p _ _ _
  | whil p => exact takT_gate p _ _ _
  | from_ p => exact drpT_gate p _ _ _
  | first n =>
    cases n with
    | zero => simp [isF0] at h0
    | succ n => exact islT_first (n + 1) _ _ 0 false (by omega)
  | skip n => exact islT_skip n _ _ 0 false (by omega)
  | every k r => exact islT_every k r (by simpa [Sg.ok0] using hk) _ _ 0 r false (by omega) (Nat.le_refl _) (by simp) (first_nxt k r 0 rfl)
  | last n => simp [Sg.isList] at hl
  | butl n => simp [Sg.isList] at hl
  | turned => simp [Sg.isList] at hl
theorem lineT_none (s : Sg α) (hl : s.isList = false) : lineT T s (([], []) : Tr α) = ([], []) := by
  cases s <;> simp [lineT, rowT, takT, drpT, islT]
  all_goals simp [Sg.isList] at hl
theorem lineT_f0 (s : Sg α) (h0 : isF0 s = true) (t : Tr α) : lineT T s t = ([], []) := by
  cases s with
  | first n =>
    cases n with
    | zero => exact islT_first0 _ _
    | succ n => simp [isF0] at h0
  | _ => simp [isF0] at h0

/-! ### the parts -/
/-- the trace of a part's stages over a list -/
def partT (T : Nat → List α → Bool) (ss : List (Sg α)) (xs : List (Tm α)) : Tr α := if ss.any isF0 = true then ([], []) else trP T ss (gs0 ss) (ofVals xs).1 (ofVals xs).2
theorem flat_partT (ss : List (Sg α)) (xs : List (Tm α)) : flat (partT T ss xs) = playPart T ss xs := by
  unfold partT playPart
  split
  · rfl
  · exact flat_trP ss xs _
theorem partT_nil (xs : List (Tm α)) : partT T [] xs = ofVals xs := by
  simp [partT, gs0, trP_nil]
theorem lineT_partT (ss : List (Sg α)) (s : Sg α) (xs : List (Tm α)) (hl : s.isList = false) (hk : s.ok0 = true) : lineT T s (partT T ss xs) = partT T (ss ++ [s]) xs := by
  unfold partT
  by_cases h : ss.any isF0 = true
  · have h2 : (ss ++ [s]).any isF0 = true := by rw [List.any_append, h]; rfl
    rw [if_pos h, if_pos h2]
    exact lineT_none s hl
  · rw [if_neg h]
    cases h0 : isF0 s with
    | true =>
      have h2 : (ss ++ [s]).any isF0 = true := by rw [List.any_append]; simp [h0]
      rw [if_pos h2]
      exact lineT_f0 s h0 _
    | false =>
      have h2 : ¬ (ss ++ [s]).any isF0 = true := by rw [List.any_append]; simp [h0]; simpa using h
      rw [if_neg h2, lineT_gate s hl h0 hk]
      have e := trM_trP (T := T) s ss (ofVals xs).1 (ofVals xs).2 (0, false) (gs0 ss) (by simp [gs0])
      rw [e]
      simp [gs0]
theorem playParts_cs : ∀ (ps : List (List (Step α))) (xs cs : List (Tm α)), playParts T ps xs cs = ((playParts T ps xs []).1, cs ++ (playParts T ps xs []).2)
  | [], xs, cs => by simp [playParts]
  | p :: r, xs, cs => by
    simp only [playParts]
    rw [playParts_cs r _ (cs ++ _), playParts_cs r _ ([] ++ _)]
    simp [List.append_assoc]
/-- parts that are empty are passed over -/
theorem playParts_filter : ∀ (ps : List (List (Step α))) (xs cs : List (Tm α)), playParts T (ps.filter fun p => decide (0 < p.length)) xs cs = playParts T ps xs cs
  | [], xs, cs => rfl
  | p :: r, xs, cs => by
    cases p with
    | nil =>
      have e : (([] : List (Step α)) :: r).filter (fun p => decide (0 < p.length)) = r.filter fun p => decide (0 < p.length) := by simp
      rw [e, playParts_filter r]
      simp [playParts, partRun]
    | cons s p =>
      have e : ((s :: p) :: r).filter (fun p => decide (0 < p.length)) = (s :: p) :: r.filter fun p => decide (0 < p.length) := by simp
      rw [e]
      simp only [playParts]
      exact playParts_filter r _ _
theorem flat_ofVals (xs : List (Tm α)) : flat (ofVals xs) = (xs, []) := by
  have e1 : (ofVals xs).1.map (·.2) = xs := by
    show (xs.map fun x => (([], x) : List (Tm α) × Tm α)).map (·.2) = xs
    rw [List.map_map]; exact List.map_id xs
  have e2 : (ofVals xs).1.flatMap (·.1) = [] := by
    show (xs.map fun x => (([], x) : List (Tm α) × Tm α)).flatMap (·.1) = []
    rw [List.flatMap_map]; simp
  unfold flat
  rw [e1, e2]; rfl
theorem partRun_nl (p : List (Step α)) (xs : List (Tm α)) (h : ∀ st ∈ p, st.s.isList = false) : partRun T p xs = flat (partT T (p.map (·.s)) xs) := by
  cases p with
  | nil => rw [List.map_nil, partT_nil, flat_ofVals]; rfl
  | cons st r =>
    have e := h st (List.mem_cons_self ..)
    simp only [partRun, e, flat_partT]
    simp
theorem law_prog : ∀ (l p : List (Step α)) (xs cs : List (Tm α)), (∀ st ∈ p, st.s.isList = false) → (∀ st ∈ l, st.s.ok0 = true) →
    lawRun T l (partT T (p.map (·.s)) xs) cs = playParts T (partsGo l p) xs cs
  | [], p, xs, cs, hp, _ => by
    simp only [lawRun, partsGo, playParts, partRun_nl p xs hp]
  | st :: r, p, xs, cs, hp, hk => by
    have hr : ∀ st ∈ r, st.s.ok0 = true := fun a b => hk a (List.mem_cons_of_mem _ b)
    simp only [lawRun, partsGo]
    cases hl : st.s.isList with
    | true =>
      have ih := law_prog r [] (leftOf st.s (flat (partT T (p.map (·.s)) xs)).1) (cs ++ (flat (partT T (p.map (·.s)) xs)).2) (by simp) hr
      simp only [List.map_nil, partT_nil] at ih
      simp only [if_true, ih, playParts, partRun_nl p xs hp]
      simp [partRun, hl]
    | false =>
      have hp' : ∀ s ∈ p ++ [st], s.s.isList = false := fun s hs => by
        rcases List.mem_append.mp hs with h | h
        · exact hp s h
        · rw [List.mem_singleton.mp h]; exact hl
      have el : lineT T st.s (partT T (p.map (·.s)) xs) = partT T ((p ++ [st]).map (·.s)) xs := by
        rw [lineT_partT _ _ _ hl (hk st (List.mem_cons_self ..))]; simp
      rw [el]
      cases hn : st.now with
      | true =>
        have ih := law_prog r [] (flat (partT T ((p ++ [st]).map (·.s)) xs)).1 (cs ++ (flat (partT T ((p ++ [st]).map (·.s)) xs)).2) (by simp) hr
        simp only [List.map_nil, partT_nil] at ih
        simp only [Bool.false_eq_true, if_false, if_true, ih, playParts, partRun_nl _ xs hp']
      | false =>
        simp only [Bool.false_eq_true, if_false]
        exact law_prog r (p ++ [st]) xs cs hp' hr
/-- THE PLAIN LAW -/
theorem run_eq (l : List (Step α)) (xs : List (Tm α)) (hk : ∀ st ∈ l, st.s.ok0 = true) : lawRun T l (ofVals xs) [] = progRun T l xs := by
  have e := law_prog (T := T) l [] xs [] (by simp) hk
  simp only [List.map_nil, partT_nil] at e
  rw [e, progRun, partsOf, playParts_filter]
end
end CF

/-! text CfTxt -/
set_option Elab.async false
set_option linter.all false
set_option maxRecDepth 100000
set_option maxHeartbeats 2000000
/-! names, words, texts by codes; what stands in the heap; how a heap goes on -/
namespace CF
open PySem PySem.Spec PyProof.Rows L2 Evl
abbrev Nm := List Nat
/-- the codes of a written text -/
def cd (s : String) : List Nat := s.toList.map Char.toNat
theorem cd_S (s : String) : Str.ofString s = SX.S (cd s) := by
  rw [Str.ofString_eq_toList]
  rfl
def letters : List Nat := cd "abcdefghijklmnopqrstuvwyz"
def digits : List Nat := cd "0123456789"
/-- a name: a letter that is no x, up to three figures -/
def nameB (n : Nm) : Bool := match n with
  | [] => false
  | c :: r => decide (c ∈ letters) && decide (r.length ≤ 3) && r.all fun d => decide (d ∈ digits)
def wordB (w : List Nm) : Bool := w.all nameB
/-- names applied to a text, the first outermost -/
def applL (w : List Nm) (x : List Nat) : List Nat := w.foldr (fun n t => n ++ ([40] ++ (t ++ [41]))) x
def termL (t : Tm Nm) : List Nat := applL t.2 [120, 48 + t.1]
def nV (n : List Nat) : V := .str (SX.S n)
def tV (w : List Nm) : List V := w.map nV
/-- a tuple of names at v -/
def Wd (H : Hp) (v : V) (w : List Nm) : Prop := ∃ a, v = .ref a ∧ H a = some (.tup (tV w))

/-! ### steps -/
def Sg.kd {α : Type} : Sg α → Str
  | .each _ => "each" | .keep _ => "keep" | .drop _ => "drop" | .whil _ => "while" | .from_ _ => "from"
  | .first _ => "first" | .skip _ => "skip" | .every _ _ => "every" | .last _ => "last" | .butl _ => "but last" | .turned => "turned"
def sgB (s : Sg Nm) : Bool := match s with
  | .each w => wordB w && decide (w.length ≤ 3)
  | .keep t => wordB t && decide (1 ≤ t.length) && decide (t.length ≤ 4)
  | .drop t => wordB t && decide (1 ≤ t.length) && decide (t.length ≤ 4)
  | .whil t => wordB t && decide (1 ≤ t.length) && decide (t.length ≤ 4)
  | .from_ t => wordB t && decide (1 ≤ t.length) && decide (t.length ≤ 4)
  | .first n => decide (n ≤ 9)
  | .skip n => decide (n ≤ 9)
  | .every k r => decide (1 ≤ k) && decide (k ≤ 9) && decide (r ≤ 9)
  | .last n => decide (1 ≤ n) && decide (n ≤ 9)
  | .butl n => decide (1 ≤ n) && decide (n ≤ 9)
  | .turned => true
def stB (st : Step Nm) : Bool := sgB st.s && (!st.s.isList || st.now)
/-- the detail of a step at v -/
def Det (H : Hp) (v : V) (s : Sg Nm) : Prop := match s with
  | .each w => Wd H v w
  | .keep t => Wd H v t
  | .drop t => Wd H v t
  | .whil t => Wd H v t
  | .from_ t => Wd H v t
  | .first n => v = .int n
  | .skip n => v = .int n
  | .every k r => ∃ a, v = .ref a ∧ H a = some (.tup [.int k, .int r])
  | .last n => v = .int n
  | .butl n => v = .int n
  | .turned => v = .non
/-- a step told as a tuple at v -/
def Part (H : Hp) (v : V) (st : Step Nm) : Prop := ∃ a d, v = .ref a ∧ H a = some (.tup [.str st.s.kd, d, .bl st.now]) ∧ Det H d st.s
/-- a Stage at v -/
def Stg (K : PySem.W.Frag) (H : Hp) (v : V) (st : Step Nm) : Prop := ∃ a dx t d, v = .ref a ∧ H a = some (.ins (He.ga K "Stage") dx [("fields", .ref t)]) ∧ H t = some (.tup [.str st.s.kd, d, .bl st.now]) ∧ Det H d st.s
/-- one by one -/
def All2 {α β : Type} (R : α → β → Prop) : List α → List β → Prop
  | [], [] => True
  | a :: as, b :: bs => R a b ∧ All2 R as bs
  | _, _ => False
def Flw (K : PySem.W.Frag) (H : Hp) (v : V) (l : List (Step Nm)) : Prop := ∃ a dx t vs, v = .ref a ∧ H a = some (.ins (He.ga K "Flow") dx [("kept", .ref t)]) ∧ H t = some (.tup vs) ∧ All2 (Stg K H) vs l
/-- a tuple of words -/
def Ats (H : Hp) (v : V) (l : List (List Nm)) : Prop := ∃ a vs, v = .ref a ∧ Rd H a (.tup vs) ∧ All2 (Wd H) vs l
def bV (r : List Bool) : List V := r.map V.bl
def Row (H : Hp) (v : V) (r : List Bool) : Prop := ∃ a, v = .ref a ∧ H a = some (.tup (bV r))
def Rws (H : Hp) (v : V) (l : List (List Bool)) : Prop := ∃ a vs, v = .ref a ∧ H a = some (.tup vs) ∧ All2 (Row H) vs l
/-- an entry (index, word) -/
def Ent (H : Hp) (v : V) (t : Tm Nm) : Prop := ∃ a u, v = .ref a ∧ H a = some (.tup [.int t.1, u]) ∧ Wd H u t.2

/-! ### how a heap goes on -/
/-- objects that no def of ours changes once they are made: tuples, dicts, instances but gates -/
def fixd : HO → Bool
  | .tup _ => true
  | .frz _ _ => true
  | .dT _ => true
  | .ins _ _ fs => (fs.lookup ("stage" : Str)).isNone && !fs.isEmpty
  | _ => false
def Fx (H H' : Hp) : Prop := ∀ a o, H a = some o → fixd o = true → H' a = some o
/-- all but S stands; nothing goes -/
structure Kp (S : List Addr) (H H' : Hp) : Prop where
  keep : ∀ a o, H a = some o → a ∉ S → H' a = some o
  some_ : ∀ a, H' a = none → H a = none
theorem Fx.refl (H : Hp) : Fx H H := fun _ _ h _ => h
theorem Fx.trans {H H1 H2 : Hp} (a : Fx H H1) (b : Fx H1 H2) : Fx H H2 := fun x o h f => b x o (a x o h f) f
theorem Fx.of {H H' : Hp} (e : Ex H H') : Fx H H' := fun a o h _ => e a o h
theorem Kp.refl (S : List Addr) (H : Hp) : Kp S H H := ⟨fun _ _ h _ => h, fun _ h => h⟩
theorem Kp.of {S : List Addr} {H H' : Hp} (e : Ex H H') : Kp S H H' := ⟨fun a o h _ => e a o h, fun _ h => fresh_back e h⟩
theorem Kp.ex {H H' : Hp} (k : Kp [] H H') : Ex H H' := fun a o h => k.keep a o h (by simp)
theorem Kp.trans {S : List Addr} {H H1 H2 : Hp} (a : Kp S H H1) (b : Kp S H1 H2) : Kp S H H2 := ⟨fun x o h n => b.keep x o (a.keep x o h n) n, fun x h => a.some_ x (b.some_ x h)⟩
theorem Kp.mono {S S' : List Addr} {H H' : Hp} (k : Kp S H H') (h : ∀ a ∈ S, a ∈ S') : Kp S' H H' := ⟨fun a o e n => k.keep a o e fun m => n (h a m), k.some_⟩
theorem Kp.put {S : List Addr} {H H' : Hp} {p : Addr} {o : HO} (k : Kp S H H') (h : p ∈ S) : Kp S H (L2.upd H' p o) := ⟨fun a u e n => by
  rw [upd_ne (fun z => n (by rw [z]; exact h))]
  exact k.keep a u e n, fun a h' => by
  by_cases z : a = p
  · rw [z, upd_same] at h'; cases h'
  · rw [upd_ne z] at h'; exact k.some_ a h'⟩
theorem Kp.new {S : List Addr} {H H' : Hp} {p : Addr} {o : HO} (k : Kp S H H') (h : H' p = none) : Kp S H (upd H' p o) := k.trans (Kp.of (Ex.new h))
/-- what changes is not of the fixed kinds -/
theorem Kp.fx {S : List Addr} {H H' : Hp} (k : Kp S H H') (h : ∀ a ∈ S, ∀ o, H a = some o → fixd o = false) : Fx H H' := fun a o e f => k.keep a o e fun m => by
  rw [h a m o e] at f
  cases f
theorem Kp.none_of {S : List Addr} {H H' : Hp} (k : Kp S H H') {a : Addr} (h : H' a = none) : H a = none := k.some_ a h
section
variable {K : PySem.W.Frag} {H H' : Hp} {v : V}
theorem Wd.fx {w : List Nm} (h : Wd H v w) (e : Fx H H') : Wd H' v w := by
  obtain ⟨a, rfl, ha⟩ := h
  exact ⟨a, rfl, e a _ ha rfl⟩
theorem Det.fx {s : Sg Nm} (h : Det H v s) (e : Fx H H') : Det H' v s := by
  cases s <;> first | exact Wd.fx h e | exact h | skip
  obtain ⟨a, rfl, ha⟩ := h
  exact ⟨a, rfl, e a _ ha rfl⟩
theorem Part.fx {s : Step Nm} (h : Part H v s) (e : Fx H H') : Part H' v s := by
  obtain ⟨a, d, rfl, ha, hd⟩ := h
  exact ⟨a, d, rfl, e a _ ha rfl, hd.fx e⟩
theorem nf {x : Str} (h : ((x == ("stage" : Str)) = false)) (v : V) (C dx : Addr) : fixd (.ins C dx [(x, v)]) = true := by
  show (List.lookup ("stage" : Str) [(x, v)]).isNone && !(List.isEmpty [(x, v)]) = true
  have e : (("stage" : Str) == x) = false := by
    cases q : (("stage" : Str) == x)
    · rfl
    · have := eq_of_beq q
      subst this
      rw [beq_self_eq_true] at h
      cases h
  rw [List.lookup_cons, e]
  rfl
theorem Stg.fx {s : Step Nm} (h : Stg K H v s) (e : Fx H H') : Stg K H' v s := by
  obtain ⟨a, dx, t, d, rfl, ha, ht, hd⟩ := h
  exact ⟨a, dx, t, d, rfl, e a _ ha (nf (by decide +kernel) _ _ _), e t _ ht rfl, hd.fx e⟩
theorem All2.imp {α β : Type} {R R' : α → β → Prop} (f : ∀ a b, R a b → R' a b) : ∀ {as : List α} {bs : List β}, All2 R as bs → All2 R' as bs
  | [], [], _ => trivial
  | _ :: _, _ :: _, h => ⟨f _ _ h.1, All2.imp f h.2⟩
  | [], _ :: _, h => h
  | _ :: _, [], h => h
theorem All2.len {α β : Type} {R : α → β → Prop} : ∀ {as : List α} {bs : List β}, All2 R as bs → as.length = bs.length
  | [], [], _ => rfl
  | _ :: _, _ :: _, h => by rw [List.length_cons, List.length_cons, All2.len h.2]
  | [], _ :: _, h => h.elim
  | _ :: _, [], h => h.elim
theorem All2.at {α β : Type} {R : α → β → Prop} : ∀ {as : List α} {bs : List β}, All2 R as bs → ∀ {i : Nat} {a : α}, as[i]? = some a → ∃ b, bs[i]? = some b ∧ R a b
  | [], [], _, i, a, h => by simp at h
  | x :: as, y :: bs, h, 0, a, e => by
    rw [List.getElem?_cons_zero] at e
    cases e
    exact ⟨y, rfl, h.1⟩
  | x :: as, y :: bs, h, i + 1, a, e => All2.at h.2 (i := i) (by simpa using e)
  | [], _ :: _, h, _, _, _ => h.elim
  | _ :: _, [], h, _, _, _ => h.elim
theorem All2.snoc {α β : Type} {R : α → β → Prop} : ∀ {as : List α} {bs : List β} {a : α} {b : β}, All2 R as bs → R a b → All2 R (as ++ [a]) (bs ++ [b])
  | [], [], _, _, _, r => ⟨r, trivial⟩
  | _ :: _, _ :: _, _, _, h, r => ⟨h.1, All2.snoc h.2 r⟩
  | [], _ :: _, _, _, h, _ => h.elim
  | _ :: _, [], _, _, h, _ => h.elim
theorem All2.app {α β : Type} {R : α → β → Prop} : ∀ {as : List α} {bs : List β} {as' : List α} {bs' : List β}, All2 R as bs → All2 R as' bs' → All2 R (as ++ as') (bs ++ bs')
  | [], [], _, _, _, r => r
  | _ :: _, _ :: _, _, _, h, r => ⟨h.1, All2.app h.2 r⟩
  | [], _ :: _, _, _, h, _ => h.elim
  | _ :: _, [], _, _, h, _ => h.elim
theorem All2.rev {α β : Type} {R : α → β → Prop} : ∀ {as : List α} {bs : List β}, All2 R as bs → All2 R as.reverse bs.reverse
  | [], [], _ => trivial
  | a :: as, b :: bs, h => by
    rw [List.reverse_cons, List.reverse_cons]
    exact All2.snoc (All2.rev h.2) h.1
  | [], _ :: _, h => h.elim
  | _ :: _, [], h => h.elim
theorem All2.take {α β : Type} {R : α → β → Prop} : ∀ {as : List α} {bs : List β} (n : Nat), All2 R as bs → All2 R (as.take n) (bs.take n)
  | _, _, 0, _ => trivial
  | [], [], _ + 1, _ => trivial
  | _ :: _, _ :: _, n + 1, h => ⟨h.1, All2.take n h.2⟩
  | [], _ :: _, _ + 1, h => h.elim
  | _ :: _, [], _ + 1, h => h.elim
theorem All2.drop {α β : Type} {R : α → β → Prop} : ∀ {as : List α} {bs : List β} (n : Nat), All2 R as bs → All2 R (as.drop n) (bs.drop n)
  | _, _, 0, h => h
  | [], [], _ + 1, _ => trivial
  | _ :: _, _ :: _, n + 1, h => All2.drop n h.2
  | [], _ :: _, _ + 1, h => h.elim
  | _ :: _, [], _ + 1, h => h.elim
theorem All2.map {α β γ : Type} {R : α → γ → Prop} (f : γ → α) (h : ∀ b, R (f b) b) : ∀ l : List γ, All2 R (l.map f) l
  | [] => trivial
  | _ :: l => ⟨h _, All2.map (β := β) f h l⟩
theorem Flw.fx {l : List (Step Nm)} (h : Flw K H v l) (e : Fx H H') : Flw K H' v l := by
  obtain ⟨a, dx, t, vs, rfl, ha, ht, hd⟩ := h
  exact ⟨a, dx, t, vs, rfl, e a _ ha (nf (by decide +kernel) _ _ _), e t _ ht rfl, hd.imp fun _ _ z => z.fx e⟩
theorem rd_fx {a : Addr} {xs : List V} (h : Rd H a (.tup xs)) (e : Fx H H') : Rd H' a (.tup xs) := by
  rcases h with h | ⟨o, h⟩
  · exact .inl (e a _ h rfl)
  · exact .inr ⟨o, e a _ h rfl⟩
theorem Ats.fx {l : List (List Nm)} (h : Ats H v l) (e : Fx H H') : Ats H' v l := by
  obtain ⟨a, vs, rfl, ha, hd⟩ := h
  exact ⟨a, vs, rfl, rd_fx ha e, hd.imp fun _ _ z => z.fx e⟩
theorem Row.fx {r : List Bool} (h : Row H v r) (e : Fx H H') : Row H' v r := by
  obtain ⟨a, rfl, ha⟩ := h
  exact ⟨a, rfl, e a _ ha rfl⟩
theorem Rws.fx {l : List (List Bool)} (h : Rws H v l) (e : Fx H H') : Rws H' v l := by
  obtain ⟨a, vs, rfl, ha, hd⟩ := h
  exact ⟨a, vs, rfl, e a _ ha rfl, hd.imp fun _ _ z => z.fx e⟩
theorem Ent.fx {t : Tm Nm} (h : Ent H v t) (e : Fx H H') : Ent H' v t := by
  obtain ⟨a, u, rfl, ha, hd⟩ := h
  exact ⟨a, u, rfl, e a _ ha rfl, hd.fx e⟩
end
end CF

/-! text CfEv -/
set_option Elab.async false
set_option linter.all false
set_option maxRecDepth 100000
set_option maxHeartbeats 2000000
/-! what readings evaluate to: more -/
namespace CF
open PySem PySem.Spec PyProof.Rows L2 Evl
section
variable {K : PySem.W.Frag} {σ : L2.St} {H H' : Hp} {ta tb tc te tl : TE} {t u : TT} {x y z v : V} {r : R2}
theorem neS {a b : Str} (h : (a == b) = false) : ¬ V.str a = V.str b := fun e => by
  cases e
  rw [beq_self_eq_true] at h
  cases h
/-- tests whose answer is known -/
theorem ifT {p : Prop} [Decidable p] {A B : Prop} (h : p) (k : A) : if decide p = true then A else B := by
  rw [if_pos (decide_eq_true h)]
  exact k
theorem ifF {p : Prop} [Decidable p] {A B : Prop} (h : ¬ p) (k : B) : if decide p = true then A else B := by
  rw [if_neg (by rw [decide_eq_false h]; exact Bool.false_ne_true)]
  exact k
theorem ibT {b : Bool} {A B : Prop} (h : b = true) (k : A) : if b = true then A else B := by
  rw [if_pos h]
  exact k
theorem ibF {b : Bool} {A B : Prop} (h : b = false) (k : B) : if b = true then A else B := by
  rw [if_neg (by rw [h]; exact Bool.false_ne_true)]
  exact k
theorem lenS (n : List Nat) : (SX.S n).length = n.length := SX.S_len n
/-! ### isinstance -/
theorem ev_isi {n : String} {b : Bool} (ha : Ev ta σ H x) (hx : ∀ H1, Ex H H1 → ∃ t, TyX K H1 x t ∧ PySem.W.kitOne K t (.type n) = some b) : Ev (tCB (rIsi K) (tCons ta (tCons (tC (.ty n)) tNil))) σ H (.bl b) := fun H1 e Q q =>
  ha H1 e _ fun H2 e2 => by
    obtain ⟨t, h1, h2⟩ := hx H2 (e.trans e2)
    exact ⟨_, _, t, .type n, b, rfl, .ty n, h1, h2, q H2 e2⟩
theorem ty_str (s : Str) (H : Hp) {n : String} {b : Bool} (h : kitB "str" n = some b) : ∃ t, TyX K H (.str s) t ∧ PySem.W.kitOne K t (.type n) = some b := ⟨_, .base (.str s), kit_ty h⟩
theorem ty_int (i : Int) (H : Hp) {n : String} {b : Bool} (h : kitB "int" n = some b) : ∃ t, TyX K H (.int i) t ∧ PySem.W.kitOne K t (.type n) = some b := ⟨_, .base (.int i), kit_ty h⟩
theorem ty_bl (i : Bool) (H : Hp) {n : String} {b : Bool} (h : kitB "bool" n = some b) : ∃ t, TyX K H (.bl i) t ∧ PySem.W.kitOne K t (.type n) = some b := ⟨_, .base (.bl i), kit_ty h⟩
theorem ty_tu {a : Addr} {xs : List V} {H : Hp} (ha : H a = some (.tup xs)) {n : String} {b : Bool} (h : kitB "tuple" n = some b) : ∃ t, TyX K H (.ref a) t ∧ PySem.W.kitOne K t (.type n) = some b := ⟨_, .base (.tup ha), kit_ty h⟩
theorem ty_rd {a : Addr} {xs : List V} {H : Hp} (ha : Rd H a (.tup xs)) {n : String} {b : Bool} (h : kitB "tuple" n = some b) : ∃ t, TyX K H (.ref a) t ∧ PySem.W.kitOne K t (.type n) = some b := by
  rcases ha with ha | ⟨o, ha⟩
  · exact ⟨_, .base (.tup ha), kit_ty h⟩
  · exact ⟨_, .fTuple ha, kit_ty h⟩
/-! ### two comparisons -/
theorem ev_chain {p q : Int → Int → Bool} {i j k : Int} (ha : Ev ta σ H (.int i)) (hb : Ev tb σ H (.int j)) (hc : p i j = true → Ev tc σ H (.int k)) :
    Ev (tChain (rI0 fun i j => .bl (p i j)) (rI0 fun i j => .bl (q i j)) ta tb tc) σ H (.bl (p i j && q j k)) := fun H1 e Q w =>
  ha H1 e _ fun H2 e2 => hb H2 (e.trans e2) _ fun H3 e3 => ⟨i, j, rfl, rfl, _, rfl, by
    cases hp : p i j with
    | true =>
      rw [if_pos rfl]
      exact hc hp H3 ((e.trans e2).trans e3) _ fun H4 e4 => ⟨j, k, rfl, rfl, by
        have := w H4 ((e2.trans e3).trans e4)
        rw [hp] at this
        exact this⟩
    | false =>
      rw [if_neg Bool.false_ne_true]
      have := w H3 (e2.trans e3)
      rw [hp] at this
      exact this⟩
/-! ### lengths -/
theorem ev_lenS {n : List Nat} (ha : Ev ta σ H (.str (SX.S n))) (hl : n.length ≤ 100000) : Ev (tCB (rLen K) (tCons ta tNil)) σ H (.int (n.length : Int)) := fun H1 e Q q =>
  ha H1 e _ fun H2 e2 => ⟨_, n.length, rfl, ⟨by rw [lenS]; exact sz_of hl, (lenS n).symm⟩, q H2 e2⟩
theorem ev_lenT {a : Addr} {xs : List V} (ha : Ev ta σ H (.ref a)) (h : SqT K H a xs) : Ev (tCB (rLen K) (tCons ta tNil)) σ H (.int (xs.length : Int)) := fun H1 e Q q =>
  ha H1 e _ fun H2 e2 => ⟨_, xs.length, rfl, .inr ⟨xs, ex_t (e.trans e2) h, rfl⟩, q H2 e2⟩
theorem ev_lenL {a : Addr} {xs : List V} (ha : Ev ta σ H (.ref a)) (h : SqL K H a xs) : Ev (tCB (rLen K) (tCons ta tNil)) σ H (.int (xs.length : Int)) := fun H1 e Q q =>
  ha H1 e _ fun H2 e2 => ⟨_, xs.length, rfl, .inl ⟨xs, ex_l (e.trans e2) h, rfl⟩, q H2 e2⟩
/-! ### f'..' -/
inductive EvJ (σ : L2.St) (H : Hp) : List TE → List Nat → Prop
  | nil : EvJ σ H [] []
  | cons {t : TE} {ts : List TE} {a b : List Nat} (h : Ev t σ H (.str (SX.S a))) (r : EvJ σ H ts b) : EvJ σ H (t :: ts) (a ++ b)
theorem evj_go : ∀ {ts : List TE} {out acc : List Nat}, EvJ σ H ts out → ∀ H1, Ex H H1 → acc.length + out.length ≤ 100000 → ∀ Q : Str → Hp → Prop, (∀ H2, Ex H1 H2 → Q (SX.S (acc ++ out)) H2) → tJs ts (SX.S acc) σ H1 Q
  | _, _, acc, .nil, H1, e, hl, Q, q => by
    have := q H1 (Ex.refl H1)
    rw [List.append_nil] at this
    exact this
  | _, _, acc, .cons (a := a) (b := b) h r, H1, e, hl, Q, q => h H1 e _ fun H2 e2 => ⟨_, rfl, by
      rw [SX.S_cat, lenS]
      simp only [List.length_append] at hl ⊢
      exact sz_of (by omega), by
      rw [SX.S_cat]
      refine evj_go r H2 (e.trans e2) (by simp only [List.length_append] at hl ⊢; omega) Q fun H3 e3 => ?_
      rw [List.append_assoc]
      exact q H3 (e2.trans e3)⟩
theorem ev_joined {ts : List TE} {out : List Nat} (h : EvJ σ H ts out) (hl : out.length ≤ 100000) : Ev (tJoined ts) σ H (.str (SX.S out)) := fun H1 e Q q => by
  have z : Str.empty = SX.S [] := rfl
  show tJs ts Str.empty σ H1 fun out H1 => Q (.str out) H1
  rw [z]
  refine evj_go h H1 e (by simpa using hl) _ fun H2 e2 => ?_
  exact q H2 e2
theorem ev_cd {s : String} : Ev (tC (.str (Str.ofString s))) σ H (.str (SX.S (cd s))) := by
  rw [cd_S]
  exact ev_c
theorem ev_fmtS {n : List Nat} (h : Ev te σ H (.str (SX.S n))) (hl : n.length ≤ 100000) : Ev (tFmt te) σ H (.str (SX.S n)) := fun H1 e Q q =>
  h H1 e _ fun H2 e2 => .inl ⟨_, rfl, by rw [lenS]; exact sz_of hl, q H2 e2⟩
theorem dig1 : ∀ n : Nat, n ≤ 9 → TL.numL n = [48 + n] := by
  intro n h
  have : n = 0 ∨ n = 1 ∨ n = 2 ∨ n = 3 ∨ n = 4 ∨ n = 5 ∨ n = 6 ∨ n = 7 ∨ n = 8 ∨ n = 9 := by omega
  rcases this with rfl | rfl | rfl | rfl | rfl | rfl | rfl | rfl | rfl | rfl <;> decide +kernel
theorem toS {n : Nat} (h : n ≤ 9) : Str.ofString (toString ((n : Nat) : Int)) = SX.S [48 + n] := by rw [SX.num_S, dig1 n h]
theorem log9 {n : Nat} (h : n ≤ 9) : ((n : Int)).natAbs.log2 < 1920 := by
  have e : ((n : Int)).natAbs = n := Int.natAbs_natCast n
  rw [e]
  have : n.log2 ≤ n := Nat.log2_le_self n
  omega
theorem ev_fmtI {n : Nat} (h : Ev te σ H (.int (n : Int))) (hn : n ≤ 9) : Ev (tFmt te) σ H (.str (SX.S [48 + n])) := fun H1 e Q q =>
  h H1 e _ fun H2 e2 => .inr ⟨(n : Int), rfl, log9 hn, by
    have := q H2 e2
    rw [← toS hn] at this
    exact this⟩
/-! ### comprehensions, one value a turn -/
theorem getE {α : Type} {xs : List α} {i : Nat} (h : i < xs.length) : ∃ x, xs[i]? = some x := ⟨_, List.getElem?_eq_getElem h⟩
theorem take_snoc {α : Type} {xs : List α} {i : Nat} {x : α} (h : xs[i]? = some x) : xs.take (i + 1) = xs.take i ++ [x] := by
  rw [List.take_add_one, h]
  rfl
theorem el_mapT {a : Addr} {xs ys : List V} {j : Nat} {vs : List Nat} (h : Ev tl σ H (.ref a)) (hx : SqT K H a xs) (hz : xs.length ≤ 40000) (hn : ys.length = xs.length) (hw : ∀ x, wipe ((wipe σ vs).set j (some x)) vs = wipe σ vs)
    (he : ∀ (i : Nat) (x y : V) H1, Ex H H1 → xs[i]? = some x → ys[i]? = some y → Ev te ((wipe σ vs).set j (some x)) H1 y) : EvL (tLc (iTup K tl) (gName j) tYes te vs) σ H ys := fun H0 e Q q => h H0 e _ fun H1 e1 => ⟨a, rfl, ⟨xs, ex_t (e.trans e1) hx⟩, fun Dl hD =>
  lc_tup (xs := xs) (fun i H' => Ex H1 H' ∧ H' Dl = some (.lst (ys.take i))) ⟨Ex.new hD, by rw [List.take_zero]; exact upd_same⟩ (fun i H' _ p => ex_t ((e.trans e1).trans p.1) hx) (fun i x H' hi p => ⟨hw x, iteT (B := Ex H1 H' ∧ H' Dl = some (.lst (ys.take (i + 1)))) (by
      have hi' := (List.getElem?_eq_some_iff.mp hi).1
      obtain ⟨y, hy⟩ := getE (xs := ys) (i := i) (by omega)
      refine he i x y H' ((e.trans e1).trans p.1) hi hy H' (Ex.refl H') _ fun H2 e2 => ⟨ys.take i, e2 _ _ p.2, sz_lt (by rw [List.length_take]; omega), Ex.mut (p.1.trans e2) hD, ?_⟩
      rw [take_snoc hy]
      exact upd_same)⟩)
    (fun H' p => q Dl H' (fresh_back e1 hD) (e1.trans p.1) (by
      have z := p.2
      rw [List.take_of_length_le (by omega)] at z
      exact z))⟩
theorem el_mapL {a : Addr} {xs ys : List V} {j : Nat} {vs : List Nat} (h : Ev tl σ H (.ref a)) (hx : SqL K H a xs) (hz : xs.length ≤ 40000) (hn : ys.length = xs.length) (hw : ∀ x, wipe ((wipe σ vs).set j (some x)) vs = wipe σ vs)
    (he : ∀ (i : Nat) (x y : V) H1, Ex H H1 → xs[i]? = some x → ys[i]? = some y → Ev te ((wipe σ vs).set j (some x)) H1 y) : EvL (tLc (iList K tl) (gName j) tYes te vs) σ H ys := fun H0 e Q q => h H0 e _ fun H1 e1 => ⟨a, rfl, ⟨xs, ex_l (e.trans e1) hx⟩, fun Dl hD =>
  lc_list (xs := xs) (fun i H' => Ex H1 H' ∧ H' Dl = some (.lst (ys.take i))) ⟨Ex.new hD, by rw [List.take_zero]; exact upd_same⟩ (fun i H' _ p => ex_l ((e.trans e1).trans p.1) hx) (fun i x H' hi p => ⟨hw x, iteT (B := Ex H1 H' ∧ H' Dl = some (.lst (ys.take (i + 1)))) (by
      have hi' := (List.getElem?_eq_some_iff.mp hi).1
      obtain ⟨y, hy⟩ := getE (xs := ys) (i := i) (by omega)
      refine he i x y H' ((e.trans e1).trans p.1) hi hy H' (Ex.refl H') _ fun H2 e2 => ⟨ys.take i, e2 _ _ p.2, sz_lt (by rw [List.length_take]; omega), Ex.mut (p.1.trans e2) hD, ?_⟩
      rw [take_snoc hy]
      exact upd_same)⟩)
    (fun H' p => q Dl H' (fresh_back e1 hD) (e1.trans p.1) (by
      have z := p.2
      rw [List.take_of_length_le (by omega)] at z
      exact z))⟩
/-- over a text's signs -/
theorem lc_str {w : Str} {g : TG} {tt : TT} {te : TE} {vs : List Nat} {σ : L2.St} {H1 : Hp} {D : Addr} {Qd : Hp → Prop} (Pv : Nat → Hp → Prop) (h0 : Pv 0 (upd H1 D (.lst [])))
    (hs : ∀ i c H, w.cps[i]? = some c → Pv i H → g (.str ⟨#[c]⟩) (wipe σ vs) H fun σ2 H2 => wipe σ2 vs = wipe σ vs ∧ tt σ2 H2 fun b H3 =>
      if b = true then te σ2 H3 fun y H4 => ∃ acc, H4 D = some (.lst acc) ∧ acc.length < sizeLine ∧ Pv (i + 1) (upd H4 D (.lst (acc ++ [y]))) else Pv (i + 1) H3) (hd : ∀ H, Pv w.cps.size H → Qd H) :
    ∃ W : Nat → Nat → Hp → Prop, (∃ m, W 0 m (upd H1 D (.lst []))) ∧ ∀ i m H, W i m H →
      ((Its w).stop i H ∧ Qd H) ∨ ((Its w).go i H ∧ ∃ Nx : Hp → Prop, (∀ H', Nx H' → ∃ m', m' < m ∧ W (i + 1) m' H') ∧ ∀ x H', (Its w).yld i H x H' → g x (wipe σ vs) H' fun σ2 H2 => wipe σ2 vs = wipe σ vs ∧ tt σ2 H2 fun b H3 =>
        if b = true then te σ2 H3 fun y H4 => ∃ acc, H4 D = some (.lst acc) ∧ acc.length < sizeLine ∧ Nx (upd H4 D (.lst (acc ++ [y]))) else Nx H3) := by
  refine ⟨fun i m H => i ≤ w.cps.size ∧ m = w.cps.size - i ∧ Pv i H, ⟨_, Nat.zero_le _, rfl, h0⟩, fun i m H ⟨hi, hm, hp⟩ => ?_⟩
  by_cases h : i < w.cps.size
  · refine .inr ⟨h, fun H' => Pv (i + 1) H', fun H' p => ⟨_, by omega, h, rfl, p⟩, ?_⟩
    rintro x H' ⟨rfl, c, hc, rfl⟩
    exact hs i c _ hc hp
  · have : i = w.cps.size := by omega
    subst this
    exact .inl ⟨Nat.le_refl _, hd H hp⟩
theorem el_mapS {w : List Nat} {ys : List V} {j : Nat} {vs : List Nat} (h : Ev tl σ H (.str (SX.S w))) (hz : w.length ≤ 40000) (hn : ys.length = w.length) (hw : ∀ x, wipe ((wipe σ vs).set j (some x)) vs = wipe σ vs)
    (he : ∀ (i : Nat) (c : Nat) (y : V) H1, Ex H H1 → w[i]? = some c → ys[i]? = some y → Ev te ((wipe σ vs).set j (some (.str ⟨#[c]⟩))) H1 y) : EvL (tLc (iStr tl) (gName j) tYes te vs) σ H ys := fun H0 e Q q => h H0 e _ fun H1 e1 => ⟨_, rfl, fun Dl hD =>
  lc_str (w := SX.S w) (fun i H' => Ex H1 H' ∧ H' Dl = some (.lst (ys.take i))) ⟨Ex.new hD, by rw [List.take_zero]; exact upd_same⟩ (fun i c H' hi p => ⟨hw _, iteT (B := Ex H1 H' ∧ H' Dl = some (.lst (ys.take (i + 1)))) (by
      have hi2 : w[i]? = some c := by simpa using hi
      have hi' := (List.getElem?_eq_some_iff.mp hi2).1
      obtain ⟨y, hy⟩ := getE (xs := ys) (i := i) (by omega)
      refine he i c y H' ((e.trans e1).trans p.1) hi2 hy H' (Ex.refl H') _ fun H2 e2 => ⟨ys.take i, e2 _ _ p.2, sz_lt (by rw [List.length_take]; omega), Ex.mut (p.1.trans e2) hD, ?_⟩
      rw [take_snoc hy]
      exact upd_same)⟩)
    (fun H' p => q Dl H' (fresh_back e1 hD) (e1.trans p.1) (by
      have z := p.2
      have e : (SX.S w).cps.size = w.length := by simp
      rw [e, List.take_of_length_le (by omega)] at z
      exact z))⟩
theorem ev_all {bs : List Bool} (h : EvL ta σ H (bs.map V.bl)) : Ev (tCB (rAll K) (tCons ta tNil)) σ H (.bl (bs.all id)) := fun H1 e Q q =>
  h H1 e _ fun p H2 _ e2 hp => ⟨p, bs, rfl, sq_of hp, q H2 e2⟩
theorem ev_any {bs : List Bool} (h : EvL ta σ H (bs.map V.bl)) : Ev (tCB (rAny K) (tCons ta tNil)) σ H (.bl (bs.any id)) := fun H1 e Q q =>
  h H1 e _ fun p H2 _ e2 hp => ⟨p, bs, rfl, sq_of hp, q H2 e2⟩
theorem et_yes : EvT tYes σ H true := fun H1 _ _ q => q H1 (Ex.refl H1)
end
end CF

/-! text CfSpA -/
set_option Elab.async false
set_option linter.all false
set_option maxRecDepth 100000
set_option maxHeartbeats 2000000
/-! what the defs promise: names, stages, their texts -/
namespace CF
open PySem PySem.Spec PyProof.Rows L2 Evl
section
variable (K : PySem.W.Frag)
def sp_is_integer : Sp := fun vs H Q _ => ∃ i : Int, vs = [.int i] ∧ ∀ H', Ex H H' → Q (.bl true) H'
def sp_is_name : Sp := fun vs H Q _ => ∃ n, vs = [nV n] ∧ nameB n = true ∧ ∀ H', Ex H H' → Q (.bl true) H'
def sp_are_names : Sp := fun vs H Q _ => ∃ v w, ∃ lo hi : Int, vs = [v, .int lo, .int hi] ∧ Wd H v w ∧ wordB w = true ∧ w.length ≤ 100 ∧ lo ≤ w.length ∧ w.length ≤ hi ∧ ∀ H', Ex H H' → Q (.bl true) H'
def sp_is_word : Sp := fun vs H Q _ => ∃ v w, vs = [v] ∧ Wd H v w ∧ wordB w = true ∧ w.length ≤ 3 ∧ ∀ H', Ex H H' → Q (.bl true) H'
def sp_is_test : Sp := fun vs H Q _ => ∃ v w, vs = [v] ∧ Wd H v w ∧ wordB w = true ∧ 1 ≤ w.length ∧ w.length ≤ 4 ∧ ∀ H', Ex H H' → Q (.bl true) H'
def sp_applied : Sp := fun vs H Q _ => ∃ v w x, vs = [v, nV x] ∧ Wd H v w ∧ wordB w = true ∧ w.length ≤ 100 ∧ x.length ≤ 100 ∧ ∀ H', Ex H H' → Q (nV (applL w x)) H'
def sp_is_count : Sp := fun vs H Q _ => ∃ i lo : Int, vs = [.int i, .int lo] ∧ lo ≤ i ∧ i ≤ 9 ∧ ∀ H', Ex H H' → Q (.bl true) H'
def sp_is_detail : Sp := fun vs H Q _ => ∃ v s, vs = [.str (Sg.kd s), v] ∧ Det H v s ∧ sgB s = true ∧ ∀ H', Ex H H' → Q (.bl true) H'
/-- the text of a comprehension, of a call, of a line -/
def compL (s : Sg Nm) : List Nat := match s with
  | .each w => applL w [120] ++ cd " for x in rows"
  | .keep t => cd "x for x in rows if " ++ applL t [120]
  | .drop t => cd "x for x in rows if not " ++ applL t [120]
  | _ => []
def callL (s : Sg Nm) : List Nat := match s with
  | .whil t => cd "takewhile(lambda x: " ++ (applL t [120] ++ cd ", rows)")
  | .from_ t => cd "dropwhile(lambda x: " ++ (applL t [120] ++ cd ", rows)")
  | .every k r => cd "islice(rows, " ++ ([48 + r] ++ (cd ", None, " ++ ([48 + k] ++ cd ")")))
  | .first n => cd "islice(rows, " ++ ([48 + n] ++ cd ")")
  | .skip n => cd "islice(rows, " ++ ([48 + n] ++ cd ", None)")
  | _ => []
def lineL (s : Sg Nm) (now : Bool) : List Nat := match s with
  | .turned => cd "rows = list(rows)[::-1]"
  | .last n => cd "rows = list(rows)[-" ++ ([48 + n] ++ cd ":]")
  | .butl n => cd "rows = list(rows)[:-" ++ ([48 + n] ++ cd "]")
  | .each w => if now then cd "rows = [" ++ (compL (.each w) ++ cd "]") else cd "rows = (" ++ (compL (.each w) ++ cd ")")
  | .keep w => if now then cd "rows = [" ++ (compL (.keep w) ++ cd "]") else cd "rows = (" ++ (compL (.keep w) ++ cd ")")
  | .drop w => if now then cd "rows = [" ++ (compL (.drop w) ++ cd "]") else cd "rows = (" ++ (compL (.drop w) ++ cd ")")
  | s => if now then cd "rows = list(" ++ (callL s ++ cd ")") else cd "rows = " ++ callL s
def isComp {α : Type} : Sg α → Bool
  | .each _ => true
  | .keep _ => true
  | .drop _ => true
  | _ => false
def sp_comprehension : Sp := fun vs H Q _ => ∃ v s, vs = [.str (Sg.kd s), v] ∧ Det H v s ∧ sgB s = true ∧ isComp s = true ∧ ∀ H', Ex H H' → Q (nV (compL s)) H'
def sp_call : Sp := fun vs H Q _ => ∃ v s, vs = [.str (Sg.kd s), v] ∧ Det H v s ∧ sgB s = true ∧ isComp s = false ∧ s.isList = false ∧ ∀ H', Ex H H' → Q (nV (callL s)) H'
def sp_line_of : Sp := fun vs H Q _ => ∃ v s now, vs = [.str (Sg.kd s), v, .bl now] ∧ Det H v s ∧ sgB s = true ∧ ∀ H', Ex H H' → Q (nV (lineL s now)) H'
/-- Stage(kind, detail, now=..): self, then the three -/
def sp_Stage : Sp := fun vs H Q _ => ∃ a dx v s now, vs = [.ref a, .str (Sg.kd s), v, .bl now] ∧ H a = some (.ins (He.ga K "Stage") dx []) ∧ Det H v s ∧ sgB s = true ∧
  ∀ H', Kp [a] H H' → Stg K H' (.ref a) ⟨s, now || s.isList⟩ → Q .non H'
def sp_Stage_kind : Sp := fun vs H Q _ => ∃ v st, vs = [v] ∧ Stg K H v st ∧ ∀ H', Ex H H' → Q (.str st.s.kd) H'
def sp_Stage_detail : Sp := fun vs H Q _ => ∃ v st, vs = [v] ∧ Stg K H v st ∧ ∀ H' d, Ex H H' → Det H d st.s → Q d H'
def sp_Stage_now : Sp := fun vs H Q _ => ∃ v st, vs = [v] ∧ Stg K H v st ∧ ∀ H', Ex H H' → Q (.bl st.now) H'
def sp_str_Stage : Sp := fun vs H Q _ => ∃ v st, vs = [v] ∧ Stg K H v st ∧ stB st = true ∧ ∀ H', Ex H H' → Q (nV (lineL st.s st.now)) H'
def sp_term_of : Sp := fun vs H Q _ => ∃ v t, vs = [.int (Prod.fst t : Nat), v] ∧ Wd H v t.2 ∧ wordB t.2 = true ∧ t.2.length ≤ 100 ∧ t.1 ≤ 9 ∧ ∀ H', Ex H H' → Q (nV (termL t)) H'
end
end CF

/-! text CfSpB -/
set_option Elab.async false
set_option linter.all false
set_option maxRecDepth 100000
set_option maxHeartbeats 2000000
/-! what the defs promise: flows, plays, worlds -/
namespace CF
open PySem PySem.Spec PyProof.Rows L2 Evl
/-! ### plain -/
def eachW (s : Sg Nm) (w : List Nm) : List Nm := match s with
  | .each v => v ++ w
  | _ => w
def tst (s : Sg Nm) : Option (List Nm) := match s with
  | .keep t => some t
  | .drop t => some t
  | .whil t => some t
  | .from_ t => some t
  | _ => none
def atomsGo : List (Step Nm) → List (List Nm) → List Nm → List (List Nm)
  | [], found, _ => found
  | st :: r, found, w => match tst st.s with
    | some t => if t ++ eachW st.s w ∈ found then atomsGo r found (eachW st.s w) else atomsGo r (found ++ [t ++ eachW st.s w]) (eachW st.s w)
    | none => atomsGo r found (eachW st.s w)
def atomsOf (l : List (Step Nm)) : List (List Nm) := atomsGo l [] []
/-- every test that the steps ask of a value with the word w is known -/
def Fit (ats : List (List Nm)) : List (Sg Nm) → List Nm → Prop
  | [], _ => True
  | s :: r, w => (∀ t, tst s = some t → t ++ w ∈ ats) ∧ Fit ats r (eachW s w)
def truthOf (ats : List (List Nm)) (rows : List (List Bool)) (i : Nat) (w : List Nm) : Bool := (rows.getD i []).getD (ats.idxOf w) false
def cnt (s : Sg Nm) (i : Nat) : Bool := match s with
  | .first n => decide (i + 1 ≤ n)
  | .skip n => decide (n < i + 1)
  | .every k r => decide (r < i + 1 ∧ (i - r) % k = 0)
  | _ => false
def isCnt (s : Sg Nm) : Bool := match s with
  | .first _ => true
  | .skip _ => true
  | .every _ _ => true
  | _ => false
def isFrom (s : Sg Nm) : Bool := match s with
  | .from_ _ => true
  | _ => false
/-- calls as texts -/
def cV (cs : List (Tm Nm)) : List V := cs.map fun t => nV (termL t)
/-- a list's items are stages -/
def StL (K : PySem.W.Frag) (H : Hp) (a : Addr) (l : List (Step Nm)) : Prop := ∃ vs, H a = some (.lst vs) ∧ All2 (Stg K H) vs l
def EnL (H : Hp) (a : Addr) (xs : List (Tm Nm)) : Prop := ∃ vs, H a = some (.lst vs) ∧ All2 (Ent H) vs xs
/-- parts: a list of lists, all new since H0 -/
def PtL (K : PySem.W.Frag) (H0 H : Hp) (p : Addr) (ps : List (List (Step Nm))) : Prop := H0 p = none ∧ ∃ vs, H p = some (.lst vs) ∧ All2 (fun v l => ∃ a, v = V.ref a ∧ H0 a = none ∧ StL K H a l) vs ps
def Gat (K : PySem.W.Frag) (H : Hp) (g : Addr) (s : Step Nm) (q : GS) : Prop := ∃ dx sv, H g = some (.ins (He.ga K "Gate") dx [("stage", sv), ("seen", .int (q.1 : Nat)), ("is_open", .bl q.2)]) ∧ Stg K H sv s
def keyW (w : List Nm) : List Key := w.map fun n => Sum.inr (SX.S n)
def placesOf (ats : List (List Nm)) : List (List Key × V) := ats.zipIdx.map fun p => (keyW p.1, V.int (p.2 : Nat))
def Tel (K : PySem.W.Frag) (H : Hp) (t m : Addr) (ats : List (List Nm)) (rows : List (List Bool)) : Prop := ∃ dx rv d, H t = some (.ins (He.ga K "Teller") dx [("rows_told", rv), ("places", .ref d), ("made", .ref m)]) ∧ Rws H rv rows ∧ H d = some (.dT (placesOf ats))
def Wor (K : PySem.W.Frag) (H : Hp) (v : V) (ats : List (List Nm)) (rows : List (List Bool)) : Prop := ∃ a dx t av rv, v = .ref a ∧ H a = some (.ins (He.ga K "World") dx [("told", .ref t)]) ∧ H t = some (.tup [av, rv]) ∧ Ats H av ats ∧ Rws H rv rows
def Ply (K : PySem.W.Frag) (H : Hp) (v : V) (es cs : List (Tm Nm)) : Prop := ∃ a dx t e c, v = .ref a ∧ H a = some (.ins (He.ga K "Play") dx [("shown", .ref t)]) ∧ H t = some (.tup [.ref e, .ref c]) ∧ H e = some (.tup (cV es)) ∧ H c = some (.tup (cV cs))
/-- a world's rows fit its atoms -/
structure WB (ats : List (List Nm)) (rows : List (List Bool)) : Prop where
  nd : ats.Nodup
  len : ats.length ≤ 6
  word : ∀ w ∈ ats, wordB w = true ∧ 1 ≤ w.length ∧ w.length ≤ 30
  row : ∀ r ∈ rows, r.length = ats.length
  many : rows.length ≤ 9
/-- a value on its way -/
structure VB (rows : List (List Bool)) (x : Tm Nm) (n : Nat) : Prop where
  word : wordB x.2 = true
  len : x.2.length ≤ n
  at_ : x.1 < rows.length
section
variable (K : PySem.W.Frag)
/-- the body of Flow.__init__, as a def of *stages -/
def sp_FlowB : Sp := fun vs H Q _ => ∃ a dx t svs l, vs = [.ref a, .ref t] ∧ H a = some (.ins (He.ga K "Flow") dx []) ∧ H t = some (.tup svs) ∧ All2 (Stg K H) svs l ∧ l.length ≤ 8 ∧ ∀ H', Kp [a] H H' → Flw K H' (.ref a) l → Q .non H'
def sp_Flow : Sp := fun vs H Q _ => ∃ a dx svs l, vs = .ref a :: svs ∧ H a = some (.ins (He.ga K "Flow") dx []) ∧ All2 (Stg K H) svs l ∧ l.length ≤ 8 ∧ ∀ H', Kp [a] H H' → Flw K H' (.ref a) l → Q .non H'
def sp_Flow_of : Sp := fun vs H Q _ => ∃ t svs l, vs = [.ref (He.ga K "Flow"), .ref t] ∧ H t = some (.tup svs) ∧ All2 (Stg K H) svs l ∧ l.length ≤ 8 ∧ ∀ a H', Ex H H' → Flw K H' (.ref a) l → Q (.ref a) H'
def sp_Flow_stages : Sp := fun vs H Q _ => ∃ v l, vs = [v] ∧ Flw K H v l ∧ ∀ t svs H', Ex H H' → H t = some (.tup svs) → All2 (Stg K H) svs l → Q (.ref t) H'
def sp_Flow_atoms : Sp := fun vs H Q _ => ∃ v l, vs = [v] ∧ Flw K H v l ∧ (∀ st ∈ l, stB st = true) ∧ l.length ≤ 8 ∧ ∀ v' H', Ex H H' → Ats H' v' (atomsOf l) → Q v' H'
def flowL (l : List (Step Nm)) : List Nat := TL.joinL [10] (l.map (fun st => lineL st.s st.now) ++ [cd "return list(rows)"])
def sp_str_Flow : Sp := fun vs H Q _ => ∃ v l, vs = [v] ∧ Flw K H v l ∧ (∀ st ∈ l, stB st = true) ∧ l.length ≤ 8 ∧ ∀ H', Ex H H' → Q (nV (flowL l)) H'
def sp_check_flow : Sp := fun vs H Q _ => ∃ v l, vs = [v] ∧ Flw K H v l ∧ ∀ H', Ex H H' → Q .non H'
def sp_parts_of : Sp := fun vs H Q _ => ∃ v l, vs = [v] ∧ Flw K H v l ∧ l.length ≤ 8 ∧ ∀ p H', Ex H H' → PtL K H H' p (partsOf l) → Q (.ref p) H'
def sp_left_of : Sp := fun vs H Q _ => ∃ v a st xs, vs = [v, .ref a] ∧ Stg K H v st ∧ st.s.isList = true ∧ EnL H a xs ∧ xs.length ≤ 100 ∧ ∀ p H', Ex H H' → H p = none → EnL H' p (leftOf st.s xs) → Q (.ref p) H'
def sp_is_counted_in : Sp := fun vs H Q _ => ∃ d s, ∃ i : Nat, vs = [.str (Sg.kd s), d, .int (i + 1 : Nat)] ∧ Det H d s ∧ sgB s = true ∧ isCnt s = true ∧ ∀ H', Ex H H' → Q (.bl (cnt s i)) H'
def sp_Gate : Sp := fun vs H Q _ => ∃ g dx sv st, vs = [.ref g, sv] ∧ H g = some (.ins (He.ga K "Gate") dx []) ∧ Stg K H sv st ∧ ∀ H', Kp [g] H H' → Gat K H' g st (0, false) → Q .non H'
def sp_Teller : Sp := fun vs H Q _ => ∃ t dx av rv ats rows, vs = [.ref t, av, rv] ∧ H t = some (.ins (He.ga K "Teller") dx []) ∧ Ats H av ats ∧ Rws H rv rows ∧ WB ats rows ∧ ∀ m H', Kp [t] H H' → H m = none → Tel K H' t m ats rows → H' m = some (.lst []) → Q .non H'
def sp_Teller_behind : Sp := fun vs H Q _ => ∃ t m ats rows nv ev ns x cs, vs = [.ref t, nv, ev] ∧ Tel K H t m ats rows ∧ Wd H nv ns ∧ wordB ns = true ∧ ns.length ≤ 4 ∧ Ent H ev x ∧ VB rows x 60 ∧ rows.length ≤ 9 ∧ H m = some (.lst (cV cs)) ∧ cs.length ≤ 90000 ∧
  ∀ v H', Kp [m] H H' → H' m = some (.lst (cV (cs ++ behC x.1 ns x.2))) → Ent H' v (x.1, ns ++ x.2) → Q v H'
def sp_Teller_is_true : Sp := fun vs H Q _ => ∃ t m ats rows nv ev ns x cs, vs = [.ref t, nv, ev] ∧ Tel K H t m ats rows ∧ WB ats rows ∧ Wd H nv ns ∧ wordB ns = true ∧ ns.length ≤ 4 ∧ Ent H ev x ∧ VB rows x 60 ∧ ns ++ x.2 ∈ ats ∧ H m = some (.lst (cV cs)) ∧ cs.length ≤ 90000 ∧
  ∀ H', Kp [m] H H' → H' m = some (.lst (cV (cs ++ behC x.1 ns x.2))) → Q (.bl (truthOf ats rows x.1 (ns ++ x.2))) H'
def sp_Gate_passed : Sp := fun vs H Q _ => ∃ g t m ats rows ev st q x cs, vs = [.ref g, ev, .ref t] ∧ Gat K H g st q ∧ (q.2 = true → isFrom st.s = true) ∧ stB st = true ∧ st.s.isList = false ∧ Tel K H t m ats rows ∧ WB ats rows ∧ Ent H ev x ∧ VB rows x 60 ∧ (∀ u, tst st.s = some u → u ++ x.2 ∈ ats) ∧ H m = some (.lst (cV cs)) ∧ cs.length ≤ 90000 ∧
  ∀ v H', Kp [g, m] H H' → H' m = some (.lst (cV (cs ++ (gstep (truthOf ats rows) st.s q x).1))) → Gat K H' g st (gstep (truthOf ats rows) st.s q x).2.2.2 →
    (∃ a nv, v = .ref a ∧ H' a = some (.tup [nv, .bl (gstep (truthOf ats rows) st.s q x).2.1.isSome, .bl (gstep (truthOf ats rows) st.s q x).2.2.1]) ∧ ∀ y, (gstep (truthOf ats rows) st.s q x).2.1 = some y → Ent H' nv y) → Q v H'
def sp_played_part : Sp := fun vs H Q _ => ∃ p a t m ats rows l xs cs, vs = [.ref p, .ref a, .ref t] ∧ StL K H p l ∧ (∀ st ∈ l, stB st = true ∧ st.s.isList = false) ∧ l.length ≤ 8 ∧ EnL H a xs ∧ xs.length ≤ 9 ∧ Tel K H t m ats rows ∧ WB ats rows ∧ (∀ x ∈ xs, VB rows x 30 ∧ Fit ats (l.map (·.s)) x.2) ∧ H m = some (.lst (cV cs)) ∧ cs.length ≤ 50000 ∧ p ≠ m ∧ a ≠ m ∧
  ∀ q H', Kp [m] H H' → H q = none → H' m = some (.lst (cV (cs ++ (playPart (truthOf ats rows) (l.map (·.s)) xs).2))) → EnL H' q (playPart (truthOf ats rows) (l.map (·.s)) xs).1 → Q (.ref q) H'
def sp_played : Sp := fun vs H Q _ => ∃ v a t m ats rows l xs, vs = [v, .ref a, .ref t] ∧ Flw K H v l ∧ (∀ st ∈ l, stB st = true) ∧ l.length ≤ 8 ∧ EnL H a xs ∧ xs.length ≤ 9 ∧ Tel K H t m ats rows ∧ WB ats rows ∧ (∀ x ∈ xs, x.2 = [] ∧ x.1 < rows.length) ∧ Fit ats (l.map (·.s)) [] ∧ H m = some (.lst []) ∧ a ≠ m ∧
  ∀ q H', Kp [m] H H' → H' m = some (.lst (cV (progRun (truthOf ats rows) l xs).2)) → EnL H' q (progRun (truthOf ats rows) l xs).1 → Q (.ref q) H'
def sp_check_atoms : Sp := fun vs H Q _ => ∃ v ats, vs = [v] ∧ Ats H v ats ∧ ats.Nodup ∧ ats.length ≤ 6 ∧ (∀ w ∈ ats, wordB w = true ∧ 1 ≤ w.length ∧ w.length ≤ 30) ∧ ∀ H', Ex H H' → Q .non H'
def sp_is_row : Sp := fun vs H Q _ => ∃ v r, vs = [v, .int (List.length r : Nat)] ∧ Row H v r ∧ r.length ≤ 100 ∧ ∀ H', Ex H H' → Q (.bl true) H'
def sp_check_rows : Sp := fun vs H Q _ => ∃ v rows, ∃ n : Nat, vs = [v, .int n] ∧ Rws H v rows ∧ n ≤ 100 ∧ (∀ r ∈ rows, List.length r = n) ∧ ∀ H', Ex H H' → Q .non H'
def sp_Play : Sp := fun vs H Q _ => ∃ a dx e c es cs, vs = [.ref a, .ref e, .ref c] ∧ H a = some (.ins (He.ga K "Play") dx []) ∧ H e = some (.tup (cV es)) ∧ H c = some (.tup (cV cs)) ∧ ∀ H', Kp [a] H H' → Ply K H' (.ref a) es cs → Q .non H'
def sp_Play_entries : Sp := fun vs H Q _ => ∃ v es cs, vs = [v] ∧ Ply K H v es cs ∧ ∀ e H', Ex H H' → H e = some (.tup (cV es)) → Q (.ref e) H'
def sp_Play_calls : Sp := fun vs H Q _ => ∃ v es cs, vs = [v] ∧ Ply K H v es cs ∧ ∀ e H', Ex H H' → H e = some (.tup (cV cs)) → Q (.ref e) H'
def sp_World : Sp := fun vs H Q _ => ∃ a dx av rv ats rows, vs = [.ref a, av, rv] ∧ H a = some (.ins (He.ga K "World") dx []) ∧ Ats H av ats ∧ Rws H rv rows ∧ WB ats rows ∧ ∀ H', Kp [a] H H' → Wor K H' (.ref a) ats rows → Q .non H'
def ent0 (n : Nat) : List (Tm Nm) := (List.range n).map fun i => (i, [])
def sp_World_play : Sp := fun vs H Q _ => ∃ v fv ats rows l, vs = [v, fv] ∧ Wor K H v ats rows ∧ WB ats rows ∧ Flw K H fv l ∧ (∀ st ∈ l, stB st = true) ∧ l.length ≤ 8 ∧ (∀ w ∈ atomsOf l, w ∈ ats) ∧
  ∀ v' H', Ex H H' → Ply K H' v' (progRun (truthOf ats rows) l (ent0 rows.length)).1 (progRun (truthOf ats rows) l (ent0 rows.length)).2 → Q v' H'
end
end CF

/-! text CfSpC -/
set_option Elab.async false
set_option linter.all false
set_option maxRecDepth 100000
set_option maxHeartbeats 2000000
/-! what the law's own defs promise: what is drawn -/
namespace CF
open PySem PySem.Spec PyProof.Rows L2 Evl
/-- a purse: a list of three numbers, the first two not below 0 -/
def Pur (H : Hp) (p : Addr) : Prop := ∃ a b c : Int, H p = some (.lst [.int a, .int b, .int c]) ∧ 0 ≤ a ∧ a < 2147483399 ∧ 0 ≤ b
/-- a list of steps told as tuples -/
def PaL (H : Hp) (q : Addr) (l : List (Step Nm)) : Prop := ∃ vs, H q = some (.lst vs) ∧ All2 (Part H) vs l
/-- a tuple of words, held with its object -/
def AtF (H : Hp) (a : Addr) (l : List (List Nm)) : Prop := ∃ o vs, H a = some (.frz o (.tup vs)) ∧ o.cls = .type "tuple" ∧ o.dict = none ∧ All2 (Wd H) vs l
def kinds : List Str := ["each", "keep", "drop", "while", "from", "first", "skip", "every", "last", "but last", "turned"]
section
variable (K : PySem.W.Frag)
def sp__law_cell : Sp := fun vs H Q _ => ∃ a, ∃ ns : List Int, ∃ k : Nat, vs = [.ref a, .int k] ∧ SqL K H a (ns.map V.int) ∧ ns.length ≤ 1000 ∧ k ≤ 100 ∧ ∀ (r : Int) H', Ex H H' → Q (.int r) H'
def sp__law_purse : Sp := fun vs H Q _ => ∃ c : Int, vs = [.int c] ∧ ∀ p H', Ex H H' → H p = none → Pur H' p → Q (.ref p) H'
def sp__law_take : Sp := fun vs H Q _ => ∃ p, ∃ m : Nat, vs = [.ref p, .int m] ∧ Pur H p ∧ 1 ≤ m ∧ m ≤ 1000 ∧ ∀ (r : Nat) H', Kp [p] H H' → Pur H' p → r < m → Q (.int r) H'
def sp__law_name : Sp := fun vs H Q _ => ∃ p, vs = [.ref p] ∧ Pur H p ∧ ∀ n H', Kp [p] H H' → Pur H' p → nameB n = true → Q (nV n) H'
def sp__law_tags : Sp := fun vs H Q _ => ∃ p, vs = [.ref p] ∧ Pur H p ∧ ∀ q w H', Kp [p] H H' → Pur H' p → H q = none → H' q = some (.lst (tV w)) → wordB w = true → 1 ≤ w.length → w.length ≤ 4 → Q (.ref q) H'
def sp__law_labels : Sp := fun vs H Q _ => vs = [] ∧ ∀ q H', Ex H H' → H q = none → H' q = some (.lst (kinds.map V.str)) → Q (.ref q) H'
def sp__law_detail : Sp := fun vs H Q _ => ∃ p q w, ∃ lab : Str, vs = [.ref p, .ref q, .str lab] ∧ Pur H p ∧ H q = some (.lst (tV w)) ∧ q ≠ p ∧ wordB w = true ∧ 1 ≤ w.length ∧ w.length ≤ 4 ∧ lab ∈ kinds ∧ ∀ s d H', Kp [p] H H' → Pur H' p → sgB s = true → Sg.kd s = lab → Det H' d s → Q d H'
def sp__law_part : Sp := fun vs H Q _ => ∃ p q w, vs = [.ref p, .ref q] ∧ Pur H p ∧ H q = some (.lst (tV w)) ∧ q ≠ p ∧ wordB w = true ∧ 1 ≤ w.length ∧ w.length ≤ 4 ∧ ∀ st v H', Kp [p] H H' → Pur H' p → stB st = true → Part H' v st → Q v H'
def sp__law_stage : Sp := fun vs H Q _ => ∃ v st, vs = [v] ∧ Part H v st ∧ stB st = true ∧ ∀ v' H', Ex H H' → Stg K H' v' st → Q v' H'
def sp__law_flow : Sp := fun vs H Q _ => ∃ q l, vs = [.ref q] ∧ PaL H q l ∧ (∀ st ∈ l, stB st = true) ∧ l.length ≤ 8 ∧ ∀ v H', Ex H H' → Flw K H' v l → Q v H'
def sp__law_atoms : Sp := fun vs H Q _ => ∃ q l, vs = [.ref q] ∧ PaL H q l ∧ (∀ st ∈ l, stB st = true) ∧ l.length ≤ 8 ∧ ∀ a H', Ex H H' → AtF H' a (atomsOf l) → Q (.ref a) H'
def sp__law_few : Sp := fun vs H Q _ => ∃ q l, vs = [.ref q] ∧ PaL H q l ∧ (∀ st ∈ l, stB st = true) ∧ l.length ≤ 8 ∧ ∀ q' l' H', Ex H H' → PaL H' q' l' → (∀ st ∈ l', stB st = true) → l'.length ≤ 8 → (atomsOf l').length ≤ 6 → Q (.ref q') H'
def sp__law_playable : Sp := fun vs H Q _ => ∃ p, vs = [.ref p] ∧ Pur H p ∧ ∀ q' l' H', Kp [p] H H' → Pur H' p → PaL H' q' l' → q' ≠ p → (∀ st ∈ l', stB st = true) → l'.length ≤ 8 → (atomsOf l').length ≤ 6 → Q (.ref q') H'
def sp__law_truths : Sp := fun vs H Q _ => ∃ p, ∃ m : Nat, vs = [.ref p, .int m] ∧ Pur H p ∧ m ≤ 100 ∧ ∀ v r H', Kp [p] H H' → Pur H' p → Row H' v r → List.length r = m → Q v H'
end
end CF

/-! text CfExtra -/
set_option Elab.async false
set_option linter.all false
set_option maxRecDepth 100000
set_option maxHeartbeats 2000000
/-! more own rules -/
namespace CF
open PySem PySem.Spec PyProof.Rows L2
theorem glS {m : Option Value} {x : Str} (h : ∃ t, m = some (.str x t)) : ∃ u, m = some u ∧ RelV (.str x) u := by
  obtain ⟨t, e⟩ := h
  exact ⟨_, e, _, rfl⟩
theorem glI {m : Option Value} {i : Int} (h : ∃ t, m = some (.int i t)) : ∃ u, m = some u ∧ RelV (.int i) u := by
  obtain ⟨t, e⟩ := h
  exact ⟨_, e, _, rfl⟩
theorem hu65 {k : Nat} {A : Around} (hr : Room k A) : A.units + 65 < cLine := by
  have := hr.un
  omega
section
variable {X : Cx}
/-- a tuple that is held with its object, which has no dict of its own -/
def tyTup (x : V) (H : Hp) : Prop := ∃ (a : Addr) (o : Obj) (xs : List V), x = .ref a ∧ H a = some (.frz o (.tup xs)) ∧ o.cls = .type "tuple" ∧ o.dict = none
theorem ty_tup : TyOk X "tuple" tyTup := by
  intro pins σ H s x v I r ty
  obtain ⟨a, o, xs, rfl, ha, hc, hd⟩ := ty
  cases r
  have ho : s.heap.get? a = some o := (I.hok a _ ha).1
  refine ⟨⟨o, ho, hc⟩, fun b e => ?_⟩
  cases e
  exact ⟨o, ho, hd⟩
abbrev tTI (K : PySem.W.Frag) (to : TE) (t : TA) : TE := tMG tyTup (rIndexDT K) to t
theorem pe_tupIndex {o e : Expr} {es : List Expr} {to : TE} {t : TA} {apos cpos : Pos} (hu : X.A.units + 65 < cLine) (ho : PE X o to) (ha : PA X (e :: es) t)
    (hbase : attributeBase o "index" X.env (eval o X.env) = eval o X.env := by rfl)
    (hfew : ((backTo cpos (starEach (e :: es) X.env)).all (fun x => !x.1) && (backToKw cpos (keywordEach [] X.env)).all (fun x => x.1.isSome)
      && decide ((e :: es).length + ([] : List Keyword).length + (if ([] : List Keyword).isEmpty then 0 else 1) < 30)) = true := by rfl)
    (hline : (apos.endLine == cpos.line) = true := by rfl) (hs : starEach (e :: es) X.env = (false, eval e X.env) :: starEach es X.env := by rfl) (hplain : (backTo cpos (starEach es X.env)).any (·.1) = false := by rfl) :
    PE X (.Call (.Attribute o "index" apos) (e :: es) [] cpos) (tTI X.K to t) :=
  pe_mG ty_tup PySem.F.plainAttrs_tuple PySem.F.slot_tuple_index PySem.F.type_tuple_index (mt_tupIndexD hu) ho ha hbase hfew hline hs hplain
/-- repr of data -/
def cRepr (K : PySem.W.Frag) : RCs := fun xs H Q => ∃ (d : PyData) (a : Addr), xs = [V.ref a] ∧ Dp K H (V.ref a) d ∧ d.showable = true ∧ d.hasDict = false ∧ d.depth ≤ 60 ∧ d.shown.length ≤ sizeLine ∧ Q (.str d.shown) H
theorem call_reprD (hg : X.A.guards = some []) (hu : X.A.units + 65 < cLine) : CallR X (.builtin "repr") (cRepr X.K) := by
  intro pins s σ H xs us Q I r h
  obtain ⟨d, a, rfl, hd, hs, hnd, hz, hl, q⟩ := h
  obtain ⟨u, rfl, ru⟩ := vals1 r
  cases (show u = Value.ref a from ru)
  obtain ⟨as, r1⟩ := Dp.reads I d _ _ hd ru
  refine repr_of_reads' r1 hs (PyData.noDict_hsm hnd) hg (by omega) (fun _ _ e => e) (fun h' u tk hk => ?_) hl
  exact ⟨.str d.shown, H, I.kept hk, ⟨_, rfl⟩, q⟩
/-! ### tuples that are held with their objects from the start -/
theorem frz_ok {P : Program} {w : World} {H : Hp} {h : Heap} {a : Addr} {xs : List V} {its : List Value} {n : Nat} (hz : xs.length ≤ sizeLine) (r : Vals xs its) (e : h.get? a = some { cls := .type "tuple", data := .seq its.toArray n }) :
    ObjOk P w H h a (.frz { cls := .type "tuple", data := .seq its.toArray n } (.tup xs)) := ⟨e, hz, its, r, ⟨_, e, rfl, _, rfl⟩⟩
abbrev NewF (xs : List V) (H : Hp) (Q : VK) : Prop := ∀ (p : Addr) (o : Obj), H p = none → o.cls = .type "tuple" → o.dict = none → Q (.ref p) (upd H p (.frz o (.tup xs)))
abbrev cTupF (K : PySem.W.Frag) : RCs := fun xs H Q => ∃ p ys, xs = [.ref p] ∧ SqL K H p ys ∧ NewF ys H Q
theorem call_tuple_frz : CallR X (.type "tuple") (cTupF X.K) := by
  intro pins s σ H xs us Q I r h
  obtain ⟨p, ys, rfl, hq, q⟩ := h
  obtain ⟨u, rfl, rx⟩ := vals1 r
  cases rx
  obtain ⟨its, r', pl, hz⟩ := I.list hq
  have hlen := r'.length
  refine call_tuple_list pl.isList (fun h' kp => ?_) (by simp only [List.size_toArray] <;> omega)
  have I1 : Inv X pins σ H { s with heap := h' } := I.kept (t' := s.toks) kp
  exact ⟨.ref h'.objs.size, _, I1.laid (t' := s.toks) (fun b o e => Heap.get?_push_of_some _ e) (Nat.le_refl _) (frz_ok hz r' (Heap.get?_push_size _ rfl)), rfl, q _ _ (I1.hok.fresh (Nat.le_refl _)) rfl rfl⟩
def tTupF (t : TA) : TE := fun σ H Q => t σ H fun xs H1 => xs.length ≤ sizeLine ∧ NewF xs H1 Q
theorem pe_tupF {es : List Expr} {x1 : Nat} {pos : Pos} {t : TA} (h : PA X es t) : PE X (.Tuple es x1 pos) (tTupF t) := by
  refine ⟨fun pins s σ H Q I hq => ?_⟩
  refine wpAny_Tuple_spliced (thn (h.run pos pins s σ H _ I hq) fun us s1 ⟨xs, H1, I1, r, z, q⟩ => ⟨by rw [← r.length]; exact z, ?_⟩)
  have hf : H1 s1.heap.objs.size = none := I1.hok.fresh (Nat.le_refl _)
  exact ⟨.ref s1.heap.objs.size, _, I1.laid (t' := s1.toks) (fun b u e => Heap.get?_push_of_some _ e) (Nat.le_refl _) (frz_ok z r (Heap.get?_push_size _ rfl)), rfl, q _ _ hf rfl rfl⟩
def tRevTF (K : PySem.W.Frag) (te : TE) : TE := fun σ H Q => te σ H fun x H1 => ∃ a xs, x = .ref a ∧ SqT K H1 a xs ∧ NewF xs.reverse H1 Q
theorem pe_revTF {e : Expr} {te : TE} {k : Nat} {p1 p2 p3 pos : Pos} (he : PE X e te) : PE X (.Subscript e (.Slice none none (some (.UnaryOp .USub (.Constant (.int 1) k p1) p2)) p3) pos) (tRevTF X.K te) := by
  refine ⟨fun pins s σ H Q I h => ?_⟩
  refine Subscript_ (thn (he.run pins s σ H _ I h) fun v s1 ⟨x, H1, I1, r1, q1⟩ => ?_)
  obtain ⟨a, xs, ex, hx, q⟩ := q1
  subst ex
  cases r1
  have hst : PO X (some (.UnaryOp .USub (.Constant (.int 1) k p1) p2)) (tPart (tUn (rU fun i => .int (-i)) (tC (.int 1)))) := po_some (pe_un un_neg pe_int)
  refine wpAny_Slice (thn (po_none.run pins s1 σ H1 (fun o H2 => o = none ∧ H2 = H1) I1 ⟨rfl, rfl⟩) fun vl s2 ⟨l, H2, I2, pl, el, e2⟩ => ?_)
  subst el e2
  refine thn (po_none.run pins s2 σ H2 (fun o H3 => o = none ∧ H3 = H2) I2 ⟨rfl, rfl⟩) fun vu s3 ⟨u, H3, I3, pu, eu, e3⟩ => ?_
  subst eu e3
  refine thn (hst.run pins s3 σ H3 (fun o H4 => o = some (-1) ∧ H4 = H3) I3 ⟨1, rfl, -1, rfl, rfl, rfl⟩) fun vs s4 ⟨o, H4, I4, ps, eo, e4⟩ => ?_
  subst eo e4
  cases pl
  cases pu
  have I5 : Inv X pins σ H4 { s4 with heap := s4.heap.push { cls := .type "slice", data := .fields #[.none, .none, vs] } } := I4.kept (t' := s4.toks) fun b ob q => Heap.get?_push_of_some _ q
  obtain ⟨its, r, ht, hz⟩ := I5.tuple hx
  have hlen := r.length
  show wpAny (model X.prog X.w) X.A (subscriptTail e (.Slice none none (some (.UnaryOp .USub (.Constant (.int 1) k p1) p2)) p3) (.ref a) (.ref s4.heap.objs.size)) (EP X pins σ Q) X.xe { s4 with heap := s4.heap.push { cls := .type "slice", data := .fields #[.none, .none, vs] } }
  refine tail_any (ops := [.ref a, .ref s4.heap.objs.size]) ht.typeIs (PyProof.Rows.slot_tuple_getitem.lookup) ?_ (by with_unfolding_all rfl)
  refine getItem_tuple_rev ht (Heap.IsSliceOf.new _ .none .none vs) ps ?_ (by rw [← hlen]; exact hz)
  exact ⟨.ref _, _, I5.laid (t' := s4.toks) (fun b ob q => Heap.get?_push_of_some _ q) (Nat.le_refl _) (frz_ok (by rw [List.length_reverse]; exact hz) r.reverse (Heap.get?_push_size _ rfl)), rfl, q _ _ (I5.hok.fresh (Nat.le_refl _)) rfl rfl⟩
/-- t + u, u not empty: u itself, or a new one -/
def rCatF (K : PySem.W.Frag) : R2 := fun x y H Q => ∃ a b xs ys, x = .ref a ∧ y = .ref b ∧ SqT K H a xs ∧ SqT K H b ys ∧ xs.length + ys.length ≤ sizeLine ∧ ys ≠ [] ∧ (xs = [] → Q (.ref b) H) ∧ (xs ≠ [] → NewF (xs ++ ys) H Q)
theorem op_catF : OpR X (binaryOp .Add) (rCatF X.K) := by
  intro pins s σ H x y v u Q I rx ry h
  obtain ⟨a, b, xs, ys, rfl, rfl, ha, hb, hz, hy, q0, q2⟩ := h
  by_cases hx : xs = []
  · exact op_catA pins s σ H _ _ v u Q I rx ry ⟨a, b, xs, ys, rfl, rfl, ha, hb, hz, q0, fun z => absurd hx z, fun z => absurd hx z⟩
  · cases rx
    cases ry
    obtain ⟨its, r1, p1, _⟩ := I.tuple ha
    obtain ⟨its2, r2, p2, _⟩ := I.tuple hb
    refine HT.cat_tup p1 p2 (fun z => hx (r1.nil_iff.mp z)) (fun z => absurd (r2.nil_iff.mp z) hy) (fun z => ?_) (by rw [← r1.length, ← r2.length]; exact hz)
    exact ⟨.ref s.heap.objs.size, _, I.laid (t' := s.toks) (fun b ob q => Heap.get?_push_of_some _ q) (Nat.le_refl _) (frz_ok (by rw [List.length_append]; exact hz) (r1.append r2) (Heap.get?_push_size _ rfl)), rfl, q2 hx _ _ (I.hok.fresh (Nat.le_refl _)) rfl rfl⟩
end
end CF

/-! text CfRepl -/
set_option Elab.async false
set_option linter.all false
set_option maxRecDepth 100000
set_option maxHeartbeats 2000000
/-! replace of written texts: where a token is out; a comprehension whose item wants one -/
namespace CF
open PySem PySem.Spec PyProof.Rows L2
theorem thnT {α : Type} {t : Sem α} {Q Q' : α → Shared → Prop} {M : Model} {A : Around} {E : Value → Shared → Prop} {s : Shared} (h : wpAny M A t Q E s) (hQ : ∀ a s', s.toks ≤ s'.toks → Q a s' → Q' a s') : wpAny M A t Q' E s :=
  wpAny_mono (PySem.wpAny_toks h) (fun a s' z => hQ a s' z.1 z.2) fun _ _ z => z.2
theorem thnFT {α : Type} {t : Sem α} {Q Q' : α → Shared → Prop} {M : Model} {A : Around} {E : Value → Shared → Prop} {s : Shared} (h : wpAny M A t Q (fun _ _ => False) s) (hQ : ∀ a s', s.toks ≤ s'.toks → Q a s' → Q' a s') : wpAny M A t Q' E s :=
  wpAny_mono (PySem.wpAny_toks h) (fun a s' z => hQ a s' z.1 z.2) fun _ _ z => z.2.elim
theorem thnFTE {α : Type} {t : Sem α} {Q Q' : α → Shared → Prop} {M : Model} {A : Around} {E : Value → Shared → Prop} {s : Shared} (h : wpAny M A t Q E s) (hQ : ∀ a s', s.toks ≤ s'.toks → Q a s' → Q' a s') : wpAny M A t Q' E s := thnT h hQ
section
variable {X : Cx}
theorem lcT_core {pins : List (Addr × Obj)} {s : Shared} {σ : L2.St} {H : Hp} {Q : VK} {elt tg iter : Expr} {ifs : List Expr} {scope : Scope} {own : List (Str × Nat)} {pos pos' : Pos} {wi : TI} {g : TG} {tt : TT} {te : TE} {use : Option (Value → Sem Unit)} {Qf : Value → Shared → Prop}
    (hc : X.calm = true) (hN : X.N.Nodup) (h0 : 1 ≤ s.toks) (I : Inv X pins σ H s) (hi : PI X tg iter wi) (ok : BlkOk X.N X.env.scope scope own)
    (hg : ∀ (s : Shared) (H : Hp) (C : Addr) (cl : List (Str × Addr)) (fp : List Addr), PG (X.blk s H scope (compEnvC scope cl C X.env) fp) tg g) (ht : ∀ (s : Shared) (H : Hp) (C : Addr) (cl : List (Str × Addr)) (fp : List Addr), PTs (X.blk s H scope (compEnvC scope cl C X.env) fp) ifs tt)
    (he : ∀ (s : Shared) (H : Hp) (C : Addr) (cl : List (Str × Addr)) (fp : List Addr), PET (X.blk s H scope (compEnvC scope cl C X.env) fp) elt te) (hs : ∀ x, foldedSetIterable iter X.env x = pure x)
    (h : tLc wi g tt te (own.map (·.2)) σ H Q)
    (hRR : ∀ D C s' m H', Inv X pins σ H' s' → Q (.ref D) H' → s'.heap.Ns C m → FpOk X pins H' C → compPost (model X.prog X.w) X.A X.xe use Qf (.ref D) C (.ok .next) s') :
    wpAny (model X.prog X.w) X.A (comprehension (.ListComp elt [⟨tg, iter, ifs, 0⟩] scope pos) scope X.env pos' (newList []) false (eval iter X.env) use) Qf X.xe s := by
  have hfree : ∀ y ∈ scope.names, y.2 = .free → ∃ c, X.env.cells.lookup y.1 = some c := fun y hy e => by
    rcases ok.free y hy e with k | k
    · exact I.ok.has _ (.inl k)
    · exact I.ok.has _ (.inr k)
  refine wpAny_comprehension_free (use := use) rfl hs (closure_ok hfree) ok.kind (fun y hy e => by rw [ok.uniq y hy, e])
    (thnT (hi.run pins s σ H _ I h) fun xv s1 k1 hx => thnT hx fun itv s2 k2 h2 => ?_)
  obtain ⟨it, fp, tn, J, H2, e, I2, T, st2, f2, q⟩ := h2
  subst e
  refine wpAny_newObj_type (newEnv_comp ?_) (by show 0 ≤ sizeLine; decide)
  generalize hD : s2.heap.objs.size = D
  have hDn : H2 D = none := I2.hok.fresh (Nat.le_of_eq hD)
  obtain ⟨W, ⟨m0, w0⟩, turn⟩ := q D hDn
  -- the new list
  generalize hs3 : ({ s2 with heap := s2.heap.push { cls := .type "list", data := .seq ([] : List Value).toArray } } : Shared) = s3
  have I3 : Inv X pins σ (upd H2 D (.lst [])) s3 := by
    rw [← hs3]
    refine I2.laid (t' := s2.toks) (fun b o e => Heap.get?_push_of_some _ e) (Nat.le_of_eq hD) ⟨Nat.zero_le _, [], 0, .nil, ?_⟩
    rw [← hD]
    exact Heap.get?_push_size _ rfl
  have h3 : s3.heap = s2.heap.push { cls := .type "list", data := .seq ([] : List Value).toArray } := by rw [← hs3]
  have sz : ∀ b ∈ fp, b < s2.heap.objs.size := fun b hb => by
    obtain ⟨o, e, _⟩ := T.obj _ _ st2 b hb
    exact Heap.lt_size e
  have f3 : ∀ b ∈ fp, FpOk X pins (upd H2 D (.lst [])) b ∧ b < s3.heap.objs.size := fun b hb => by
    have hlt := sz b hb
    refine ⟨⟨?_, (f2 b hb).2⟩, by rw [h3, Heap.size_push]; exact Nat.lt_succ_of_lt hlt⟩
    rw [upd_ne (by rw [← hD]; exact Nat.ne_of_lt hlt)]
    exact (f2 b hb).1
  have st3 : tn 0 s3.heap := T.keep _ _ _ st2 fun b _ o e => by rw [h3]; exact Heap.get?_push_of_some _ e
  have t3 : 1 ≤ s3.toks := by rw [← hs3]; exact Nat.le_trans h0 (Nat.le_trans k1 k2)
  have I4 := block_start I3 ok hN f3
  have pg := hg s3 (upd H2 D (.lst [])) s3.heap.objs.size (cellsFrom (s3.heap.objs.size + 1) scope.names (cloFrom X.env.cells scope.names [])) fp
  have pt := ht s3 (upd H2 D (.lst [])) s3.heap.objs.size (cellsFrom (s3.heap.objs.size + 1) scope.names (cloFrom X.env.cells scope.names [])) fp
  have pe : PET _ elt te := he s3 (upd H2 D (.lst [])) s3.heap.objs.size (cellsFrom (s3.heap.objs.size + 1) scope.names (cloFrom X.env.cells scope.names [])) fp
  show codeAny _ _ (.compStart (.ListComp elt [⟨tg, iter, ifs, 0⟩] scope pos) 0 (.ref it) (.ref D) (compEnvC scope (cellsFrom (s3.heap.objs.size + 1) scope.names (cloFrom X.env.cells scope.names [])) s3.heap.objs.size X.env)) (compPost (model X.prog X.w) X.A X.xe use Qf (.ref D) s3.heap.objs.size) { s3 with heap := pushCells (s3.heap.push { cls := .type "dict", data := .dict #[] }) scope.names }
  have nfp : ∀ b ∈ fp, (upd H2 D (.lst [])) b = none := fun b hb => (f3 b hb).1.1
  generalize hce : compEnvC scope (cellsFrom (s3.heap.objs.size + 1) scope.names (cloFrom X.env.cells scope.names [])) s3.heap.objs.size X.env = ce at I4 pg pt pe ⊢
  have cL : ce.locals = s3.heap.objs.size := by subst hce; rfl
  generalize hH3 : upd H2 D (.lst []) = H3 at I3 I4 pg pt pe w0 nfp f3
  generalize hs4 : ({ s3 with heap := pushCells (s3.heap.push { cls := .type "dict", data := .dict #[] }) scope.names } : Shared) = s4 at I4 ⊢
  have t4 : 1 ≤ s4.toks := by rw [← hs4]; exact t3
  have st4 : tn 0 s4.heap := T.keep _ _ _ st3 fun b _ o e => by rw [← hs4]; exact pushCells_keeps _ _ _ _ (Heap.get?_push_of_some _ e)
  have stat : ∀ {σ' : L2.St} {H' : Hp} {s' : Shared}, Inv (X.blk s3 H3 scope ce fp) [] σ' H' s' → (∀ b ∈ fp, H' b = none) → ∀ b ∈ fp, FpOk (X.blk s3 H3 scope ce fp) [] H' b := fun {σ' H' s'} I' hn b hb =>
    ⟨hn b hb, (I'.ok.exf b hb).1, I'.ok.exfs b hb, .inl hb, fun x c e => (I'.ok.exf b hb).2 x c e, fun p hp => absurd (show p ∈ ([] : List (Addr × Obj)) ++ [] from hp) (by simp)⟩
  have loop : codeAny (model X.prog X.w) X.A (.compLoop (.ListComp elt [⟨tg, iter, ifs, 0⟩] scope pos) 0 (.ref it) (.ref D) ce) (compPost (model X.prog X.w) X.A X.xe use Qf (.ref D) s3.heap.objs.size) s4 := by
    refine compLoop_any (fun n s' => 1 ≤ s'.toks ∧ ∃ i H', Inv (X.blk s3 H3 scope ce fp) [] (wipe σ (own.map (·.2))) H' s' ∧ tn i s'.heap ∧ (∀ b ∈ fp, H' b = none) ∧ W i n H') ?_ m0 ⟨t4, 0, H3, I4, st4, nfp, w0⟩
    rintro n s5 ⟨t5, i, H5, I5, st5, n5, w5⟩
    rcases turn i n H5 w5 with ⟨stop, qq⟩ | ⟨go, Nx, hNx, step⟩
    · have td := T.done (X.blk s3 H3 scope ce fp) rfl rfl rfl hc i [] s5 _ H5 (fun _ _ => False) I5 (stat I5 n5) st5 stop
      refine thnF td fun r s6 ⟨hr, I6⟩ => ?_
      subst hr
      -- back in the def's context
      have I7 : Inv X pins σ H5 s6 := I3.call' (ch := fp) I6.os I6.base I6.hok I6.bare fun b hb => ⟨(f3 b hb).1.2.2.2.1, (f3 b hb).1.2.1, (f3 b hb).1.2.2.2.2.1, (f3 b hb).1.2.2.2.2.2⟩
      have nC : H5 s3.heap.objs.size = none := by
        have z : H5 ce.locals = none := I6.free
        rw [cL] at z
        exact z
      obtain ⟨m, hn, _⟩ := I6.loc
      have hn : s6.heap.Ns ce.locals m := hn
      rw [cL] at hn
      exact hRR D s3.heap.objs.size s6 m H5 I7 qq hn (I3.fpOk (Nat.le_refl _) nC)
    · have ti := T.item (X.blk s3 H3 scope ce fp) rfl rfl rfl hc i [] s5 _ H5 (fun _ _ => False) I5 (stat I5 n5) st5 go
      refine thnFT ti fun r s6 k6 ⟨u, hr, h6⟩ => ?_
      subst hr
      refine thnFT h6 fun _ s7 k7 ⟨x, H7, I7, r7, y7, st7, n7⟩ => ?_
      have I7' := I7.pinned (stat I7 n7) (T.obj _ _ st7)
      refine thnFT (pg.run _ s7 _ H7 x u _ I7' r7 (step x H7 y7)) fun _ s8 k8 ⟨σ8, H8, I8, hw8, q8⟩ => ?_
      refine thnFT (pt.run _ s8 σ8 H8 _ I8 q8) fun b s9 k9 ⟨H9, I9, q9⟩ => ?_
      have t9 : 1 ≤ s9.toks := Nat.le_trans t5 (Nat.le_trans k6 (Nat.le_trans k7 (Nat.le_trans k8 k9)))
      -- the turn's end
      have fin : ∀ {s' : Shared} {H' : Hp}, 1 ≤ s'.toks → Inv (X.blk s3 H3 scope ce fp) ([] ++ pinsAt fp s7.heap) σ8 H' s' → Nx H' → ∃ m, m < n ∧ 1 ≤ s'.toks ∧ ∃ i H', Inv (X.blk s3 H3 scope ce fp) [] (wipe σ (own.map (·.2))) H' s' ∧ tn i s'.heap ∧ (∀ b ∈ fp, H' b = none) ∧ W i m H' := fun {s' H'} t' I' nx => by
        obtain ⟨m', hm, w'⟩ := hNx H' nx
        have pin' : ∀ b ∈ fp, ∀ o, s7.heap.get? b = some o → s'.heap.get? b = some o ∧ H' b = none := fun b hb o e =>
          let z := I'.pin (b, o) (List.mem_append_right _ (List.mem_append_right _ (mem_pinsAt hb e)))
          ⟨z.1, z.2.1⟩
        have hl : (wipe σ (own.map (·.2))).length = σ8.length := by rw [← hw8, wipe_length]
        refine ⟨m', hm, t', i + 1, H', (I'.unpinned (pins := [])).weak hl (fun j v e => ?_), T.keep _ _ _ st7 fun b hb o e => (pin' b hb o e).1, fun b hb => ?_, w'⟩
        · rw [← hw8] at e
          exact (wipe_some e).1
        · obtain ⟨o, e, _⟩ := T.obj _ _ st7 b hb
          exact (pin' b hb o e).2
      cases b with
      | false =>
        simp only [Bool.false_eq_true, if_false] at q9 ⊢
        exact fin t9 I9 q9
      | true =>
        simp only [if_true] at q9 ⊢
        refine thnFT (pe _ s9 σ8 H9 _ t9 I9 q9) fun z s10 k10 ⟨yv, H10, I10, r10, acc, hD10, hz10, nx⟩ => ?_
        have t10 : 1 ≤ s10.toks := Nat.le_trans t9 k10
        refine thnFTE (app_ok (Q := fun _ s11 => Inv (X.blk s3 H3 scope ce fp) ([] ++ pinsAt fp s7.heap) σ8 (upd H10 D (.lst (acc ++ [yv]))) s11) (X := X.blk s3 H3 scope ce fp) I10 hD10 hz10 r10 fun s11 I11 => I11) fun _ s11 k11 I11 => ?_
        exact fin (Nat.le_trans t10 k11) I11 nx
  exact codeAny_compStart_list loop (T.self X.A 0 _ _ _ st4 loop)
theorem pst_setLcT {i : Nat} {y : Str} {py : Pos} {elt tg iter : Expr} {ifs : List Expr} {scope : Scope} {own : List (Str × Nat)} {pos spos : Pos} {wi : TI} {g : TG} {tt : TT} {te : TE} (hc : X.calm = true) (hN : X.N.Nodup) (hy : X.N[i]? = some y) (hyl : X.env.scope.names.lookup y = some .local)
    (hsw : swapsWith (.ListComp elt [⟨tg, iter, ifs, 0⟩] scope pos) (some (.Name y py)) spos.line X.env = pure true) (hi : PI X tg iter wi) (ok : BlkOk X.N X.env.scope scope own)
    (hg : ∀ (s : Shared) (H : Hp) (C : Addr) (cl : List (Str × Addr)) (fp : List Addr), PG (X.blk s H scope (compEnvC scope cl C X.env) fp) tg g) (ht : ∀ (s : Shared) (H : Hp) (C : Addr) (cl : List (Str × Addr)) (fp : List Addr), PTs (X.blk s H scope (compEnvC scope cl C X.env) fp) ifs tt)
    (he : ∀ (s : Shared) (H : Hp) (C : Addr) (cl : List (Str × Addr)) (fp : List Addr), PET (X.blk s H scope (compEnvC scope cl C X.env) fp) elt te) (hs : ∀ x, foldedSetIterable iter X.env x = pure x := by intro _; rfl) :
    PST X (.Assign [.Name y py] (.ListComp elt [⟨tg, iter, ifs, 0⟩] scope pos) spos) (tAsg (tLc wi g tt te (own.map (·.2))) (gName i)) := by
  intro pins s σ H D h0 I h
  rw [exec_Assign_Name_used _ _ _ _ hsw]
  refine wpAny_bind (wpAny_standAt (wpAny_bind ?_))
  show wpAny _ X.A (do let _ ← comprehension (.ListComp elt [⟨tg, iter, ifs, 0⟩] scope pos) scope X.env (firstIterPos [⟨tg, iter, ifs, 0⟩] pos) (newList []) false (eval iter X.env) (some (assign (.Name y py) X.env))) _ _ s
  have h : tLc wi g tt te (own.map (·.2)) σ H (fun x H1 => gName i x σ H1 D.nx) := h
  refine wpAny_bind (thn (lcT_core (Qf := fun _ s' => SP X pins D .next s') hc hN h0 I hi ok hg ht he hs h fun L C s' m H' I' q hn f => ?_) fun _ s' hq => wpAny_pure (wpAny_pure hq))
  show wpAny _ _ (assign (.Name y py) X.env (.ref L)) _ _ _
  refine wpAny_assign_Name (store_ok2 (v := V.ref L) I' hN hy (.inl hyl) rfl (fun s2 I2 ⟨a, sb, ha⟩ => ?_) (.inr hyl))
  obtain ⟨f0, f1, f2, f3, f4, f5⟩ := f
  have haC : C ≠ a := by
    rcases ha with z | z
    · rw [z]; exact f1
    · exact fun e => f4 y a z e.symm
  refine ⟨m, hn.sameBut sb haC, fun h3 sb3 => ?_⟩
  exact ⟨_, H', I2.turned (t' := s2.toks) (fun b o hb e => (sb3.2 b hb).trans e) f0 f1 f3 f4 f5, q⟩

/-! ### who gives a token out -/
def PEB (X : Cx) (e : Expr) (t : TE) : Prop :=
  ∀ (pins : List (Addr × Obj)) (s : Shared) (σ : L2.St) (H : Hp) (Q : VK), Inv X pins σ H s → t σ H Q → wpAny (model X.prog X.w) X.A (eval e X.env) (fun v s' => 1 ≤ s'.toks ∧ EP X pins σ Q v s') X.xe s
variable {o e a b : Expr} {te ta tb to : TE}
theorem peb_neg {n : Int} {j : Nat} {p1 p2 : Pos} : PEB X (.UnaryOp .USub (.Constant (.int n) j p1) p2) (tUn (rU fun i => .int (-i)) (tC (.int n))) := by
  intro pins s σ H Q I h
  have z := (pe_un (pos := p2) un_neg (pe_int (i := n) (j := j) (pos := p1))).run pins s σ H Q I h
  refine UnaryOp_ (wpAny_Constant_int ?_)
  obtain ⟨i, e1, q⟩ := h
  have z2 := un_neg (X := X) pins { s with toks := s.toks + 1 } σ H (.int n) (.int n s.toks) Q (I.tok _) ⟨_, rfl⟩ ⟨i, e1, q⟩
  exact thnT z2 fun v s' k q' => ⟨by have : s.toks + 1 ≤ s'.toks := k; omega, q'⟩
theorem peb_ix {r : R2} {pos : Pos} (hr : IxR X r) (ha : PE X a ta) (hb : PEB X b tb) (hs : PlainIx b) : PEB X (.Subscript a b pos) (tOp r ta tb) := by
  intro pins s σ H Q I h
  refine Subscript_ ?_
  refine thn (ha.run pins s σ H _ I h) fun v s1 ⟨x, H1, I1, rx, q1⟩ => ?_
  refine thn (hb pins s1 σ H1 _ I1 q1) fun u s2 ⟨k, y, H2, I2, ry, q2⟩ => ?_
  exact thnT (hr a b pins s2 σ H2 x y v u Q I2 rx ry q2 (hs _ _)) fun w s3 k3 q3 => ⟨Nat.le_trans k k3, q3⟩
/-- o.replace(..), o gives a token out -/
theorem pe_replB {y z : Str} {j k : Nat} {c0 c1 apos pos : Pos} (ho : PEB X o to) (hyz : (y == z) = false := by decide)
    (hst : starEach [.Constant (.str y) j c0, .Constant (.str z) k c1] X.env = [(false, eval (.Constant (.str y) j c0) X.env), (false, eval (.Constant (.str z) k c1) X.env)] := by rfl)
    (hbase : attributeBase o "replace" X.env (eval o X.env) = eval o X.env := by rfl) (hline : (apos.endLine == pos.line) = true := by rfl) :
    PE X (.Call (.Attribute o "replace" apos) [.Constant (.str y) j c0, .Constant (.str z) k c1] [] pos) (CwR.tReplC to y z) := by
  refine ⟨fun pins s σ H Q I h => ?_⟩
  refine PySem.Call_method2 hbase hst hline (thn (ho pins s σ H _ I h) fun v s1 ⟨hk, v', H1, I1, r1, x, e1, hb, q⟩ => ?_)
  subst e1
  obtain ⟨tx, e2⟩ := r1
  subst e2
  refine ⟨"str", _, PySem.F.plainAttrs_str, PySem.F.slot_str_replace, PySem.F.type_str_replace, typeIs_str _ _ _, (fun _ e => nomatch e), Calls.callWith_builtin rfl (Calls.evalArgs_plain (Calls.spliced_cons ?_))⟩
  refine Calls.Constant_str (Calls.spliced_cons (Calls.Constant_str (Calls.spliced_nil ?_)))
  exact PySem.SC.replace (by show s1.toks ≠ 0; omega) (by show s1.toks + 1 ≠ 0; omega) (by show s1.toks ≠ s1.toks + 1; omega) hyz hb fun t' k => ⟨.str (Txt.replace x y z), H1, I1.tok k, ⟨t', rfl⟩, q⟩
/-- o.split('..') -/
theorem peb_split {x : Str} {j : Nat} {p apos pos : Pos} (ho : PE X o to) (hs : starEach [.Constant (.str x) j p] X.env = [(false, eval (.Constant (.str x) j p) X.env)] := by rfl)
    (hbase : attributeBase o "split" X.env (eval o X.env) = eval o X.env := by rfl) (hline : (apos.endLine == pos.line) = true := by rfl) :
    PEB X (.Call (.Attribute o "split" apos) [.Constant (.str x) j p] [] pos) (tM1 mSplit to (tC (.str x))) := by
  intro pins s σ H Q I h
  refine PySem.Call_method1 hbase hs hline (thn (ho.run pins s σ H _ I h) fun v s1 ⟨v', H1, I1, r1, q1⟩ => ?_)
  obtain ⟨⟨a, rfl⟩, q1⟩ := q1
  obtain ⟨t, rfl⟩ := _root_.id r1
  refine ⟨"str", _, PySem.F.plainAttrs_str, PySem.F.slot_str_split, PySem.F.type_str_split, typeIs_str _ _ _, (fun _ e => nomatch e), Calls.callWith_builtin rfl (Calls.evalArgs_plain (Calls.spliced_cons ?_))⟩
  refine Calls.Constant_str (Calls.spliced_nil ?_)
  exact thnT (mt_split pins { s1 with toks := s1.toks + 1 } σ H1 _ [.str x] _ [.str x s1.toks] Q (I1.tok _) r1 (.cons ⟨_, rfl⟩ .nil) q1) fun v s' k q' => ⟨by have : s1.toks + 1 ≤ s'.toks := k; omega, q'⟩
theorem pss_setB {i : Nat} {x : Str} {pos' pos : Pos} {rest : List Stmt} {u : TS} (hN : X.N.Nodup) (hi : X.N[i]? = some x) (hx : Loc X.env.scope x) (he : PEB X e te) (h2 : PSsT X rest u)
    (hs : swapsWith e (some (.Name x pos')) pos.line X.env = pure false := by rfl) (hf : X.fn x = true ∨ X.env.scope.names.lookup x = some .local := by first | exact .inl rfl | exact .inr rfl | assumption) :
    PSs X (.Assign [.Name x pos'] e pos :: rest) (tSeq (tAsg te (gName i)) u) := by
  refine ⟨fun pins s σ H D I h => ?_⟩
  refine wpAny_execs_cons (wpAny_Assign_Name (thn (he pins s σ H _ I h) fun v s1 ⟨k, y, H1, I1, r1, q1⟩ => ?_) hs)
  refine thnT (store_ok (v := y) (u := v) (Q := fun _ s2 => Inv X pins (σ.set i (some y)) H1 s2) I1 hN hi hx r1 (fun _ I2 => I2) hf) fun _ s2 k2 I2 => ?_
  exact h2 pins s2 _ H1 D (Nat.le_trans k k2) I2 q1
theorem pet_tup {es : List Expr} {t : TA} {x1 : Nat} {pos : Pos} (h : PAT X es t) : PET X (.Tuple es x1 pos) (tTup t) := by
  intro pins s σ H Q h0 I hq
  refine wpAny_Tuple_spliced (thn (h pos pins s σ H _ h0 I hq) fun us s1 ⟨xs, H1, I1, r, z, q⟩ => ⟨by rw [← r.length]; exact z, ?_⟩)
  have hf : H1 s1.heap.objs.size = none := I1.hok.fresh (Nat.le_refl _)
  refine ⟨.ref s1.heap.objs.size, upd H1 s1.heap.objs.size (.tup xs), I1.laid (t' := s1.toks) (fun b u e => Heap.get?_push_of_some _ e) (Nat.le_refl _) ?_, rfl, q _ hf⟩
  exact ⟨z, us, r, ⟨_, Heap.get?_push_size _ rfl, rfl, _, rfl⟩⟩
theorem pet_c {k j : Nat} {x : Str} {sp : Sp} {dvs : List V} {es : List Expr} {t : TA} {p pos : Pos} (c : C8.Cal X.prog X.w X.K X.mg X.base k x sp dvs) (hr : Room j X.A) (hk : k ≤ j) (hg : Gl X x) (ha : PAT X (e :: es) t)
    (hdb : (x == ("__debug__" : Str)) = false := by decide) (he : starEach (e :: es) X.env = (false, eval e X.env) :: starEach es X.env := by rfl) (hpl : (backTo pos (starEach es X.env)).any (·.1) = false := by rfl) :
    PET X (.Call (.Name x p) (e :: es) [] pos) (tCall sp dvs C8.E0 t) := by
  obtain ⟨f, fd, ps, ds, F, hm, kp, b, d⟩ := c.ex
  intro pins s σ H Q h0 I h
  refine wpAny_Call_Name_kw (ld_glob I hg hm ?_ hdb)
  refine PySem.W.callWith_K (h₀ := X.base) I.ok.mod.kin kp (thn (ha pos pins s σ H _ h0 I h) fun us s1 ⟨vs, H1, I1, r, q⟩ => ⟨I1.kIn, ?_⟩) he hpl
  exact run_fn F (hr.mono hk) b d C8.pass0 I1 r q
end
end CF

/-! text CfGuard -/
set_option Elab.async false
set_option linter.all false
set_option maxRecDepth 100000
set_option maxHeartbeats 2000000
/-! defs that show data: no showing is under way around them (turned from the layer's own rules of calls, with that word added) -/
namespace CF
open PySem PySem.Spec PyProof.Rows L2
structure FnG (P : Program) (w : World) (K : PySem.W.Frag) (mg : Str → Option Value) (base : Heap) (CX : CXT) (k : Nat) (f : Addr) (fd : FuncData) (ps : List Str) (sp : Sp) : Prop where
  len : ∀ vs H Q E, sp vs H Q E → vs.length = ps.length
  run : ∀ (A : Around) (outer : List Env) (s : Shared) (H : Hp) (args : Args) (us : List Value) (vs : List V) (Q : VK) (E : XK), A.guards = some [] → Room k A → Env0 P w K mg base A outer s H → BindsTo s fd args (ps.zip us) → Vals vs us → sp vs H Q E →
    codeAny (model P w) A (.call (.ref f) args) (CR CX outer P w H s Q E) s
theorem fnG_of {CX : CXT} {P : Program} {w : World} {K : PySem.W.Frag} {mg : Str → Option Value} {base : Heap} {k : Nat} {f : Addr} {name qual : Str} {params : Arguments} {body : List Stmt} {scope : Scope} {dV kV doc pm cdv ct oc : Value} {an od : Option Addr}
    {osl : Array (Option Value)} {N ps : List Str} {sp : Sp} (lk : K.lookup f = some ⟨oc, od, .func (PySem.W.fnOf name qual params body scope dV kV doc pm an cdv ct), osl⟩) (hcd : PySem.W.codeIn K cdv qual = true) (S : FnScope N ps scope)
    (len : ∀ vs H Q E, sp vs H Q E → vs.length = ps.length)
    (hbody : ∀ (A : Around) (outer : List Env) (s : Shared) (H : Hp) (vs : List V) (Q : VK) (E : XK), (A.deeper (envOfC qual scope s.heap.objs.size f cdv)).guards = some [] → Room k (A.deeper (envOfC qual scope s.heap.objs.size f cdv)) → sp vs H Q E →
      ∃ t, PSs (cxOf CX P w K mg base N qual scope f cdv A outer s H E) body t ∧ t { nx := fun _ H' => Q .non H', rt := Q } (start N vs) H) :
    FnG P w K mg base CX (k + 1) f (PySem.W.fnOf name qual params body scope dV kV doc pm an cdv ct) ps sp := by
  refine ⟨len, fun A outer s H args us vs Q E hgd hr e0 hb r hsp => ?_⟩
  have hl := len _ _ _ _ hsp
  have KX : K.In s.heap := e0.mod.kin.keeps fun b o e => (e0.bs b o e).1
  have lim : s.heap.NoLimit := e0.mod.nolimit.keeps fun b o e => (e0.bs b o e).1
  have hkind : ∀ y ∈ ps.zip us, scope.names.lookup y.1 = some .local ∨ (scope.names.lookup y.1 = some .cell ∧ ((cellsFrom (s.heap.objs.size + 1) scope.names []).lookup y.1).isSome = true) := fun ⟨n, v⟩ hy => by
    rcases S.par n (List.of_mem_zip hy).1 with q | q
    · exact .inl q
    · exact .inr ⟨q, PySem.W.cellsFrom_some _ _ _ (.inl q)⟩
  refine codeAny_call_function hr.depth (KX _ _ lk) rfl S.co S.gen rfl (PySem.W.codeRec_of KX hcd) (hb _ _ _ _ ?_)
  refine wpAny_newFunctionEnv_cells S.kind hkind fun env he s1 x => ?_
  subst he
  refine ⟨lim.keeps x.toInCall.keep, codeAny_func ?_⟩
  obtain ⟨t, ht, hq⟩ := hbody A outer s H vs Q E hgd (hr.deeper _) hsp
  have I : Inv (cxOf CX P w K mg base N qual scope f cdv A outer s H E) [] (start N vs) H s1 := inv_start S hr.hd e0 hl r x
  refine wpAny_mono (ht.run [] s1 (start N vs) H _ I hq) (fun fl s' hs => ?_) fun e s' hs => hs
  have fin : ∀ {σ' : L2.St} {H' : Hp} {v : V} {u : Value}, Inv (cxOf CX P w K mg base N qual scope f cdv A outer s H E) [] σ' H' s' → RelV v u → Q v H' → CE outer P w H s Q u s' :=
    fun {σ' H' v u} J rv q => ⟨v, H', J.os, J.bare, J.base, J.hok, rv, q⟩
  cases fl with
  | ret u =>
    obtain ⟨v, σ', H', J, rv, q⟩ := hs
    exact fin J rv q
  | next =>
    obtain ⟨σ', H', J, q⟩ := hs
    exact fin (v := V.non) (u := Value.none) J rfl q
  | brk =>
    obtain ⟨_, _, _, q⟩ := hs
    exact False.elim q
  | cont =>
    obtain ⟨_, _, _, q⟩ := hs
    exact False.elim q

section
variable {X : Cx} {CX : CXT} {k : Nat} {f C : Addr} {fd : FuncData} {ps : List Str} {ds : List Value} {dvs : List V} {sp : Sp} {E : XK} {x m : Str} {p pos apos : Pos} {e o : Expr} {es : List Expr} {ta : TE} {t : TA}
theorem run_fnG {pins : List (Addr × Obj)} {σ : L2.St} {H : Hp} {s : Shared} {Q : VK} {us : List Value} {vs : List V} (F : FnG X.prog X.w X.K X.mg X.base CX k f fd ps sp) (hgd : X.A.guards = some []) (hr : Room k X.A) (hb : Binds X.K fd ps ds) (hd : Vals dvs ds) (hx : Passes CX X E)
    (I : Inv X pins σ H s) (r : Vals vs us) (h : sp (vs ++ dvs) H Q E) : wpAny (model X.prog X.w) X.A (call (.ref f) us) (EP X pins σ Q) X.xe s := by
  have r2 : Vals (vs ++ dvs) (us ++ ds) := r.append hd
  have hl : (us ++ ds).length = ps.length := by rw [← r2.length]; exact F.len _ _ _ _ h
  refine wpAny_call (codeAny_mono (F.run X.A X.stack s H ⟨us, []⟩ (us ++ ds) (vs ++ dvs) Q E hgd hr I.env0 (hb s us I.kIn hl) r2 h) fun r s' hq => ?_)
  cases r with
  | error e => exact hx pins σ H s e s' I hq
  | ok fl =>
    cases fl with
    | ret u => exact I.after hq
    | next => exact False.elim hq
    | brk => exact False.elim hq
    | cont => exact False.elim hq

theorem pe_callG (F : FnG X.prog X.w X.K X.mg X.base CX k f fd ps sp) (hgd : X.A.guards = some []) (hr : Room k X.A) (hg : Gl X x) (hm : X.mg x = some (.ref f)) (hk : PySem.W.keepIn X.K (.ref f) = true) (hb : Binds X.K fd ps ds) (hd : Vals dvs ds) (hx : Passes CX X E)
    (ha : PA X (e :: es) t) (hdb : (x == ("__debug__" : Str)) = false := by decide) (he : starEach (e :: es) X.env = (false, eval e X.env) :: starEach es X.env := by rfl) (hpl : (backTo pos (starEach es X.env)).any (·.1) = false := by rfl) :
    PE X (.Call (.Name x p) (e :: es) [] pos) (tCall sp dvs E t) := by
  refine ⟨fun pins s σ H Q I h => ?_⟩
  refine wpAny_Call_Name_kw (ld_glob I hg hm ?_ hdb)
  refine PySem.W.callWith_K (h₀ := X.base) I.ok.mod.kin hk (thn (ha.run pos pins s σ H _ I h) fun us s1 ⟨vs, H1, I1, r, q⟩ => ⟨I1.kIn, ?_⟩) he hpl
  exact run_fnG F hgd hr hb hd hx I1 r q

structure CalG (P : Program) (w : World) (K : PySem.W.Frag) (mg : Str → Option Value) (base : Heap) (k : Nat) (x : Str) (sp : Sp) : Prop where
  ex : ∃ (f : Addr) (fd : FuncData) (ps : List Str), FnG P w K mg base C8.CX0 k f fd ps sp ∧ mg x = some (.ref f) ∧ PySem.W.keepIn K (.ref f) = true ∧ Binds K fd ps []
theorem pe_cG {j : Nat} (c : CalG X.prog X.w X.K X.mg X.base k x sp) (hgd : X.A.guards = some []) (hr : Room j X.A) (hk : k ≤ j) (hg : Gl X x) (ha : PA X (e :: es) t)
    (hdb : (x == ("__debug__" : Str)) = false := by decide) (he : starEach (e :: es) X.env = (false, eval e X.env) :: starEach es X.env := by rfl) (hpl : (backTo pos (starEach es X.env)).any (·.1) = false := by rfl) :
    PE X (.Call (.Name x p) (e :: es) [] pos) (tCall sp [] C8.E0 t) := by
  obtain ⟨f, fd, ps, F, hm, kp, b⟩ := c.ex
  exact pe_callG F hgd (hr.mono hk) hg hm kp b .nil C8.pass0 ha hdb he hpl
end
theorem FunD.okG {K : PySem.W.Frag} {x qual : Str} {params : Arguments} {body : List Stmt} {scope : Scope} {dvs : List V} {kws : List (Str × V)} {f : Addr} {fd : FuncData} {P : Program} {w : World} {mg : Str → Option Value} {base : Heap} {CX : CXT} {N ps : List Str} {k : Nat} {sp : Sp} (F : FunD K x qual params body scope dvs kws f fd) (S : FnScope N ps scope) (len : ∀ vs H Q E, sp vs H Q E → vs.length = ps.length)
    (hbody : ∀ (cdv : Value) (A : Around) (outer : List Env) (s : Shared) (H : Hp) (vs : List V) (Q : VK) (E : XK), (A.deeper (envOfC qual scope s.heap.objs.size f cdv)).guards = some [] → Room k (A.deeper (envOfC qual scope s.heap.objs.size f cdv)) → sp vs H Q E →
      ∃ t, PSs (cxOf CX P w K mg base N qual scope f cdv A outer s H E).nox body t ∧ t { nx := fun _ H' => Q .non H', rt := Q } (start N vs) H) : FnG P w K mg base CX (k + 1) f fd ps sp := by
  obtain ⟨oc, od, dV, kV, doc, pm, an, cdv, ct, osl, rfl, lk, hcd, _⟩ := F.ex
  refine fnG_of lk hcd S len fun A outer s H vs Q E hg hr hsp => ?_
  obtain ⟨t, h, q⟩ := hbody cdv A outer s H vs Q E hg hr hsp
  exact ⟨t, h.nox, q⟩
theorem law_callG {P : Program} {w : World} {K : PySem.W.Frag} {mg mb : Str → Option Value} {CX : CXT} {k : Nat} {fa a : Addr} {fd : FuncData} {x : Str} {sp : Sp} {s₁ : Shared} {vs : List Value} {ns : List Int}
    (KX : K.In s₁.heap) (hns : s₁.heap.Ns mainGlobals mg) (hb : s₁.heap.Ns builtinsNs mb) (hbb : ∀ x : Str, x ≠ "__name__" → mb x = bootBuiltins x) (hlim : s₁.heap.NoLimit) (hg : s₁.gens = #[])
    (ha : s₁.heap.get? a = some { cls := .type "list", data := .seq vs.toArray }) (hi : IntsAre vs ns) (hl : ns.length ≤ sizeLine) (hr : Room k callerA)
    (F : ∀ base : Heap, K.In base → base.Ns mainGlobals mg → FnG P w K mg base CX k fa fd [x] sp) (hbind : ∀ (s : Shared) (u : Value), BindsTo s fd ⟨[u], []⟩ [(x, u)])
    (hsp : ∀ H : Hp, Only H → SqL K H a (ns.map V.int) → sp [.ref a] H (fun v _ => v = .bl true) fun _ _ _ => False)
    (hCX : ∀ H e s', CX [] H s₁ (fun _ _ _ => False) e s' → False) :
    codeAny (model P w) callerA (.call (.ref fa) ⟨[.ref a], []⟩) (fun r s' => r = .ok (.ret (.bool true)) ∧ OldK s₁.heap s'.heap ∧ s'.os = s₁.os ∧ AllBare s'.gens) s₁ := by
  have rv := vals_ints hi
  have lenV := hi.length
  -- from an abstract heap in which nothing but the script may be tracked
  have core : ∀ H : Hp, Only H → SqL K H a (ns.map V.int) → HOk P w H s₁.heap → (∀ b, H b ≠ none → b = a) → (H a ≠ none → K.lookup a = none) →
      codeAny (model P w) callerA (.call (.ref fa) ⟨[.ref a], []⟩) (fun r s' => r = .ok (.ret (.bool true)) ∧ OldK s₁.heap s'.heap ∧ s'.os = s₁.os ∧ AllBare s'.gens) s₁ := by
    intro H hO hS hok hA hK
    have base_of : ∀ {b : Addr} {o : Obj}, s₁.heap.get? b = some o → H b = none → (hidT s₁.heap H).get? b = some o := fun e n => hidT_get e n
    have noA : ∀ {b : Addr} {o : Obj} {es : Array DictEntry} {ep : Nat}, s₁.heap.get? b = some o → o.data = .dict es ep → H b = none := fun {b o es ep} e d => by
      cases q : H b with
      | none => rfl
      | some u =>
        have e' : b = a := hA b (by rw [q]; simp)
        subst e'
        rw [ha] at e; cases e
        have d' : Data.seq vs.toArray _ = Data.dict es ep := d
        cases d'
    have nsK : ∀ {b : Addr} {m : Str → Option Value}, s₁.heap.Ns b m → (hidT s₁.heap H).Ns b m := fun {b m} ⟨o, es, ep, e, d, r⟩ => ⟨o, es, ep, base_of e (noA e d), d, r⟩
    have hKb : K.In (hidT s₁.heap H) := fun b o e => base_of (KX b o e) (by
      cases q : H b with
      | none => rfl
      | some u =>
        have e' : b = a := hA b (by rw [q]; simp)
        subst e'
        rw [hK (by rw [q]; simp)] at e; cases e)
    have hM : Mod K mg (hidT s₁.heap H) := ⟨hKb, nsK hns, ⟨mb, nsK hb, hbb⟩, let ⟨mc, h1, h2⟩ := hlim; ⟨mc, nsK h1, h2⟩⟩
    have e0 : Env0 P w K mg (hidT s₁.heap H) callerA [] s₁ H := ⟨rfl, hM, fun b o e => of_hidT e, Nat.le_of_eq (hidT_size _ _), trivial, fun b hb => absurd (show b ∈ ([] : List Addr) from hb) (by simp), hok, .of_eq hg⟩
    refine codeAny_mono ((F _ hKb (nsK hns)).run callerA [] s₁ H ⟨[.ref a], []⟩ [.ref a] [.ref a] _ _ rfl hr e0 (hbind s₁ (.ref a)) (.cons rfl .nil) (hsp H hO hS)) fun r s' h => ?_
    cases r with
    | error e => exact (hCX H e s' h).elim
    | ok fl =>
      cases fl with
      | next => exact False.elim h
      | brk => exact False.elim h
      | cont => exact False.elim h
      | ret u =>
        obtain ⟨v, H', os, bare, un, hok', r', q⟩ := h
        have q' : v = .bl true := q
        subst q'
        obtain rfl : u = Value.bool true := r'
        refine ⟨rfl, OldK.of_keep fun b o e => ?_, os, bare⟩
        cases q : H b with
        | none => exact un.keep b o e q (by intro z; exact absurd (show b ∈ ([] : List Addr) from z) (by simp)) (by simp)
        | some u =>
          rcases hO b with z | ⟨ob, xs, z⟩
          · rw [q] at z; cases z
          · have z2 := un.frzs b ob _ z
            obtain ⟨e1, _⟩ := hok b _ z
            obtain ⟨e2, _⟩ := hok' b _ z2
            rw [e] at e1; cases e1
            exact e2
  cases hk : K.lookup a with
  | some o =>
    -- the script is one of the module's own objects
    have e := KX a o hk
    rw [ha] at e
    cases e
    refine core (fun _ => none) (fun _ => .inl rfl) (.inr ⟨_, vs.toArray, _, hk, rfl, rfl, rfl, by rw [List.size_toArray, lenV]; exact hl, by simpa using rv⟩) (fun b u z => by have z' : (none : Option HO) = some u := z; cases z') (fun b z => absurd rfl z) fun z => absurd rfl z
  | none =>
    refine core (fun b => if b = a then some (.frz { cls := .type "list", data := .seq vs.toArray } (.lst (ns.map V.int))) else none) (fun b => ?_) (.inl (.inr ⟨{ cls := .type "list", data := .seq vs.toArray }, if_pos rfl⟩)) (fun b u z => ?_) (fun b z => ?_) fun _ => hk
    · by_cases hb : b = a
      · exact .inr ⟨_, _, if_pos hb⟩
      · exact .inl (if_neg hb)
    · by_cases hb : b = a
      · have z' := (if_pos hb).symm.trans z
        cases z'
        subst hb
        exact ⟨ha, by rw [List.length_map]; exact hl, vs, _, rv, ha⟩
      · have z' := (if_neg hb).symm.trans z
        cases z'
    · by_cases hb : b = a
      · exact hb
      · exact absurd (if_neg hb) z
theorem walk_ofEG {l : PySem.W.OpenLaw} {n k : Nat} {q : Program} {loose : List Str} {XP : (Str → Option Value) → Heap → Prop} {YP : World → Heap → Prop} {d : DefRec} {CX : CXT} {x : Str}
    (hn : l.most = some n) (hn2 : n ≤ sizeLine) (hdf : d.params.defaults = []) (hr : Room k callerA)
    (F : ∀ (w : World) (mg : Str → Option Value) (fa : Addr) (h : Heap), YP w h → h.Ns mainGlobals mg → mg d.name = some (.ref fa) →
      ∃ (K : PySem.W.Frag) (fd : FuncData) (sp : Sp), K.In h ∧ (∀ (s : Shared) (u : Value), BindsTo s fd ⟨[u], []⟩ [(x, u)]) ∧
        (∀ (H : Hp) (a : Addr) (ns : List Int), ns.length ≤ n → Only H → SqL K H a (ns.map V.int) → sp [.ref a] H (fun v _ => v = .bl true) fun _ _ _ => False) ∧
        ∀ base : Heap, K.In base → base.Ns mainGlobals mg → FnG l.prog w K mg base CX k fa fd [x] sp)
    (hCX : ∀ (H : Hp) (s : Shared) (e : Value) (s' : Shared), CX [] H s (fun _ _ _ => False) e s' → False) :
    PySem.W.WalkO q loose XP YP l.row.toRowW d [] (fun f vs => PySem.call f vs) := by
  refine Att.attach_call hn hdf fun w s₀ s₁ mg mb fa o pm cd doc a vs ns G Y ho hd hcd hmg hobj hints hlen hg => ?_
  obtain ⟨K, fd, sp, KX, hb, hsp, hF⟩ := F w mg fa _ Y G.T.g hmg
  exact law_callG KX G.T.g G.T.b G.T.builtins G.T.nolimit hg hobj hints (Nat.le_trans hlen hn2) hr hF hb (fun H hO hS => hsp H a ns hlen hO hS) fun H e s' => hCX H s₁ e s'

end CF

/-! text CfReads -/
set_option Elab.async false
set_option linter.all false
set_option maxRecDepth 100000
set_option maxHeartbeats 4000000
/-! the readings of the defs (printed by emit.py) -/
namespace CF
open PySem PySem.Spec PyProof.Rows L2
def r_is_integer (K : PySem.W.Frag) : TS := tRet (tAndV (tCB (rIsi K) (tCons (tVar 0) (tCons (tC (.ty "int")) tNil))) (tNotV (tCB (rIsi K) (tCons (tVar 0) (tCons (tC (.ty "bool")) tNil)))))
def r_is_name (K : PySem.W.Frag) : TS := tSeq (tIfS (tOr (tNot (tB (tCB (rIsi K) (tCons (tVar 0) (tCons (tC (.ty "str")) tNil))))) (tOr (tNot (tTest (tChain rLtI rLeI (tC (.int 0)) (tCB (rLen K) (tCons (tVar 0) tNil)) (tOp rAddI (tC (.int 1)) (tC (.int 3)))))) (tTest (tOp rNotInC (tOp rIxS (tVar 0) (tC (.int 0))) (tC (.str "abcdefghijklmnopqrstuvwyz")))))) (tRet (tC (.bl false))) (tNext)) (tRet (tCB (rAll K) (tCons (tLc (iStr (tSl C8.rSlX (tVar 0) (tPart (tC (.int 1))) tNoPart)) (gName 1) (tYes) (tOp rInC (tVar 1) (tC (.str "0123456789"))) [1]) tNil)))
def r_are_names (K : PySem.W.Frag) (sp_is_name : Sp) : TS := tSeq (tIfS (tOr (tNot (tB (tCB (rIsi K) (tCons (tVar 0) (tCons (tC (.ty "tuple")) tNil))))) (tNot (tTest (tChain rLeI rLeI (tVar 1) (tCB (rLen K) (tCons (tVar 0) tNil)) (tVar 2))))) (tRet (tC (.bl false))) (tNext)) (tRet (tCB (rAll K) (tCons (tLc (iTup K (tVar 0)) (gName 3) (tYes) (tCall sp_is_name [] C8.E0 (tCons (tVar 3) tNil)) [3]) tNil)))
def r_is_word (K : PySem.W.Frag) (sp_are_names : Sp) : TS := tRet (tCall sp_are_names [] C8.E0 (tCons (tVar 0) (tCons (tC (.int 0)) (tCons (tC (.int 3)) tNil))))
def r_is_test (K : PySem.W.Frag) (sp_are_names : Sp) : TS := tRet (tCall sp_are_names [] C8.E0 (tCons (tVar 0) (tCons (tC (.int 1)) (tCons (tOp rAddI (tC (.int 1)) (tC (.int 3))) tNil))))
def r_applied (K : PySem.W.Frag) : TS := tSeq (tAsg (tVar 1) (gName 2)) (tSeq (tFor (iTup K (tRevT K (tVar 0))) (gName 3) (tAsg (tJoined [tFmt (tVar 3), tC (.str "("), tFmt (tVar 2), tC (.str ")")]) (gName 2))) (tRet (tVar 2)))
def r_is_count (K : PySem.W.Frag) (sp_is_integer : Sp) : TS := tRet (tAndV (tCall sp_is_integer [] C8.E0 (tCons (tVar 0) tNil)) (tChain rLeI rLeI (tVar 1) (tVar 0) (tC (.int 9))))
def r_is_detail (K : PySem.W.Frag) (sp_is_word sp_is_test sp_is_count : Sp) : TS := tSeq (tIfS (tTest (tOp rEq (tVar 0) (tC (.str "each")))) (tRet (tCall sp_is_word [] C8.E0 (tCons (tVar 1) tNil))) (tNext)) (tSeq (tIfS (tTest (tOp (rIn K false) (tVar 0) (tC (.ref (He.ga K "TESTED"))))) (tRet (tCall sp_is_test [] C8.E0 (tCons (tVar 1) tNil))) (tNext)) (tSeq (tIfS (tTest (tOp rEq (tVar 0) (tC (.str "turned")))) (tRet (tOp rIsNo (tVar 1) (tC .non))) (tNext)) (tSeq (tIfS (tTest (tOp rEq (tVar 0) (tC (.str "every")))) (tRet (tAndV (tCB (rIsi K) (tCons (tVar 1) (tCons (tC (.ty "tuple")) tNil))) (tAndV (tOp rEq (tCB (rLen K) (tCons (tVar 1) tNil)) (tC (.int 2))) (tAndV (tCall sp_is_count [] C8.E0 (tCons (tOp (rIxT K) (tVar 1) (tC (.int 0))) (tCons (tC (.int 1)) tNil))) (tCall sp_is_count [] C8.E0 (tCons (tOp (rIxT K) (tVar 1) (tC (.int 1))) (tCons (tC (.int 0)) tNil))))))) (tNext)) (tRet (tCall sp_is_count [] C8.E0 (tCons (tVar 1) (tCons (tIf (tTest (tOp (rIn K false) (tVar 0) (tTup (tCons (tC (.str "first")) (tCons (tC (.str "skip")) tNil))))) (tC (.int 0)) (tC (.int 1))) tNil)))))))
def r_comprehension (K : PySem.W.Frag) (sp_applied : Sp) : TS := tSeq (tAsg (tCall sp_applied [] C8.E0 (tCons (tVar 1) (tCons (tC (.str "x")) tNil))) (gName 2)) (tSeq (tIfS (tTest (tOp rEq (tVar 0) (tC (.str "each")))) (tRet (tJoined [tFmt (tVar 2), tC (.str " for x in rows")])) (tNext)) (tRet (tIf (tTest (tOp rEq (tVar 0) (tC (.str "keep")))) (tJoined [tC (.str "x for x in rows if "), tFmt (tVar 2)]) (tJoined [tC (.str "x for x in rows if not "), tFmt (tVar 2)]))))
def r_call (K : PySem.W.Frag) (sp_applied : Sp) : TS := tSeq (tIfS (tTest (tOp (rIn K false) (tVar 0) (tTup (tCons (tC (.str "while")) (tCons (tC (.str "from")) tNil))))) (tSeq (tAsg (tCall sp_applied [] C8.E0 (tCons (tVar 1) (tCons (tC (.str "x")) tNil))) (gName 2)) (tRet (tIf (tTest (tOp rEq (tVar 0) (tC (.str "while")))) (tJoined [tC (.str "takewhile(lambda x: "), tFmt (tVar 2), tC (.str ", rows)")]) (tJoined [tC (.str "dropwhile(lambda x: "), tFmt (tVar 2), tC (.str ", rows)")])))) (tNext)) (tSeq (tIfS (tTest (tOp rEq (tVar 0) (tC (.str "every")))) (tRet (tJoined [tC (.str "islice(rows, "), tFmt (tOp (rIxT K) (tVar 1) (tC (.int 1))), tC (.str ", None, "), tFmt (tOp (rIxT K) (tVar 1) (tC (.int 0))), tC (.str ")")])) (tNext)) (tRet (tIf (tTest (tOp rEq (tVar 0) (tC (.str "first")))) (tJoined [tC (.str "islice(rows, "), tFmt (tVar 1), tC (.str ")")]) (tJoined [tC (.str "islice(rows, "), tFmt (tVar 1), tC (.str ", None)")]))))
def r_line_of (K : PySem.W.Frag) (sp_comprehension sp_call : Sp) : TS := tSeq (tIfS (tTest (tOp rEq (tVar 0) (tC (.str "turned")))) (tRet (tC (.str "rows = list(rows)[::-1]"))) (tNext)) (tSeq (tIfS (tTest (tOp (rIn K false) (tVar 0) (tC (.ref (He.ga K "LIST_KINDS"))))) (tRet (tIf (tTest (tOp rEq (tVar 0) (tC (.str "last")))) (tJoined [tC (.str "rows = list(rows)[-"), tFmt (tVar 1), tC (.str ":]")]) (tJoined [tC (.str "rows = list(rows)[:-"), tFmt (tVar 1), tC (.str "]")]))) (tNext)) (tSeq (tIfS (tTest (tOp (rIn K false) (tVar 0) (tTup (tCons (tC (.str "each")) (tCons (tC (.str "keep")) (tCons (tC (.str "drop")) tNil)))))) (tSeq (tAsg (tCall sp_comprehension [] C8.E0 (tCons (tVar 0) (tCons (tVar 1) tNil))) (gName 3)) (tRet (tIf (tB (tVar 2)) (tJoined [tC (.str "rows = ["), tFmt (tVar 3), tC (.str "]")]) (tJoined [tC (.str "rows = ("), tFmt (tVar 3), tC (.str ")")])))) (tNext)) (tSeq (tAsg (tCall sp_call [] C8.E0 (tCons (tVar 0) (tCons (tVar 1) tNil))) (gName 3)) (tRet (tIf (tB (tVar 2)) (tJoined [tC (.str "rows = list("), tFmt (tVar 3), tC (.str ")")]) (tJoined [tC (.str "rows = "), tFmt (tVar 3)]))))))
def r_Stage___init__ (K : PySem.W.Frag) (sp_is_detail : Sp) : TS := tSeq (tIfS (tOr (tNot (tB (tCB (rIsi K) (tCons (tVar 1) (tCons (tC (.ty "str")) tNil))))) (tTest (tOp (rIn K true) (tVar 1) (tC (.ref (He.ga K "KINDS")))))) (tNever) (tNext)) (tSeq (tIfS (tNot (tB (tCall sp_is_detail [] C8.E0 (tCons (tVar 1) (tCons (tVar 2) tNil))))) (tNever) (tNext)) (tSeq (tIfS (tNot (tB (tCB (rIsi K) (tCons (tVar 3) (tCons (tC (.ty "bool")) tNil))))) (tNever) (tNext)) (sFld K (tVar 0) (tTup (tCons (tVar 1) (tCons (tVar 2) (tCons (tOrV (tVar 3) (tOp (rIn K false) (tVar 1) (tC (.ref (He.ga K "LIST_KINDS"))))) tNil)))) "fields")))
def r_Stage_kind (K : PySem.W.Frag) : TS := tRet (tOp (rIxT K) (tFld K (tVar 0) "fields") (tC (.int 0)))
def r_Stage_detail (K : PySem.W.Frag) : TS := tRet (tOp (rIxT K) (tFld K (tVar 0) "fields") (tC (.int 1)))
def r_Stage_now (K : PySem.W.Frag) : TS := tRet (tOp (rIxT K) (tFld K (tVar 0) "fields") (tC (.int 2)))
def r_Stage___str__ (K : PySem.W.Frag) (sp_line_of : Sp) : TS := tRet (tCB cStrS (tCons (tCall sp_line_of [] C8.E0 (tCons (tOp (rIxT K) (tFld K (tVar 0) "fields") (tC (.int 0))) (tCons (tOp (rIxT K) (tFld K (tVar 0) "fields") (tC (.int 1))) (tCons (tOp (rIxT K) (tFld K (tVar 0) "fields") (tC (.int 2))) tNil)))) tNil))
def r_Flow___init__ (K : PySem.W.Frag) : TS := tSeq (tFor (iEnumT K (tCons (tVar 1) tNil)) (gTup K 2 (gCons (gName 2) (gCons (gName 3) gNil))) (tIfS (tOr (tTest (tOp rGeI (tVar 2) (tC (.int 8)))) (tNot (tB (tCB (rIsi K) (tCons (tVar 3) (tCons (tC (.ref (He.ga K "Stage"))) tNil)))))) (tNever) (tNext))) (sFld K (tVar 0) (tVar 1) "kept")
def r_Flow_of (K : PySem.W.Frag) (sp_Flow : Sp) : TS := tSeq (tIfS (tNot (tB (tCB (rIsi K) (tCons (tVar 1) (tCons (tC (.ty "tuple")) tNil))))) (tNever) (tNext)) (tRet (tMakeV K (He.ga K "Flow") 0 sp_Flow (tVar 1)))
def r_Flow_stages (K : PySem.W.Frag) : TS := tRet (tFld K (tVar 0) "kept")
def r_Flow_atoms (K : PySem.W.Frag) (sp_Stage_kind sp_Stage_detail : Sp) : TS := tSeq (tAsg (tTup (tCons (tTup tNil) (tCons (tTup tNil) tNil))) (gTup K 2 (gCons (gName 1) (gCons (gName 2) gNil)))) (tSeq (tFor (iTup K (tFld K (tVar 0) "kept")) (gName 3) (tSeq (tIfS (tTest (tOp rEq (tProp (He.ga K "Stage") sp_Stage_kind [] C8.E0 (tVar 3)) (tC (.str "each")))) (tAsg (tOp (rCatA K) (tProp (He.ga K "Stage") sp_Stage_detail [] C8.E0 (tVar 3)) (tVar 2)) (gName 2)) (tNext)) (tIfS (tAnd (tTest (tOp (rIn K false) (tProp (He.ga K "Stage") sp_Stage_kind [] C8.E0 (tVar 3)) (tC (.ref (He.ga K "TESTED"))))) (tTest (tOp (rInDT K true) (tOp (rCatA K) (tProp (He.ga K "Stage") sp_Stage_detail [] C8.E0 (tVar 3)) (tVar 2)) (tVar 1)))) (tAsg (tTup (StX.tStar K (tVar 1) (tCons (tOp (rCatA K) (tProp (He.ga K "Stage") sp_Stage_detail [] C8.E0 (tVar 3)) (tVar 2)) tNil))) (gName 1)) (tNext)))) (tRet (tVar 1)))
def r_Flow___str__ (K : PySem.W.Frag) (sp_str_Stage : Sp) : TS := tRet (tM1 (mJoin K) (tC (.str "\n")) (tLst (StX.tStar K (tLc (iTup K (tFld K (tVar 0) "kept")) (gName 1) (tYes) (tCB (rStrOwn (He.ga K "Stage") sp_str_Stage C8.E0) (tCons (tVar 1) tNil)) [1]) (tCons (tC (.str "return list(rows)")) tNil))))
def r_check_flow (K : PySem.W.Frag) : TS := tIfS (tNot (tB (tCB (rIsi K) (tCons (tVar 0) (tCons (tC (.ref (He.ga K "Flow"))) tNil))))) (tNever) (tNext)
def r_parts_of (K : PySem.W.Frag) (sp_Flow_stages sp_Stage_kind sp_Stage_now : Sp) : TS := tSeq (tPar 1 2 (tCons (tLst tNil) (tCons (tLst tNil) tNil))) (tSeq (tFor (iTup K (tProp (He.ga K "Flow") sp_Flow_stages [] C8.E0 (tVar 0))) (gName 3) (tIfS (tTest (tOp (rIn K false) (tProp (He.ga K "Stage") sp_Stage_kind [] C8.E0 (tVar 3)) (tC (.ref (He.ga K "LIST_KINDS"))))) (tSeq (tAug 1 (tLst (tCons (tVar 2) (tCons (tLst (tCons (tVar 3) tNil)) tNil))) rExt2) (tAsg (tLst tNil) (gName 2))) (tSeq (tAsg (tOp rCat (tVar 2) (tLst (tCons (tVar 3) tNil))) (gName 2)) (tIfS (tB (tProp (He.ga K "Stage") sp_Stage_now [] C8.E0 (tVar 3))) (tSeq (tDrop (tBM K "list" rAppend (tVar 1) (tCons (tVar 2) tNil))) (tAsg (tLst tNil) (gName 2))) (tNext))))) (tSeq (tDrop (tBM K "list" rAppend (tVar 1) (tCons (tVar 2) tNil))) (tRet (tLc (iList K (tVar 1)) (gName 4) (tTest (tOp rGtI (tCB (rLen K) (tCons (tVar 4) tNil)) (tC (.int 0)))) (tVar 4) [4]))))
def r_left_of (K : PySem.W.Frag) (sp_Stage_kind sp_Stage_detail : Sp) : TS := tSeq (tIfS (tTest (tOp rEq (tProp (He.ga K "Stage") sp_Stage_kind [] C8.E0 (tVar 0)) (tC (.str "turned")))) (tRet (tRevL K (tVar 1))) (tNext)) (tSeq (tAsg (tCB cMax (tCons (tC (.int 0)) (tCons (tOp rSubI (tCB (rLen K) (tCons (tVar 1) tNil)) (tProp (He.ga K "Stage") sp_Stage_detail [] C8.E0 (tVar 0))) tNil))) (gName 2)) (tRet (tIf (tTest (tOp rEq (tProp (He.ga K "Stage") sp_Stage_kind [] C8.E0 (tVar 0)) (tC (.str "last")))) (tSl (rSlL K) (tVar 1) (tPart (tVar 2)) tNoPart) (tSl (rSlL K) (tVar 1) tNoPart (tPart (tVar 2))))))
def r_is_counted_in (K : PySem.W.Frag) : TS := tSeq (tIfS (tTest (tOp rEq (tVar 0) (tC (.str "first")))) (tRet (tOp rLeI (tVar 2) (tVar 1))) (tNext)) (tSeq (tIfS (tTest (tOp rEq (tVar 0) (tC (.str "skip")))) (tRet (tOp rGtI (tVar 2) (tVar 1))) (tNext)) (tSeq (tAsg (tVar 1) (gTup K 2 (gCons (gName 3) (gCons (gName 4) gNil)))) (tRet (tAndV (tOp rGtI (tVar 2) (tVar 4)) (tOp rEq (tOp rModI (tOp rSubI (tOp rSubI (tVar 2) (tC (.int 1))) (tVar 4)) (tVar 3)) (tC (.int 0)))))))
def r_Gate___init__ (K : PySem.W.Frag) : TS := tSeq (sFld K (tVar 0) (tVar 1) "stage") (tSeq (sFld K (tVar 0) (tC (.int 0)) "seen") (sFld K (tVar 0) (tC (.bl false)) "is_open"))
def r_Gate_passed (K : PySem.W.Frag) (sp_Stage_detail sp_Stage_kind sp_Teller_behind sp_is_counted_in sp_Teller_is_true : Sp) : TS := tSeq (tPar 3 4 (tCons (tProp (He.ga K "Stage") sp_Stage_kind [] C8.E0 (tFld K (tVar 0) "stage")) (tCons (tProp (He.ga K "Stage") sp_Stage_detail [] C8.E0 (tFld K (tVar 0) "stage")) tNil))) (tSeq (sFldAug K (tVar 0) (tC (.int 1)) rAdd "seen") (tSeq (tIfS (tTest (tOp rEq (tVar 3) (tC (.str "each")))) (tRet (tTup (tCons (tMeth (He.ga K "Teller") "behind" sp_Teller_behind [] C8.E0 (tVar 2) (tCons (tVar 4) (tCons (tVar 1) tNil))) (tCons (tC (.bl true)) (tCons (tC (.bl false)) tNil))))) (tNext)) (tSeq (tIfS (tTest (tOp (rIn K false) (tVar 3) (tC (.ref (He.ga K "COUNTED"))))) (tRet (tTup (tCons (tVar 1) (tCons (tCall sp_is_counted_in [] C8.E0 (tCons (tVar 3) (tCons (tVar 4) (tCons (tFld K (tVar 0) "seen") tNil)))) (tCons (tAndV (tOp rEq (tVar 3) (tC (.str "first"))) (tOp rEq (tFld K (tVar 0) "seen") (tVar 4))) tNil))))) (tNext)) (tSeq (tIfS (tB (tFld K (tVar 0) "is_open")) (tRet (tTup (tCons (tVar 1) (tCons (tC (.bl true)) (tCons (tC (.bl false)) tNil))))) (tNext)) (tSeq (tAsg (tMeth (He.ga K "Teller") "is_true" sp_Teller_is_true [] C8.E0 (tVar 2) (tCons (tVar 4) (tCons (tVar 1) tNil))) (gName 5)) (tSeq (tIfS (tTest (tOp rEq (tVar 3) (tC (.str "from")))) (tSeq (sFld K (tVar 0) (tNotV (tVar 5)) "is_open") (tRet (tTup (tCons (tVar 1) (tCons (tNotV (tVar 5)) (tCons (tC (.bl false)) tNil)))))) (tNext)) (tRet (tTup (tCons (tVar 1) (tCons (tOp rEq (tVar 5) (tOp rNe (tVar 3) (tC (.str "drop")))) (tCons (tAndV (tOp rEq (tVar 3) (tC (.str "while"))) (tNotV (tVar 5))) tNil)))))))))))
def r_played_part (K : PySem.W.Frag) (sp_Gate sp_Stage_kind sp_Stage_detail sp_Gate_passed : Sp) : TS := tSeq (tPar 3 4 (tCons (tLc (iList K (tVar 0)) (gName 11) (tYes) (tMake (He.ga K "Gate") sp_Gate [] C8.E0 (tCons (tVar 11) tNil)) [11]) (tCons (tLst tNil) tNil))) (tSeq (tIfS (tB (tCB (rAny K) (tCons (tLc (iList K (tVar 0)) (gName 11) (tYes) (tAndV (tOp rEq (tProp (He.ga K "Stage") sp_Stage_kind [] C8.E0 (tVar 11)) (tC (.str "first"))) (tOp rEq (tProp (He.ga K "Stage") sp_Stage_detail [] C8.E0 (tVar 11)) (tC (.int 0)))) [11]) tNil))) (tRet (tVar 4)) (tNext)) (tSeq (tFor (iList K (tVar 1)) (gName 5) (tSeq (tPar3 6 7 8 (tCons (tVar 5) (tCons (tC (.bl true)) (tCons (tC (.bl false)) tNil)))) (tSeq (tFor (iList K (tVar 3)) (gName 9) (tIfS (tB (tVar 7)) (tSeq (tAsg (tMeth (He.ga K "Gate") "passed" sp_Gate_passed [] C8.E0 (tVar 9) (tCons (tVar 6) (tCons (tVar 2) tNil))) (gTup K 3 (gCons (gName 6) (gCons (gName 7) (gCons (gName 10) gNil))))) (tAsg (tOrV (tVar 8) (tVar 10)) (gName 8))) (tNext))) (tSeq (tIfS (tB (tVar 7)) (tDrop (tBM K "list" rAppend (tVar 4) (tCons (tVar 6) tNil))) (tNext)) (tIfS (tB (tVar 8)) (tBreak) (tNext)))))) (tRet (tVar 4))))
def r_played (K : PySem.W.Frag) (sp_parts_of sp_Stage_kind sp_left_of sp_played_part : Sp) : TS := tSeq (tAsg (tCB (cLst K) (tCons (tVar 1) tNil)) (gName 3)) (tSeq (tFor (iList K (tCall sp_parts_of [] C8.E0 (tCons (tVar 0) tNil))) (gName 4) (tAsg (tIf (tTest (tOp (rIn K false) (tProp (He.ga K "Stage") sp_Stage_kind [] C8.E0 (tOp (rIxL K) (tVar 4) (tC (.int 0)))) (tC (.ref (He.ga K "LIST_KINDS"))))) (tCall sp_left_of [] C8.E0 (tCons (tOp (rIxL K) (tVar 4) (tC (.int 0))) (tCons (tVar 3) tNil))) (tCall sp_played_part [] C8.E0 (tCons (tVar 4) (tCons (tVar 3) (tCons (tVar 2) tNil))))) (gName 3))) (tRet (tVar 3)))
def r_check_atoms (K : PySem.W.Frag) (sp_are_names : Sp) : TS := tSeq (tIfS (tNot (tB (tCB (rIsi K) (tCons (tVar 0) (tCons (tC (.ty "tuple")) tNil))))) (tNever) (tNext)) (tFor (iEnumT K (tCons (tVar 0) tNil)) (gTup K 2 (gCons (gName 1) (gCons (gName 2) gNil))) (tIfS (tOr (tTest (tOp rEq (tVar 1) (tC (.int 6)))) (tOr (tNot (tB (tCall sp_are_names [] C8.E0 (tCons (tVar 2) (tCons (tC (.int 1)) (tCons (tC (.int 30)) tNil)))))) (tTest (tOp (rInDT K false) (tVar 2) (tSl (rSlA K) (tVar 0) tNoPart (tPart (tVar 1))))))) (tNever) (tNext)))
def r_is_row (K : PySem.W.Frag) : TS := tRet (tAndV (tCB (rIsi K) (tCons (tVar 0) (tCons (tC (.ty "tuple")) tNil))) (tAndV (tOp rEq (tCB (rLen K) (tCons (tVar 0) tNil)) (tVar 1)) (tCB (rAll K) (tCons (tLc (iTup K (tVar 0)) (gName 2) (tYes) (tCB (rIsi K) (tCons (tVar 2) (tCons (tC (.ty "bool")) tNil))) [2]) tNil))))
def r_check_rows (K : PySem.W.Frag) (sp_is_row : Sp) : TS := tSeq (tIfS (tNot (tB (tCB (rIsi K) (tCons (tVar 0) (tCons (tC (.ty "tuple")) tNil))))) (tNever) (tNext)) (tFor (iEnumT K (tCons (tVar 0) tNil)) (gTup K 2 (gCons (gName 2) (gCons (gName 3) gNil))) (tIfS (tNot (tB (tCall sp_is_row [] C8.E0 (tCons (tVar 3) (tCons (tVar 1) tNil))))) (tNever) (tNext)))
def r_term_of (K : PySem.W.Frag) (sp_applied : Sp) : TS := tRet (tCall sp_applied [] C8.E0 (tCons (tVar 1) (tCons (tJoined [tC (.str "x"), tFmt (tVar 0)]) tNil)))
def r_Teller___init__ (K : PySem.W.Frag) : TS := tSeq (sFld K (tVar 0) (tVar 2) "rows_told") (tSeq (sFld K (tVar 0) (tDcT K (iEnumT K (tCons (tVar 1) tNil)) (gTup K 2 (gCons (gName 4) (gCons (gName 3) gNil))) tYes (tVar 3) (tVar 4) [4, 3]) "places") (sFld K (tVar 0) (tLst tNil) "made"))
def r_Teller_behind (K : PySem.W.Frag) (sp_term_of : Sp) : TS := tSeq (tAsg (tVar 2) (gTup K 2 (gCons (gName 3) (gCons (gName 4) gNil)))) (tSeq (tFor (iTup K (tRevT K (tVar 1))) (gName 5) (tSeq (tAsg (tTup (tCons (tVar 5) (StX.tStar K (tVar 4) tNil))) (gName 4)) (tDrop (tBM K "list" rAppend (tFld K (tVar 0) "made") (tCons (tCall sp_term_of [] C8.E0 (tCons (tVar 3) (tCons (tVar 4) tNil))) tNil))))) (tRet (tTup (tCons (tVar 3) (tCons (tVar 4) tNil)))))
def r_Teller_is_true (K : PySem.W.Frag) (sp_Teller_behind : Sp) : TS := tSeq (tAsg (tMeth (He.ga K "Teller") "behind" sp_Teller_behind [] C8.E0 (tVar 0) (tCons (tVar 1) (tCons (tVar 2) tNil))) (gTup K 2 (gCons (gName 3) (gCons (gName 4) gNil)))) (tRet (tOp (rIxT K) (tOp (rIxT K) (tFld K (tVar 0) "rows_told") (tVar 3)) (tDGet (tFld K (tVar 0) "places") (tVar 4))))
def r_Play___init__ (K : PySem.W.Frag) : TS := sFld K (tVar 0) (tTup (tCons (tVar 1) (tCons (tVar 2) tNil))) "shown"
def r_Play_entries (K : PySem.W.Frag) : TS := tRet (tOp (rIxT K) (tFld K (tVar 0) "shown") (tC (.int 0)))
def r_Play_calls (K : PySem.W.Frag) : TS := tRet (tOp (rIxT K) (tFld K (tVar 0) "shown") (tC (.int 1)))
def r_World___init__ (K : PySem.W.Frag) (sp_check_atoms sp_check_rows : Sp) : TS := tSeq (tDrop (tCall sp_check_atoms [] C8.E0 (tCons (tVar 1) tNil))) (tSeq (tDrop (tCall sp_check_rows [] C8.E0 (tCons (tVar 2) (tCons (tCB (rLen K) (tCons (tVar 1) tNil)) tNil)))) (sFld K (tVar 0) (tTup (tCons (tVar 1) (tCons (tVar 2) tNil))) "told"))
def r_World_play (K : PySem.W.Frag) (sp_check_flow sp_Flow_atoms sp_Teller sp_played sp_Play sp_term_of : Sp) : TS := tSeq (tDrop (tCall sp_check_flow [] C8.E0 (tCons (tVar 1) tNil))) (tSeq (tFor (iTup K (tProp (He.ga K "Flow") sp_Flow_atoms [] C8.E0 (tVar 1))) (gName 2) (tIfS (tTest (tOp (rInDT K true) (tVar 2) (tOp (rIxT K) (tFld K (tVar 0) "told") (tC (.int 0))))) (tNever) (tNext))) (tSeq (tAsg (tMake (He.ga K "Teller") sp_Teller [] C8.E0 (tCons (tOp (rIxT K) (tFld K (tVar 0) "told") (tC (.int 0))) (tCons (tOp (rIxT K) (tFld K (tVar 0) "told") (tC (.int 1))) tNil))) (gName 3)) (tSeq (tAsg (tCall sp_played [] C8.E0 (tCons (tVar 1) (tCons (tLc (iRng1 (tCons (tCB (rLen K) (tCons (tOp (rIxT K) (tFld K (tVar 0) "told") (tC (.int 1))) tNil)) tNil)) (gName 5) (tYes) (tTup (tCons (tVar 5) (tCons (tTup tNil) tNil))) [5]) (tCons (tVar 3) tNil)))) (gName 4)) (tRet (tMake (He.ga K "Play") sp_Play [] C8.E0 (tCons (tCB (cTup K) (tCons (tLc (iList K (tVar 4)) (gTup K 2 (gCons (gName 5) (gCons (gName 6) gNil))) (tYes) (tCall sp_term_of [] C8.E0 (tCons (tVar 5) (tCons (tVar 6) tNil))) [5, 6]) tNil)) (tCons (tCB (cTup K) (tCons (tFld K (tVar 3) "made") tNil)) tNil)))))))
def r__law_cell (K : PySem.W.Frag) : TS := tSeq (tIfS (tTest (tOp rLtI (tVar 1) (tCB (rLen K) (tCons (tVar 0) tNil)))) (tRet (tOp (rIxL K) (tVar 0) (tVar 1))) (tNext)) (tSeq (tAsg (tOp rModI (tCB cInt (tCons (tOp rMulI (tC (.int 69497)) (tOp rAddI (tOp rAddI (tOp rMulI (tVar 1) (tVar 1)) (tOp rMulI (tC (.int 11)) (tVar 1))) (tC (.int 23)))) tNil)) (tC (.int 2147483399))) (gName 2)) (tSeq (tFor (iList K (tSl (rSlL K) (tVar 0) tNoPart (tPart (tC (.int 3))))) (gName 3) (tAsg (tOp rModI (tCB cInt (tCons (tOp rAddI (tOp rMulI (tVar 2) (tC (.int 52391))) (tVar 3)) tNil)) (tC (.int 2147483399))) (gName 2))) (tRet (tVar 2))))
def r__law_purse (K : PySem.W.Frag) : TS := tSeq (tAsg (tIf (tOr (tTest (tOp rLtI (tVar 0) (tC (.int 0)))) (tTest (tOp rGeI (tVar 0) (tOp rPowI (tC (.int 10)) (tC (.int 18)))))) (tCB cAbs (tCons (tVar 0) tNil)) (tC (.int 0))) (gName 1)) (tRet (tLst (tCons (tOp rModI (tCB cInt (tCons (tVar 0) tNil)) (tC (.int 2147483399))) (tCons (tVar 1) (tCons (tC (.int 0)) tNil)))))
def r__law_take (K : PySem.W.Frag) : TS := tSeq (tAsg (tOp rAddI (tOp (rIxL K) (tVar 0) (tC (.int 2))) (tC (.int 1))) (gSub (tVar 0) (tC (.int 2)) rSetL)) (tSeq (tAsg (tCB cInt (tCons (tOp (rIxL K) (tVar 0) (tC (.int 0))) tNil)) (gName 2)) (tSeq (tAsg (tOp rMulI (tVar 2) (tOp rAddI (tOp rModI (tCB cInt (tCons (tVar 2) tNil)) (tC (.int 40009))) (tC (.int 28001)))) (gName 3)) (tSeq (tAsg (tOp rModI (tCB cInt (tCons (tOp rAddI (tOp rAddI (tVar 3) (tOp rMulI (tC (.int 91033)) (tOp (rIxL K) (tVar 0) (tC (.int 2))))) (tC (.int 17))) tNil)) (tC (.int 2147483399))) (gSub (tVar 0) (tC (.int 0)) rSetL)) (tSeq (tIfS (tTest (tOp rGtI (tOp (rIxL K) (tVar 0) (tC (.int 1))) (tC (.int 0)))) (tSeq (tAsg (tCB cDvm (tCons (tOp (rIxL K) (tVar 0) (tC (.int 1))) (tCons (tVar 1) tNil))) (gTup K 2 (gCons (gSub (tVar 0) (tC (.int 1)) rSetL) (gCons (gName 4) gNil)))) (tRet (tVar 4))) (tNext)) (tRet (tOp rModI (tCB cInt (tCons (tOp rFdvI (tOp (rIxL K) (tVar 0) (tC (.int 0))) (tC (.int 64))) tNil)) (tVar 1)))))))
def r__law_name (K : PySem.W.Frag) (sp__law_take : Sp) : TS := tSeq (tAsg (tOp rIxS (tC (.str "abcdefghijklmnopqrstuvwyz")) (tCall sp__law_take [] C8.E0 (tCons (tVar 0) (tCons (tC (.int 25)) tNil)))) (gName 1)) (tSeq (tIfS (tTest (tOp rEq (tCall sp__law_take [] C8.E0 (tCons (tVar 0) (tCons (tC (.int 2)) tNil))) (tC (.int 0)))) (tRet (tVar 1)) (tNext)) (tSeq (tAsg (tOp rAddI (tC (.int 1)) (tCall sp__law_take [] C8.E0 (tCons (tVar 0) (tCons (tC (.int 3)) tNil)))) (gName 2)) (tRet (tOp rAddT (tVar 1) (tM1 (mJoin K) (tC (.str "")) (tLc (iRng1 (tCons (tVar 2) tNil)) (gName 3) (tYes) (tOp rIxS (tC (.str "0123456789")) (tCall sp__law_take [] C8.E0 (tCons (tVar 0) (tCons (tC (.int 10)) tNil)))) [3]))))))
def r__law_tags (K : PySem.W.Frag) (sp__law_take sp__law_name : Sp) : TS := tSeq (tPar 1 2 (tCons (tOp rAddI (tC (.int 1)) (tCall sp__law_take [] C8.E0 (tCons (tVar 0) (tCons (tC (.int 4)) tNil)))) (tCons (tOp rEq (tCall sp__law_take [] C8.E0 (tCons (tVar 0) (tCons (tC (.int 3)) tNil))) (tC (.int 0))) tNil))) (tSeq (tAsg (tLc (iRng1 (tCons (tVar 1) tNil)) (gName 4) (tYes) (tCall sp__law_name [] C8.E0 (tCons (tVar 0) tNil)) [4]) (gName 3)) (tRet (tIf (tB (tVar 2)) (tLc (iList K (tVar 3)) (gName 5) (tYes) (tOp rAddT (tOp rIxS (tOp (rIxL K) (tVar 3) (tC (.int 0))) (tC (.int 0))) (tSl C8.rSlX (tVar 5) (tPart (tC (.int 1))) tNoPart)) [5]) (tVar 3))))
def r__law_labels (K : PySem.W.Frag) : TS := tRet (tLst (tCons (tC (.str "each")) (tCons (tC (.str "keep")) (tCons (tC (.str "drop")) (tCons (tC (.str "while")) (tCons (tC (.str "from")) (tCons (tC (.str "first")) (tCons (tC (.str "skip")) (tCons (tC (.str "every")) (tCons (tC (.str "last")) (tCons (tC (.str "but last")) (tCons (tC (.str "turned")) tNil))))))))))))
def r__law_detail (K : PySem.W.Frag) (sp__law_take : Sp) : TS := tSeq (tIfS (tTest (tOp rEq (tVar 2) (tC (.str "turned")))) (tRet (tC .non)) (tNext)) (tSeq (tAsg (tOp rGtI (tCall sp__law_take [] C8.E0 (tCons (tVar 0) (tCons (tC (.int 3)) tNil))) (tC (.int 0))) (gName 3)) (tSeq (tIfS (tTest (tOp rEq (tVar 2) (tC (.str "every")))) (tSeq (tAsg (tOp rAddI (tC (.int 1)) (tCall sp__law_take [] C8.E0 (tCons (tVar 0) (tCons (tIf (tB (tVar 3)) (tC (.int 3)) (tC (.int 9))) tNil)))) (gName 4)) (tRet (tTup (tCons (tVar 4) (tCons (tCall sp__law_take [] C8.E0 (tCons (tVar 0) (tCons (tIf (tB (tVar 3)) (tC (.int 4)) (tC (.int 10))) tNil))) tNil))))) (tNext)) (tSeq (tIfS (tTest (tOp (rIn K false) (tVar 2) (tLst (tCons (tC (.str "first")) (tCons (tC (.str "skip")) tNil))))) (tRet (tCall sp__law_take [] C8.E0 (tCons (tVar 0) (tCons (tIf (tB (tVar 3)) (tC (.int 4)) (tC (.int 10))) tNil)))) (tNext)) (tSeq (tIfS (tTest (tOp (rIn K false) (tVar 2) (tLst (tCons (tC (.str "last")) (tCons (tC (.str "but last")) tNil))))) (tRet (tOp rAddI (tC (.int 1)) (tCall sp__law_take [] C8.E0 (tCons (tVar 0) (tCons (tIf (tB (tVar 3)) (tC (.int 3)) (tC (.int 9))) tNil))))) (tNext)) (tSeq (tAsg (tOp rAddI (tCall sp__law_take [] C8.E0 (tCons (tVar 0) (tCons (tIf (tB (tVar 3)) (tC (.int 2)) (tC (.int 4))) tNil))) (tCB cInt (tCons (tOp rNe (tVar 2) (tC (.str "each"))) tNil))) (gName 5)) (tRet (tCB (cTup K) (tCons (tLc (iRng1 (tCons (tVar 5) tNil)) (gName 6) (tYes) (tOp (rIxL K) (tVar 1) (tCall sp__law_take [] C8.E0 (tCons (tVar 0) (tCons (tCB (rLen K) (tCons (tVar 1) tNil)) tNil)))) [6]) tNil))))))))
def r__law_part (K : PySem.W.Frag) (sp__law_labels sp__law_take sp__law_detail : Sp) : TS := tSeq (tAsg (tOp (rIxL K) (tCall sp__law_labels [] C8.E0 tNil) (tCall sp__law_take [] C8.E0 (tCons (tVar 0) (tCons (tC (.int 11)) tNil)))) (gName 2)) (tSeq (tAsg (tCall sp__law_detail [] C8.E0 (tCons (tVar 0) (tCons (tVar 1) (tCons (tVar 2) tNil)))) (gName 3)) (tRet (tTup (tCons (tVar 2) (tCons (tVar 3) (tCons (tOrV (tOp rEq (tCall sp__law_take [] C8.E0 (tCons (tVar 0) (tCons (tC (.int 2)) tNil))) (tC (.int 1))) (tOp (rIn K false) (tVar 2) (tLst (tCons (tC (.str "last")) (tCons (tC (.str "but last")) (tCons (tC (.str "turned")) tNil)))))) tNil))))))
def r__law_stage (K : PySem.W.Frag) (sp_Stage : Sp) (gv_Stage2 : List V → List V → List V) : TS := tRet (tMakeN (He.ga K "Stage") 2 (["now"] : List Str).length sp_Stage gv_Stage2 C8.E0 (tCons (tOp (rIxT K) (tVar 0) (tC (.int 0))) (tCons (tOp (rIxT K) (tVar 0) (tC (.int 1))) tNil)) (tCons (tOp (rIxT K) (tVar 0) (tC (.int 2))) tNil))
def r__law_flow (K : PySem.W.Frag) (sp_Flow_of sp__law_stage : Sp) : TS := tRet (ClX.tCMeth (He.ga K "Flow") sp_Flow_of C8.E0 (tC (.ref (He.ga K "Flow"))) (tCons (tCB (cTup K) (tCons (tLc (iList K (tVar 0)) (gName 1) (tYes) (tCall sp__law_stage [] C8.E0 (tCons (tVar 1) tNil)) [1]) tNil)) tNil))
def r__law_atoms (K : PySem.W.Frag) : TS := tSeq (tPar 1 2 (tCons (tLst tNil) (tCons (tTup tNil) tNil))) (tSeq (tFor (iList K (tVar 0)) (gName 3) (tSeq (tIfS (tTest (tOp rEq (tOp (rIxT K) (tVar 3) (tC (.int 0))) (tC (.str "each")))) (tAsg (tOp (rCatA K) (tOp (rIxT K) (tVar 3) (tC (.int 1))) (tVar 2)) (gName 2)) (tNext)) (tIfS (tAnd (tTest (tOp (rIn K false) (tOp (rIxT K) (tVar 3) (tC (.int 0))) (tLst (tCons (tC (.str "keep")) (tCons (tC (.str "drop")) (tCons (tC (.str "while")) (tCons (tC (.str "from")) tNil))))))) (tTest (tOp (rNotInD K) (tOp (rCatA K) (tOp (rIxT K) (tVar 3) (tC (.int 1))) (tVar 2)) (tVar 1)))) (tDrop (tBM K "list" rAppend (tVar 1) (tCons (tOp (rCatA K) (tOp (rIxT K) (tVar 3) (tC (.int 1))) (tVar 2)) tNil))) (tNext)))) (tRet (tCB (cTupF K) (tCons (tVar 1) tNil))))
def r__law_few (K : PySem.W.Frag) (sp__law_atoms : Sp) : TS := tSeq (tWhile (tTest (tOp rGtI (tCB (rLen K) (tCons (tCall sp__law_atoms [] C8.E0 (tCons (tVar 0) tNil)) tNil)) (tC (.int 6)))) (tAsg (tSl (rSlL K) (tVar 0) tNoPart (tPart (tUn (rU fun i => .int (-i)) (tC (.int 1))))) (gName 0))) (tRet (tVar 0))
def r__law_asked (K : PySem.W.Frag) (sp__law_labels sp__law_take sp__law_detail : Sp) : TS := tSeq (tAsg (tOp (rIxL K) (tCall sp__law_labels [] C8.E0 tNil) (tCall sp__law_take [] C8.E0 (tCons (tVar 0) (tCons (tC (.int 8)) tNil)))) (gName 2)) (tSeq (tAsg (tCall sp__law_detail [] C8.E0 (tCons (tVar 0) (tCons (tVar 1) (tCons (tVar 2) tNil)))) (gName 3)) (tRet (tTup (tCons (tVar 2) (tCons (tVar 3) (tCons (tOp rEq (tCall sp__law_take [] C8.E0 (tCons (tVar 0) (tCons (tC (.int 5)) tNil))) (tC (.int 0))) tNil))))))
def r__law_playable (K : PySem.W.Frag) (sp__law_take sp__law_tags sp__law_few sp__law_part sp__law_asked : Sp) : TS := tSeq (tAsg (tTup (tCons (tCall sp__law_tags [] C8.E0 (tCons (tVar 0) tNil)) (tCons (tCall sp__law_take [] C8.E0 (tCons (tVar 0) (tCons (tC (.int 9)) tNil))) tNil))) (gTup K 2 (gCons (gName 1) (gCons (gName 2) gNil)))) (tSeq (tIfS (tTest (tOp rEq (tCall sp__law_take [] C8.E0 (tCons (tVar 0) (tCons (tC (.int 2)) tNil))) (tC (.int 0)))) (tRet (tCall sp__law_few [] C8.E0 (tCons (tLc (iRng1 (tCons (tVar 2) tNil)) (gName 3) (tYes) (tCall sp__law_part [] C8.E0 (tCons (tVar 0) (tCons (tVar 1) tNil))) [3]) tNil))) (tNext)) (tRet (tCall sp__law_few [] C8.E0 (tCons (tLc (iRng1 (tCons (tVar 2) tNil)) (gName 3) (tYes) (tCall sp__law_asked [] C8.E0 (tCons (tVar 0) (tCons (tVar 1) tNil))) [3]) tNil))))
def r__law_truths (K : PySem.W.Frag) (sp__law_take : Sp) : TS := tRet (tCB (cTup K) (tCons (tLc (iRng1 (tCons (tVar 1) tNil)) (gName 2) (tYes) (tOp rEq (tCall sp__law_take [] C8.E0 (tCons (tVar 0) (tCons (tC (.int 2)) tNil))) (tC (.int 0))) [2]) tNil))
def r__law_apply (K : PySem.W.Frag) (sp__law_answer : Sp) : TS := tSeq (tFor (iTup K (tRevT K (tVar 1))) (gName 3) (tAsg (tCall sp__law_answer [] C8.E0 (tCons (tVar 0) (tCons (tVar 3) (tCons (tVar 2) tNil)))) (gName 2))) (tRet (tVar 2))
def r__law_passes (K : PySem.W.Frag) (sp__law_truth sp__law_apply : Sp) : TS := tSeq (tFor (iList K (tVar 1)) (gTup K 2 (gCons (gName 3) (gCons (gName 4) gNil))) (tIfS (tTest (tOp rNe (tCall sp__law_truth [] C8.E0 (tCons (tVar 0) (tCons (tCall sp__law_apply [] C8.E0 (tCons (tVar 0) (tCons (tVar 3) (tCons (tVar 2) tNil)))) tNil))) (tVar 4))) (tRet (tC (.bl false))) (tNext))) (tRet (tC (.bl true)))
def r__law_pull (K : PySem.W.Frag) (sp__law_pull_slice sp__law_pull sp__law_passes sp__law_apply : Sp) : TS := tSeq (tAsg (tOp (rIxL K) (tVar 1) (tC (.int 0))) (gName 2)) (tSeq (tIfS (tTest (tOp rEq (tVar 2) (tC (.str "list")))) (tSeq (tAsg (tOp rAddI (tOp (rIxL K) (tVar 1) (tC (.int 2))) (tC (.int 1))) (gSub (tVar 1) (tC (.int 2)) rSetL)) (tRet (tSl (rSlL K) (tOp (rIxL K) (tVar 1) (tC (.int 1))) (tPart (tOp rSubI (tOp (rIxL K) (tVar 1) (tC (.int 2))) (tC (.int 1)))) (tPart (tOp (rIxL K) (tVar 1) (tC (.int 2))))))) (tNext)) (tSeq (tIfS (tTest (tOp rEq (tVar 2) (tC (.str "islice")))) (tRet (tCall sp__law_pull_slice [] C8.E0 (tCons (tVar 0) (tCons (tVar 1) tNil)))) (tNext)) (tSeq (tIfS (tAnd (tTest (tOp rEq (tVar 2) (tC (.str "takewhile")))) (tB (tOp (rIxL K) (tVar 1) (tC (.int 3))))) (tRet (tLst tNil)) (tNext)) (tSeq (tAsg (tCall sp__law_pull [] C8.E0 (tCons (tVar 0) (tCons (tOp (rIxL K) (tVar 1) (tC (.int 1))) tNil))) (gName 3)) (tSeq (tIfS (tTest (tOp rEq (tVar 2) (tC (.str "takewhile")))) (tSeq (tAsg (tAndV (tOp (rNeD K) (tVar 3) (tLst tNil)) (tNotV (tCall sp__law_passes [] C8.E0 (tCons (tVar 0) (tCons (tOp (rIxL K) (tVar 1) (tC (.int 2))) (tCons (tOp (rIxL K) (tVar 3) (tC (.int 0))) tNil)))))) (gSub (tVar 1) (tC (.int 3)) rSetL)) (tRet (tIf (tB (tOp (rIxL K) (tVar 1) (tC (.int 3)))) (tLst tNil) (tVar 3)))) (tNext)) (tSeq (tIfS (tTest (tOp rEq (tVar 2) (tC (.str "dropwhile")))) (tSeq (tWhile (tAnd (tTest (tOp (rNeD K) (tVar 3) (tLst tNil))) (tNot (tB (tOp (rIxL K) (tVar 1) (tC (.int 3)))))) (tSeq (tAsg (tNotV (tCall sp__law_passes [] C8.E0 (tCons (tVar 0) (tCons (tOp (rIxL K) (tVar 1) (tC (.int 2))) (tCons (tOp (rIxL K) (tVar 3) (tC (.int 0))) tNil))))) (gSub (tVar 1) (tC (.int 3)) rSetL)) (tAsg (tIf (tB (tOp (rIxL K) (tVar 1) (tC (.int 3)))) (tVar 3) (tCall sp__law_pull [] C8.E0 (tCons (tVar 0) (tCons (tOp (rIxL K) (tVar 1) (tC (.int 1))) tNil)))) (gName 3)))) (tRet (tVar 3))) (tNext)) (tSeq (tWhile (tAnd (tTest (tOp (rNeD K) (tVar 3) (tLst tNil))) (tNot (tB (tCall sp__law_passes [] C8.E0 (tCons (tVar 0) (tCons (tOp (rIxL K) (tVar 1) (tC (.int 2))) (tCons (tOp (rIxL K) (tVar 3) (tC (.int 0))) tNil))))))) (tAsg (tCall sp__law_pull [] C8.E0 (tCons (tVar 0) (tCons (tOp (rIxL K) (tVar 1) (tC (.int 1))) tNil))) (gName 3))) (tRet (tIf (tTest (tOp (rNeD K) (tVar 3) (tLst tNil))) (tLst (tCons (tCall sp__law_apply [] C8.E0 (tCons (tVar 0) (tCons (tOp (rIxL K) (tVar 1) (tC (.int 3))) (tCons (tOp (rIxL K) (tVar 3) (tC (.int 0))) tNil)))) tNil)) (tLst tNil))))))))))
def r__law_pull_slice (K : PySem.W.Frag) (sp__law_pull : Sp) : TS := tSeq (tWhile (tTest (tOp rLtI (tOp (rIxL K) (tVar 1) (tC (.int 2))) (tOp (rIxL K) (tVar 1) (tC (.int 3))))) (tSeq (tIfS (tTest (tOp (rEqD K) (tCall sp__law_pull [] C8.E0 (tCons (tVar 0) (tCons (tOp (rIxL K) (tVar 1) (tC (.int 1))) tNil))) (tLst tNil))) (tRet (tLst tNil)) (tNext)) (tAsg (tOp rAddI (tOp (rIxL K) (tVar 1) (tC (.int 2))) (tC (.int 1))) (gSub (tVar 1) (tC (.int 2)) rSetL)))) (tSeq (tIfS (tAnd (tTest (tOp rNotNo (tOp (rIxL K) (tVar 1) (tC (.int 4))) (tC .non))) (tTest (tOp rGeI (tOp (rIxL K) (tVar 1) (tC (.int 2))) (tOp (rIxL K) (tVar 1) (tC (.int 4)))))) (tRet (tLst tNil)) (tNext)) (tSeq (tAsg (tCall sp__law_pull [] C8.E0 (tCons (tVar 0) (tCons (tOp (rIxL K) (tVar 1) (tC (.int 1))) tNil))) (gName 2)) (tSeq (tAsg (tTup (tCons (tOp rAddI (tOp (rIxL K) (tVar 1) (tC (.int 2))) (tC (.int 1))) (tCons (tOp rAddI (tOp (rIxL K) (tVar 1) (tC (.int 3))) (tOp (rIxL K) (tVar 1) (tC (.int 5)))) tNil))) (gTup K 2 (gCons (gSub (tVar 1) (tC (.int 2)) rSetL) (gCons (gSub (tVar 1) (tC (.int 3)) rSetL) gNil)))) (tRet (tVar 2)))))
def r__law_all (K : PySem.W.Frag) (sp__law_pull : Sp) : TS := tSeq (tPar 2 3 (tCons (tLst tNil) (tCons (tCall sp__law_pull [] C8.E0 (tCons (tVar 0) (tCons (tVar 1) tNil))) tNil))) (tSeq (tWhile (tTest (tOp (rNeD K) (tVar 3) (tLst tNil))) (tPar 2 3 (tCons (tOp rCat (tVar 2) (tVar 3)) (tCons (tCall sp__law_pull [] C8.E0 (tCons (tVar 0) (tCons (tVar 1) tNil))) tNil)))) (tRet (tVar 2)))
def r__law_names_of (K : PySem.W.Frag) : TS := tRet (tCB (cTup K) (tCons (tSl (rSlL K) (tM1 mSplit (tVar 0) (tC (.str "("))) tNoPart (tPart (tUn (rU fun i => .int (-i)) (tC (.int 1))))) tNil))
def r__law_call_begun (K : PySem.W.Frag) (sp__law_names_of : Sp) : TS := tSeq (tAsg (tSl C8.rSlX (tVar 0) tNoPart (tPart (tM1 mFind (tVar 0) (tC (.str "("))))) (gName 2)) (tSeq (tAsg (tSl C8.rSlX (tVar 0) (tPart (tOp rAddI (tCB (rLen K) (tCons (tVar 2) tNil)) (tC (.int 1)))) (tPart (tUn (rU fun i => .int (-i)) (tC (.int 1))))) (gName 3)) (tSeq (tIfS (tTest (tOp rEq (tVar 2) (tC (.str "islice")))) (tSeq (tAsg (tSl (rSlL K) (tM1 mSplit (tVar 3) (tC (.str ", "))) (tPart (tC (.int 1))) tNoPart) (gName 4)) (tSeq (tIfS (tTest (tOp rEq (tCB (rLen K) (tCons (tVar 4) tNil)) (tC (.int 1)))) (tRet (tLst (tCons (tC (.str "islice")) (tCons (tVar 1) (tCons (tC (.int 0)) (tCons (tC (.int 0)) (tCons (tCB cIntS (tCons (tOp (rIxL K) (tVar 4) (tC (.int 0))) tNil)) (tCons (tC (.int 1)) tNil)))))))) (tNext)) (tRet (tLst (tCons (tC (.str "islice")) (tCons (tVar 1) (tCons (tC (.int 0)) (tCons (tCB cIntS (tCons (tOp (rIxL K) (tVar 4) (tC (.int 0))) tNil)) (tCons (tC .non) (tCons (tIf (tTest (tOp rEq (tCB (rLen K) (tCons (tVar 4) tNil)) (tC (.int 3)))) (tCB cIntS (tCons (tOp (rIxL K) (tVar 4) (tC (.int 2))) tNil)) (tC (.int 1))) tNil)))))))))) (tNext)) (tSeq (tAsg (tSl C8.rSlX (tVar 3) tNoPart (tPart (tUn (rU fun i => .int (-i)) (tC (.int 6))))) (gName 5)) (tSeq (tAsg (tIf (tTest (tOp rEq (tSl C8.rSlX (tVar 5) tNoPart (tPart (tC (.int 10)))) (tC (.str "lambda x: ")))) (tCall sp__law_names_of [] C8.E0 (tCons (tSl C8.rSlX (tVar 5) (tPart (tC (.int 10))) tNoPart) tNil)) (tTup (tCons (tVar 5) tNil))) (gName 6)) (tSeq (tIfS (tTest (tOp rEq (tVar 2) (tC (.str "map")))) (tRet (tLst (tCons (tC (.str "rows")) (tCons (tVar 1) (tCons (tLst tNil) (tCons (tVar 6) tNil)))))) (tNext)) (tSeq (tAsg (tLst (tCons (tTup (tCons (tVar 6) (tCons (tC (.bl true)) tNil))) tNil)) (gName 7)) (tRet (tIf (tTest (tOp rEq (tVar 2) (tC (.str "filter")))) (tLst (tCons (tC (.str "rows")) (tCons (tVar 1) (tCons (tVar 7) (tCons (tTup tNil) tNil))))) (tLst (tCons (tVar 2) (tCons (tVar 1) (tCons (tVar 7) (tCons (tC (.bl false)) tNil)))))))))))))
def r__law_line_done (K : PySem.W.Frag) (sp__law_all sp__law_names_of sp__law_call_begun : Sp) : TS := tSeq (tIfS (tTest (tOp rEq (tSl C8.rSlX (tVar 1) tNoPart (tPart (tC (.int 17)))) (tC (.str "rows = list(rows)")))) (tSeq (tPar 3 4 (tCons (tCall sp__law_all [] C8.E0 (tCons (tVar 0) (tCons (tVar 2) tNil))) (tCons (tSl C8.rSlX (tVar 1) (tPart (tC (.int 17))) tNoPart) tNil))) (tSeq (tIfS (tTest (tOp rEq (tSl C8.rSlX (tVar 4) tNoPart (tPart (tC (.int 2)))) (tC (.str "[-")))) (tAsg (tSl (rSlL K) (tVar 3) (tPart (tUn (rU fun i => .int (-i)) (tCB cIntS (tCons (tOp rIxS (tVar 4) (tC (.int 2))) tNil)))) tNoPart) (gName 3)) (tIfS (tTest (tOp rEq (tSl C8.rSlX (tVar 4) tNoPart (tPart (tC (.int 3)))) (tC (.str "[:-")))) (tAsg (tSl (rSlL K) (tVar 3) tNoPart (tPart (tUn (rU fun i => .int (-i)) (tCB cIntS (tCons (tOp rIxS (tVar 4) (tC (.int 3))) tNil))))) (gName 3)) (tNext))) (tRet (tLst (tCons (tC (.str "list")) (tCons (tIf (tTest (tOp rEq (tVar 4) (tC (.str "[::-1]")))) (tRevL K (tVar 3)) (tVar 3)) (tCons (tC (.int 0)) tNil))))))) (tNext)) (tSeq (tIfS (tTest (tOp (rIn K false) (tOp rIxS (tVar 1) (tC (.int 7))) (tLst (tCons (tC (.str "[")) (tCons (tC (.str "(")) tNil))))) (tSeq (tAsg (tM1 mSplit (tSl C8.rSlX (tVar 1) (tPart (tC (.int 8))) (tPart (tUn (rU fun i => .int (-i)) (tC (.int 1))))) (tC (.str " if "))) (gName 5)) (tSeq (tAsg (tLc (iList K (tSl (rSlL K) (tVar 5) (tPart (tC (.int 1))) tNoPart)) (gName 8) tYes (tTup (tCons (tCall sp__law_names_of [] C8.E0 (tCons (CwR.tReplC (tVar 8) "not " "") tNil)) (tCons (tOp rNe (tSl C8.rSlX (tVar 8) tNoPart (tPart (tC (.int 4)))) (tC (.str "not "))) tNil))) [8]) (gName 6)) (tSeq (tAsg (tLst (tCons (tC (.str "rows")) (tCons (tVar 2) (tCons (tVar 6) (tCons (tCall sp__law_names_of [] C8.E0 (tCons (tOp (rIxL K) (tVar 5) (tC (.int 0))) tNil)) tNil))))) (gName 7)) (tRet (tIf (tTest (tOp rEq (tOp rIxS (tVar 1) (tC (.int 7))) (tC (.str "[")))) (tLst (tCons (tC (.str "list")) (tCons (tCall sp__law_all [] C8.E0 (tCons (tVar 0) (tCons (tVar 7) tNil))) (tCons (tC (.int 0)) tNil)))) (tVar 7)))))) (tNext)) (tSeq (tIfS (tTest (tOp rEq (tSl C8.rSlX (tVar 1) (tPart (tC (.int 7))) (tPart (tC (.int 12)))) (tC (.str "list(")))) (tRet (tLst (tCons (tC (.str "list")) (tCons (tCall sp__law_all [] C8.E0 (tCons (tVar 0) (tCons (tCall sp__law_call_begun [] C8.E0 (tCons (tSl C8.rSlX (tVar 1) (tPart (tC (.int 12))) (tPart (tUn (rU fun i => .int (-i)) (tC (.int 1))))) (tCons (tVar 2) tNil))) tNil))) (tCons (tC (.int 0)) tNil))))) (tNext)) (tRet (tCall sp__law_call_begun [] C8.E0 (tCons (tSl C8.rSlX (tVar 1) (tPart (tC (.int 7))) tNoPart) (tCons (tVar 2) tNil))))))
def r__law_carried (K : PySem.W.Frag) (sp__law_line_done sp__law_all : Sp) : TS := tSeq (tAsg (tLst (tCons (tC (.str "list")) (tCons (tCB (cLst K) (tCons (tVar 2) tNil)) (tCons (tC (.int 0)) tNil)))) (gName 3)) (tSeq (tFor (iList K (tSl (rSlL K) (tM1 mSplit (tVar 1) (tC (.str "\n"))) tNoPart (tPart (tUn (rU fun i => .int (-i)) (tC (.int 1)))))) (gName 4) (tAsg (tCall sp__law_line_done [] C8.E0 (tCons (tVar 0) (tCons (tVar 4) (tCons (tVar 3) tNil)))) (gName 3))) (tRet (tCB (cTup K) (tCons (tCall sp__law_all [] C8.E0 (tCons (tVar 0) (tCons (tVar 3) tNil))) tNil))))
def r__law_answer (K : PySem.W.Frag) : TS := tSeq (tDrop (tBM K "list" rAppend (tOp (rIxL K) (tVar 0) (tC (.int 0))) (tCons (tOp rAddT (tOp rAddT (tOp rAddT (tVar 1) (tC (.str "("))) (tVar 2)) (tC (.str ")"))) tNil))) (tRet (tOp rAddT (tOp rAddT (tOp rAddT (tVar 1) (tC (.str "("))) (tVar 2)) (tC (.str ")"))))
def r__law_truth (K : PySem.W.Frag) : TS := tSeq (tAsg (tM1 mSplit (tVar 1) (tC (.str "("))) (gName 2)) (tSeq (tAsg (tCB cIntS (tCons (tSl C8.rSlX (CwR.tReplC (tOp (rIxL K) (tVar 2) (tUn (rU fun i => .int (-i)) (tC (.int 1)))) ")" "") (tPart (tC (.int 1))) tNoPart) tNil)) (gName 3)) (tRet (tOp (rIxT K) (tOp (rIxT K) (tOp (rIxL K) (tVar 0) (tC (.int 2))) (tVar 3)) (tTI K (tOp (rIxL K) (tVar 0) (tC (.int 1))) (tCons (tCB (cTup K) (tCons (tSl (rSlL K) (tVar 2) tNoPart (tPart (tUn (rU fun i => .int (-i)) (tC (.int 1))))) tNil)) tNil)))))
def r__law_played_right (K : PySem.W.Frag) (sp__law_take sp__law_atoms sp__law_truths sp__law_carried sp_str_Flow sp_World_play sp_World sp_Play_calls sp_Play_entries : Sp) : TS := tSeq (tAsg (tTup (tCons (tCall sp__law_atoms [] C8.E0 (tCons (tVar 2) tNil)) (tCons (tOp (rIxL K) (tLst (tCons (tCall sp__law_take [] C8.E0 (tCons (tVar 0) (tCons (tC (.int 5)) tNil))) (tCons (tC (.int 9)) tNil))) (tCB cInt (tCons (tOp rEq (tCall sp__law_take [] C8.E0 (tCons (tVar 0) (tCons (tC (.int 6)) tNil))) (tC (.int 0))) tNil))) tNil))) (gTup K 2 (gCons (gName 3) (gCons (gName 4) gNil)))) (tSeq (tAsg (tTup (tCons (tC (.str "z999")) (tCons (tC (.str "z998")) (tCons (tC (.str "z997")) tNil)))) (gName 5)) (tSeq (tIfS (tAnd (tTest (tOp rLtI (tCB (rLen K) (tCons (tVar 3) tNil)) (tC (.int 6)))) (tAnd (tTest (tOp (rInDT K true) (tVar 5) (tVar 3))) (tTest (tOp rEq (tCall sp__law_take [] C8.E0 (tCons (tVar 0) (tCons (tC (.int 3)) tNil))) (tC (.int 0)))))) (tAsg (tOp (rCatF K) (tVar 3) (tTupF (tCons (tVar 5) tNil))) (gName 3)) (tNext)) (tSeq (tIfS (tTest (tOp rEq (tCall sp__law_take [] C8.E0 (tCons (tVar 0) (tCons (tC (.int 2)) tNil))) (tC (.int 0)))) (tAsg (tRevTF K (tVar 3)) (gName 3)) (tNext)) (tSeq (tAsg (tCB (cTup K) (tCons (tLc (iRng1 (tCons (tVar 4) tNil)) (gName 10) (tYes) (tCall sp__law_truths [] C8.E0 (tCons (tVar 0) (tCons (tCB (rLen K) (tCons (tVar 3) tNil)) tNil))) [10]) tNil)) (gName 6)) (tSeq (tAsg (tLst tNil) (gName 7)) (tSeq (tAsg (tCall sp__law_carried [] C8.E0 (tCons (tLst (tCons (tVar 7) (tCons (tVar 3) (tCons (tVar 6) tNil)))) (tCons (tCB (rStrOwn (He.ga K "Flow") sp_str_Flow C8.E0) (tCons (tVar 1) tNil)) (tCons (tLc (iRng1 (tCons (tVar 4) tNil)) (gName 10) (tYes) (tOp rAddT (tC (.str "x")) (tCB cStrI (tCons (tVar 10) tNil))) [10]) tNil)))) (gName 8)) (tSeq (tAsg (tMeth (He.ga K "World") "play" sp_World_play [] C8.E0 (tMake (He.ga K "World") sp_World [] C8.E0 (tCons (tVar 3) (tCons (tVar 6) tNil))) (tCons (tVar 1) tNil)) (gName 9)) (tRet (tOp rEq (tCB (cRepr K) (tCons (tLst (tCons (tProp (He.ga K "Play") sp_Play_entries [] C8.E0 (tVar 9)) (tCons (tProp (He.ga K "Play") sp_Play_calls [] C8.E0 (tVar 9)) tNil))) tNil)) (tCB (cRepr K) (tCons (tLst (tCons (tVar 8) (tCons (tCB (cTup K) (tCons (tVar 7) tNil)) tNil))) tNil)))))))))))
def r__law_right (K : PySem.W.Frag) (sp__law_playable sp__law_flow sp__law_played_right : Sp) : TS := tSeq (tFor (iRng1 (tCons (tC (.int 2)) tNil)) (gName 1) (tSeq (tAsg (tCall sp__law_playable [] C8.E0 (tCons (tVar 0) tNil)) (gName 2)) (tSeq (tAsg (tCall sp__law_flow [] C8.E0 (tCons (tVar 2) tNil)) (gName 3)) (tIfS (tNot (tB (tCB (rAll K) (tCons (tLc (iRng1 (tCons (tC (.int 2)) tNil)) (gName 4) (tYes) (tCall sp__law_played_right [] C8.E0 (tCons (tVar 0) (tCons (tVar 3) (tCons (tVar 2) tNil)))) [4]) tNil)))) (tRet (tC (.bl false))) (tNext))))) (tRet (tC (.bl true)))
def r_law (K : PySem.W.Frag) (sp_Flow sp_Stage sp_World_play sp_World sp_Play_calls sp_Play_entries sp__law_right sp__law_purse sp__law_cell : Sp) (gv_Stage2p : List V → List V → List V) : TS := tSeq (tAsg (StX.tMakeR (He.ga K "Flow") sp_Flow C8.E0 (tCons (tMakeN (He.ga K "Stage") 2 ([] : List Str).length sp_Stage gv_Stage2p C8.E0 (tCons (tC (.str "keep")) (tCons (tTup (tCons (tC (.str "p")) tNil)) tNil)) tNil) (tCons (tMakeN (He.ga K "Stage") 2 ([] : List Str).length sp_Stage gv_Stage2p C8.E0 (tCons (tC (.str "first")) (tCons (tC (.int 1)) tNil)) tNil) (tCons (tMakeN (He.ga K "Stage") 2 ([] : List Str).length sp_Stage gv_Stage2p C8.E0 (tCons (tC (.str "each")) (tCons (tTup (tCons (tC (.str "f")) tNil)) tNil)) tNil) (tCons (tMakeN (He.ga K "Stage") 2 ([] : List Str).length sp_Stage gv_Stage2p C8.E0 (tCons (tC (.str "skip")) (tCons (tC (.int 1)) tNil)) tNil) tNil))))) (gName 1)) (tSeq (tAsg (tMeth (He.ga K "World") "play" sp_World_play [] C8.E0 (tMake (He.ga K "World") sp_World [] C8.E0 (tCons (tTup (tCons (tTup (tCons (tC (.str "p")) tNil)) tNil)) (tCons (tTup (tCons (tTup (tCons (tC (.bl false)) tNil)) (tCons (tTup (tCons (tC (.bl true)) tNil)) (tCons (tTup (tCons (tC (.bl true)) tNil)) tNil)))) tNil))) (tCons (tVar 1) tNil)) (gName 2)) (tSeq (tIfS (tTest (tOp rNe (tCB (cRepr K) (tCons (tLst (tCons (tProp (He.ga K "Play") sp_Play_entries [] C8.E0 (tVar 2)) (tCons (tProp (He.ga K "Play") sp_Play_calls [] C8.E0 (tVar 2)) tNil))) tNil)) (tC (.str "[(), ('p(x0)', 'p(x1)', 'f(x1)')]")))) (tRet (tC (.bl false))) (tNext)) (tRet (tCB (rAll K) (tCons (tLc (iRng1 (tCons (tCB cMax (tCons (tC (.int 2)) (tCons (tCB cMin (tCons (tCB (rLen K) (tCons (tVar 0) tNil)) (tCons (tC (.int 8)) tNil))) tNil))) tNil)) (gName 3) (tYes) (tCall sp__law_right [] C8.E0 (tCons (tCall sp__law_purse [] C8.E0 (tCons (tCall sp__law_cell [] C8.E0 (tCons (tVar 0) (tCons (tVar 3) tNil))) tNil)) tNil)) [3]) tNil)))))
end CF

/-! text CfPA -/
set_option Elab.async false
set_option linter.all false
set_option maxRecDepth 100000
set_option maxHeartbeats 4000000
/-! the readings answer the promises: names, stages, their texts -/
namespace CF
open PySem PySem.Spec PyProof.Rows L2 Evl
section
variable {K : PySem.W.Frag} {vs : List V} {H : Hp} {Q : VK} {E : XK}
abbrev ends (Q : VK) : Ends := { nx := fun _ H' => Q .non H', rt := Q }
theorem p_is_integer (h : sp_is_integer vs H Q E) : r_is_integer K (ends Q) (start ["value"] vs) H := by
  obtain ⟨i, rfl, k⟩ := h
  exact s_ret (ev_andV (a := true) (b := true) (ev_isi (ev_var rfl) fun H1 _ => ty_int i H1 (by decide +kernel)) fun _ => ev_notV (a := false) (ev_isi (ev_var rfl) fun H1 _ => ty_int i H1 (by decide +kernel))) k
theorem ev_inC {σ : L2.St} {ta : TE} {c : Nat} {s : String} (ha : Ev ta σ H (.str ⟨#[c]⟩)) : Ev (tOp rInC ta (tC (.str (Str.ofString s)))) σ H (.bl (decide (c ∈ cd s))) := fun H1 e Q q => ha H1 e _ fun H2 e2 => ⟨c, Str.ofString s, rfl, rfl, by
  have z := q H2 e2
  rw [cd_S]
  exact z⟩
theorem ev_notInC {σ : L2.St} {ta : TE} {c : Nat} {s : String} (ha : Ev ta σ H (.str ⟨#[c]⟩)) : Ev (tOp rNotInC ta (tC (.str (Str.ofString s)))) σ H (.bl (!decide (c ∈ cd s))) := fun H1 e Q q => ha H1 e _ fun H2 e2 => ⟨c, Str.ofString s, rfl, rfl, by
  have z := q H2 e2
  rw [cd_S]
  exact z⟩
theorem ev_ixC {σ : L2.St} {ta : TE} {w : List Nat} {i : Int} {c : Nat} (ha : Ev ta σ H (.str (SX.S w))) (hz : w.length ≤ 100000) (hi : atI w i = some c) : Ev (tOp rIxS ta (tC (.int i))) σ H (.str ⟨#[c]⟩) := ev_op ha ev_c (rv_ixS (by rw [lenS]; exact hz) hi)
theorem ev_slT {σ : L2.St} {ta : TE} {w u : List Nat} {tl th : TO} {lo hi : Option Int} (ha : Ev ta σ H (.str (SX.S w))) (hl : EvO tl σ H lo) (hh : EvO th σ H hi) (hz : w.length ≤ 100000) (e : Txt.slice (SX.S w) lo hi = SX.S u) : Ev (tSl C8.rSlX ta tl th) σ H (.str (SX.S u)) := fun H1 e1 Q q =>
  ha H1 e1 _ fun H2 e2 => hl H2 (e1.trans e2) _ fun H3 e3 => hh H3 ((e1.trans e2).trans e3) _ fun H4 e4 => ⟨_, rfl, by rw [lenS]; exact sz_of hz, by
    rw [e]
    exact q H4 ((e2.trans e3).trans e4)⟩
theorem eo_none {σ : L2.St} : EvO tNoPart σ H none := fun H1 _ _ q => q H1 (Ex.refl H1)
theorem eo_some {σ : L2.St} {te : TE} {i : Int} (h : Ev te σ H (.int i)) : EvO (tPart te) σ H (some i) := fun H1 e _ q => h H1 e _ fun H2 e2 => ⟨i, rfl, q H2 e2⟩
theorem nameB_cons {n : Nm} (h : nameB n = true) : ∃ c r, n = c :: r ∧ c ∈ letters ∧ r.length ≤ 3 ∧ ∀ d ∈ r, d ∈ digits := by
  match n, h with
  | c :: r, h =>
    have h : (decide (c ∈ letters) && decide (r.length ≤ 3) && r.all fun d => decide (d ∈ digits)) = true := h
    simp only [Bool.and_eq_true, decide_eq_true_eq, List.all_eq_true] at h
    exact ⟨c, r, rfl, h.1.1, h.1.2, h.2⟩
theorem p_is_name (h : sp_is_name vs H Q E) : r_is_name K (ends Q) (start ["value", "sign"] vs) H := by
  obtain ⟨n, rfl, hn, k⟩ := h
  obtain ⟨c, r, rfl, hc, hr, hd⟩ := nameB_cons hn
  have hl : (c :: r).length ≤ 4 := by simp only [List.length_cons]; omega
  have hv : ∀ {H1 : Hp}, Ev (tVar 0) (start ["value", "sign"] [nV (c :: r)]) H1 (.str (SX.S (c :: r))) := fun {H1} => ev_var rfl
  refine q_when (b := false || (false || false)) (et_or (a := false) (b := false || false) (et_not (a := true) (et_B (ev_isi hv fun H1 _ => ty_str _ H1 (by decide +kernel)))) fun _ => et_or (a := false) (b := false) ?_ fun _ => ?_) (fun hb => nomatch hb) fun _ H1 e1 => ?_
  · have z := et_not (et_test (ev_chain (H := H) (p := fun i j => decide (i < j)) (q := fun i j => decide (i ≤ j)) (i := 0) (k := 1 + 3) (ev_c (v := .int 0)) (ev_lenS (K := K) hv (by omega)) fun _ => ev_op (r := rAddI) (z := .int (1 + 3)) (ev_c (v := .int 1)) (ev_c (v := .int 3)) (rv_I0 (g := fun i j => .int (i + j)))))
    refine et_is z ?_
    simp only [List.length_cons]
    have e1 : decide ((0 : Int) < ((r.length + 1 : Nat) : Int)) = true := decide_eq_true (by omega)
    have e2 : decide (((r.length + 1 : Nat) : Int) ≤ 1 + 3) = true := decide_eq_true (by omega)
    rw [e1, e2]
    rfl
  · refine et_is (et_test (ev_notInC (ev_ixC hv (by omega) (i := ((0 : Nat) : Int)) (c := c) (atI_nat (j := 0) rfl)))) ?_
    have : decide (c ∈ cd "abcdefghijklmnopqrstuvwyz") = true := decide_eq_true hc
    rw [this]
    rfl
  · have hall : (r.map fun _ => true).all id = true := by simp
    have z := ev_all (K := K) (bs := r.map fun _ => true) (σ := start ["value", "sign"] [nV (c :: r)]) (H := H1) (ta := tLc (iStr (tSl C8.rSlX (tVar 0) (tPart (tC (.int 1))) tNoPart)) (gName 1) tYes (tOp rInC (tVar 1) (tC (.str "0123456789"))) [1])
      (el_mapS (w := r) (ev_slT hv (eo_some ev_c) eo_none (by omega) (by rw [SX.slice_from (by decide)]; rfl)) (by omega) (by simp) (fun x => rfl) fun i d y H2 e2 hd2 hy => by
        refine ev_is (ev_inC (c := d) (ev_var rfl)) ?_
        have m : d ∈ cd "0123456789" := hd d (List.mem_of_getElem? hd2)
        rw [decide_eq_true m]
        simp only [List.getElem?_map, hd2, Option.map_some, Option.some.injEq] at hy
        exact hy)
    rw [hall] at z
    exact s_ret z fun H2 e2 => k H2 (e1.trans e2)
theorem all2_at {w : List Nm} {i : Nat} {x : V} (h : (tV w)[i]? = some x) : ∃ n, w[i]? = some n ∧ x = nV n := by
  unfold tV at h
  rw [List.getElem?_map] at h
  cases e : w[i]? with
  | none => rw [e] at h; cases h
  | some n =>
    rw [e] at h
    exact ⟨n, rfl, (Option.some.inj h).symm⟩
theorem p_are_names (h : sp_are_names vs H Q E) : r_are_names K sp_is_name (ends Q) (start ["value", "least", "most", "name"] vs) H := by
  obtain ⟨v, w, lo, hi, rfl, ⟨a, rfl, ha⟩, hw, hz, h1, h2, k⟩ := h
  have hv : ∀ {H1 : Hp}, Ev (tVar 0) (start ["value", "least", "most", "name"] [.ref a, .int lo, .int hi]) H1 (.ref a) := fun {H1} => ev_var rfl
  have hlen : (tV w).length = w.length := List.length_map ..
  refine q_when (b := false || false) (et_or (a := false) (b := false) (et_not (a := true) (et_B (ev_isi hv fun H1 e => ty_tu (e a _ ha) (by decide +kernel)))) fun _ => ?_) (fun hb => nomatch hb) fun _ H1 e1 => ?_
  · have z := et_not (et_test (ev_chain (H := H) (p := fun i j => decide (i ≤ j)) (q := fun i j => decide (i ≤ j)) (i := lo) (k := hi) (σ := start ["value", "least", "most", "name"] [.ref a, .int lo, .int hi]) (ta := tVar 1) (tc := tVar 2) (ev_var rfl) (ev_lenT (K := K) hv (st_of ha)) fun _ => ev_var rfl))
    refine et_is z ?_
    rw [hlen, decide_eq_true h1, decide_eq_true h2]
    rfl
  · have hall : (w.map fun _ => true).all id = true := by simp
    have z := ev_all (K := K) (bs := w.map fun _ => true) (σ := start ["value", "least", "most", "name"] [.ref a, .int lo, .int hi]) (H := H1) (ta := tLc (iTup K (tVar 0)) (gName 3) tYes (tCall sp_is_name [] C8.E0 (tCons (tVar 3) tNil)) [3])
      (el_mapT hv (st_of (e1 a _ ha)) (by omega) (by simp [hlen]) (fun x => rfl) fun i x y H2 e2 hx hy => by
        obtain ⟨n, hn, rfl⟩ := all2_at hx
        simp only [List.map_map, List.getElem?_map, hn, Option.map_some, Option.some.injEq, Function.comp] at hy
        subst hy
        refine ev_call (ea_cons (ev_var rfl) ea_nil) fun H3 e3 Q q E => ⟨n, rfl, ?_, q⟩
        exact List.all_eq_true.mp hw n (List.mem_of_getElem? hn))
    rw [hall] at z
    exact s_ret z fun H2 e2 => k H2 (e1.trans e2)
theorem p_is_word (h : sp_is_word vs H Q E) : r_is_word K sp_are_names (ends Q) (start ["value"] vs) H := by
  obtain ⟨v, w, rfl, hv, hw, hl, k⟩ := h
  exact ⟨_, rfl, v, w, 0, 3, rfl, hv, hw, by omega, by omega, by omega, k⟩
theorem p_is_test (h : sp_is_test vs H Q E) : r_is_test K sp_are_names (ends Q) (start ["value"] vs) H := by
  obtain ⟨v, w, rfl, hv, hw, hl, hl2, k⟩ := h
  exact ⟨_, rfl, 1, 3, rfl, rfl, v, w, 1, 4, rfl, hv, hw, by omega, by omega, by omega, k⟩
theorem p_is_count (h : sp_is_count vs H Q E) : r_is_count K sp_is_integer (ends Q) (start ["value", "least"] vs) H := by
  obtain ⟨i, lo, rfl, h1, h2, k⟩ := h
  refine ⟨_, rfl, i, rfl, fun H1 e1 => ⟨true, rfl, iteT ⟨_, rfl, _, rfl, lo, i, rfl, rfl, _, rfl, ifT h1 ⟨i, 9, rfl, rfl, ?_⟩⟩⟩⟩
  show Q (.bl (decide (i ≤ 9))) H1
  rw [decide_eq_true h2]
  exact k H1 e1
end
end CF

/-! text CfPE -/
set_option Elab.async false
set_option linter.all false
set_option maxRecDepth 100000
set_option maxHeartbeats 4000000
/-! the readings answer the promises: flows, plays, small ones -/
namespace CF
open PySem PySem.Spec PyProof.Rows L2 Evl
section
variable {K : PySem.W.Frag} {mg : Str → Option Value} {vs : List V} {H : Hp} {Q : VK} {E : XK} {σ : L2.St}
/-- what a new instance leaves as it was -/
theorem mk_ex {H H' : Hp} {x dx : Addr} {o o' : HO} (h1 : H x = none) (h2 : H dx = none) (k : Kp [x] (upd (upd H dx o) x o') H') : Ex H H' := fun a u e => by
  have n1 : a ≠ x := ne_of_none e h1
  have n2 : a ≠ dx := ne_of_none e h2
  refine k.keep a u ?_ (by simpa using n1)
  rw [upd_ne n1, upd_ne n2]
  exact e
theorem mk_fx {H : Hp} {x dx : Addr} {o o' : HO} (h1 : H x = none) (h2 : H dx = none) : Ex H (upd (upd H dx o) x o') := fun a u e => by
  rw [upd_ne (ne_of_none e h1), upd_ne (ne_of_none e h2)]
  exact e
/-- a field of self -/
theorem ev_fld {K : PySem.W.Frag} {C a dx : Addr} {x : Str} {fs : List (Str × V)} {v : V} {te : TE} (c : Cls K C) (n : NoAttr K C x) (h : Ev te σ H (.ref a)) (ha : H a = some (.ins C dx fs)) (hi : fs.lookup x = some v) : Ev (tFld K te x) σ H v := fun H1 e Q q =>
  h H1 e _ fun H2 e2 => ⟨a, C, dx, fs, v, rfl, (e.trans e2) a _ ha, c, n, hi, q H2 e2⟩
theorem lk1 {x : Str} {v : V} {r : List (Str × V)} : ((x, v) :: r).lookup x = some v := by rw [List.lookup_cons, beq_self_eq_true]
/-- a property whose answer is one value -/
theorem ev_prop {C a dx : Addr} {fs : List (Str × V)} {sp : Sp} {te : TE} {z : V} (h : Ev te σ H (.ref a)) (ha : H a = some (.ins C dx fs)) (hs : SpV sp [.ref a] H z) : Ev (tProp C sp [] C8.E0 te) σ H z := fun H1 e Q q =>
  h H1 e _ fun H2 e2 => ⟨a, dx, fs, rfl, (e.trans e2) a _ ha, hs H2 (e.trans e2) Q (fun H3 e3 => q H3 (e2.trans e3)) C8.E0⟩
theorem ev_kind {te : TE} {v : V} {st : Step Nm} (h : Ev te σ H v) (hs : Stg K H v st) : Ev (tProp (He.ga K "Stage") (sp_Stage_kind K) [] C8.E0 te) σ H (.str st.s.kd) := by
  have hs' := hs
  obtain ⟨a, dx, t, d, rfl, ha, ht, hd⟩ := hs
  exact ev_prop h ha fun H1 e Q q E => ⟨_, st, rfl, hs'.fx (Fx.of e), q⟩
theorem p_Flow_stages (T : Tx K mg) (h : sp_Flow_stages K vs H Q E) : r_Flow_stages K (ends Q) (start ["self"] vs) H := by
  obtain ⟨v, l, rfl, ⟨a, dx, t, svs, rfl, ha, ht, hl⟩, k⟩ := h
  exact s_ret (ev_fld T.cls_Flow T.no_Flow_kept (ev_var rfl) ha lk1) fun H1 e => k t svs H1 e ht hl
theorem p_check_flow (T : Tx K mg) (h : sp_check_flow K vs H Q E) : r_check_flow K (ends Q) (start ["value"] vs) H := by
  obtain ⟨v, l, rfl, ⟨a, dx, t, svs, rfl, ha, ht, hl⟩, k⟩ := h
  have c := T.ins_Flow
  refine ⟨_, rfl, _, _, _, _, true, rfl, .own (He.ga K "Flow"), .base (TyOf.ins ha c.cl c.ha c.hn c.htk c.hm), c.me, true, rfl, ?_⟩
  exact ibF (b := !true) rfl (k H (Ex.refl H))
theorem p_Flow_of (h : sp_Flow_of K vs H Q E) : r_Flow_of K (sp_Flow K) (ends Q) (start ["cls", "stages"] vs) H := by
  obtain ⟨t, svs, l, rfl, ht, hl, h8, k⟩ := h
  obtain ⟨ty, h1, h2⟩ := ty_tu (K := K) (n := "tuple") (b := true) ht (by decide +kernel)
  refine ⟨_, rfl, _, _, ty, .type "tuple", true, rfl, .ty "tuple", h1, h2, true, rfl, ibF (b := !true) rfl ?_⟩
  refine ⟨rfl, _, rfl, t, svs, rfl, .inl (st_of ht), fun x dx hx hdx hne => ?_⟩
  refine ⟨x, dx, svs, l, rfl, upd_same, hl.imp fun _ _ z => z.fx (Fx.of (mk_fx hx hdx)), h8, fun H' kp hf => ⟨rfl, k x H' (mk_ex hx hdx kp) hf⟩⟩
theorem p_Flow___init__ (T : Tx K mg) (h : sp_FlowB K vs H Q E) : r_Flow___init__ K (ends Q) (start ["self", "stages", "index", "stage"] vs) H := by
  obtain ⟨a, dx, t, svs, l, rfl, ha, ht, hl, h8, k⟩ := h
  have c := T.ins_Stage
  refine ⟨_, rfl, t, svs, rfl, st_of ht, ?_⟩
  refine for_enumT (fun i σ' H' => Ex H H' ∧ ∃ o1 o2, σ' = [some (.ref a), some (.ref t), o1, o2]) ⟨Ex.refl H, none, none, rfl⟩ (fun i σ' H' _ p => st_of (p.1 t _ ht)) ?_ ?_
  · rintro i x σ' H' hi ⟨e0, o1, o2, rfl⟩ b hb
    refine ⟨b, _, rfl, st_of upd_same, rfl, _, _, rfl, _, _, rfl, rfl, ?_⟩
    have e := e0.trans (Ex.new (o := .tup [.int (i : Nat), x]) hb)
    obtain ⟨st, hst, hs⟩ := hl.at hi
    have hs := hs.fx (Fx.of e)
    obtain ⟨sa, sdx, stt, d, rfl, hsa, _, _⟩ := hs
    have hlt : i < 8 := by
      have := (List.getElem?_eq_some_iff.mp hst).1
      omega
    refine ⟨_, rfl, _, _, rfl, rfl, _, rfl, ibF (decide_eq_false (by omega)) ?_⟩
    refine ⟨_, rfl, _, _, _, _, true, rfl, .own (He.ga K "Stage"), .base (TyOf.ins hsa c.cl c.ha c.hn c.htk c.hm), c.me, true, rfl, ibF (b := !true) rfl ⟨e, some (.int i), some (.ref sa), rfl⟩⟩
  · rintro σ' H' ⟨e, o1, o2, rfl⟩
    refine ⟨_, rfl, _, rfl, a, _, dx, [], rfl, e a _ ha, T.cls_Flow, T.no_Flow_kept, by decide, ?_⟩
    refine k _ ((Kp.of e).put (by simp)) ⟨a, dx, t, svs, rfl, upd_same, ?_, ?_⟩
    · rw [upd_ne (fun z => by rw [z, ha] at ht; cases ht)]
      exact e t _ ht
    · refine hl.imp fun v st z => ?_
      refine z.fx fun b o ho f => ?_
      have hb : b ≠ a := fun z => by
        rw [z, ha] at ho
        cases ho
        cases f
      rw [upd_ne hb]
      exact e b o ho
theorem p_Play___init__ (T : Tx K mg) (h : sp_Play K vs H Q E) : r_Play___init__ K (ends Q) (start ["self", "entries", "calls"] vs) H := by
  obtain ⟨a, dx, e, c, es, cs, rfl, ha, he, hc, k⟩ := h
  refine ⟨_, rfl, _, rfl, by show 2 ≤ sizeLine; decide, fun p hp => ⟨_, rfl, a, _, dx, [], rfl, (by rw [upd_ne (ne_of_none ha hp)]; exact ha), T.cls_Play, T.no_Play_shown, by decide, ?_⟩⟩
  have e2 : Ex H (upd H p (.tup [.ref e, .ref c])) := Ex.new hp
  have na : ∀ {b : Addr} {xs : List V}, H b = some (.tup xs) → b ≠ a := fun hb z => by
    rw [z, ha] at hb
    cases hb
  refine k _ ((Kp.of e2).put (by simp)) ⟨a, dx, p, e, c, rfl, upd_same, ?_, ?_, ?_⟩
  · rw [upd_ne (ne_of_none ha hp).symm]
    exact upd_same
  · rw [upd_ne (na he)]
    exact e2 e _ he
  · rw [upd_ne (na hc)]
    exact e2 c _ hc
theorem p_Play_entries (T : Tx K mg) (h : sp_Play_entries K vs H Q E) : r_Play_entries K (ends Q) (start ["self"] vs) H := by
  obtain ⟨v, es, cs, rfl, ⟨a, dx, t, e, c, rfl, ha, ht, he, hc⟩, k⟩ := h
  exact s_ret (ev_op (ev_fld T.cls_Play T.no_Play_shown (ev_var rfl) ha lk1) ev_c (rv_ixT (i := ((0 : Nat) : Int)) (st_of ht) (atI_nat rfl))) fun H1 e1 => k e H1 e1 he
theorem p_Play_calls (T : Tx K mg) (h : sp_Play_calls K vs H Q E) : r_Play_calls K (ends Q) (start ["self"] vs) H := by
  obtain ⟨v, es, cs, rfl, ⟨a, dx, t, e, c, rfl, ha, ht, he, hc⟩, k⟩ := h
  exact s_ret (ev_op (ev_fld T.cls_Play T.no_Play_shown (ev_var rfl) ha lk1) ev_c (rv_ixT (i := ((1 : Nat) : Int)) (st_of ht) (atI_nat rfl))) fun H1 e1 => k c H1 e1 hc
theorem p_World___init__ (T : Tx K mg) (h : sp_World K vs H Q E) : r_World___init__ K sp_check_atoms sp_check_rows (ends Q) (start ["self", "atoms", "rows"] vs) H := by
  obtain ⟨a, dx, av, rv, ats, rows, rfl, ha, hav, hrv, wb, k⟩ := h
  refine ⟨_, rfl, av, ats, rfl, hav, wb.nd, wb.len, wb.word, fun H1 e1 => ?_⟩
  have hav1 := hav.fx (Fx.of e1)
  obtain ⟨aa, avs, rfl, haa, hal⟩ := hav
  refine ⟨_, rfl, _, rfl, _, ats.length, rfl, .inr ⟨avs, .inl (ex_rd e1 haa), hal.len.symm⟩, rv, rows, ats.length, rfl, hrv.fx (Fx.of e1), by have := wb.len; omega, wb.row, fun H2 e2 => ?_⟩
  have e3 := e1.trans e2
  refine ⟨_, rfl, _, rfl, by show 2 ≤ sizeLine; decide, fun p hp => ⟨_, rfl, a, _, dx, [], rfl, (by rw [upd_ne (ne_of_none (e3 a _ ha) hp)]; exact e3 a _ ha), T.cls_World, T.no_World_told, by decide, ?_⟩⟩
  have e4 : Ex H (upd H2 p (.tup [.ref aa, rv])) := e3.trans (Ex.new hp)
  have fx : Fx H (upd (upd H2 p (.tup [.ref aa, rv])) a (.ins (He.ga K "World") dx (putF "told" (.ref p) []))) := fun b o ho f => by
    have hb : b ≠ a := fun z => by
      rw [z, ha] at ho
      cases ho
      cases f
    rw [upd_ne hb]
    exact e4 b o ho
  refine k _ ((Kp.of e4).put (by simp)) ⟨a, dx, p, .ref aa, rv, rfl, upd_same, ?_, Ats.fx ⟨aa, avs, rfl, haa, hal⟩ fx, hrv.fx fx⟩
  rw [upd_ne (ne_of_none (e3 a _ ha) hp).symm]
  exact upd_same
theorem p_Gate___init__ (T : Tx K mg) (h : sp_Gate K vs H Q E) : r_Gate___init__ K (ends Q) (start ["self", "stage"] vs) H := by
  obtain ⟨g, dx, sv, st, rfl, hg, hs, k⟩ := h
  refine ⟨_, rfl, _, rfl, g, _, dx, [], rfl, hg, T.cls_Gate, T.no_Gate_stage, by decide, ?_⟩
  refine ⟨_, rfl, g, _, dx, _, rfl, upd_same, T.cls_Gate, T.no_Gate_seen, by show 1 < 1000; decide, ?_⟩
  refine ⟨_, rfl, g, _, dx, _, rfl, upd_same, T.cls_Gate, T.no_Gate_is_open, by show 2 < 1000; decide, ?_⟩
  refine k _ ((((Kp.refl [g] H).put (by simp)).put (by simp)).put (by simp)) ⟨dx, sv, ?_, ?_⟩
  · rw [upd_same]
    rfl
  · refine hs.fx fun b o ho f => ?_
    have hb : b ≠ g := fun z => by
      rw [z, hg] at ho
      cases ho
      cases f
    rw [upd_ne hb, upd_ne hb, upd_ne hb]
    exact ho
end
end CF

/-! text CfPB -/
set_option Elab.async false
set_option linter.all false
set_option maxRecDepth 100000
set_option maxHeartbeats 4000000
/-! the readings answer the promises: applied, details, lines, stages -/
namespace CF
open PySem PySem.Spec PyProof.Rows L2 Evl
section
variable {K : PySem.W.Frag} {mg : Str → Option Value} {vs : List V} {H : Hp} {Q : VK} {E : XK}
theorem nameB_len {n : Nm} (h : nameB n = true) : n.length ≤ 4 := by
  obtain ⟨c, r, rfl, _, hr, _⟩ := nameB_cons h
  simp only [List.length_cons]
  omega
theorem applL_cons (n : Nm) (w : List Nm) (x : List Nat) : applL (n :: w) x = n ++ ([40] ++ (applL w x ++ [41])) := rfl
theorem applL_len : ∀ {w : List Nm} (x : List Nat), wordB w = true → (applL w x).length ≤ 6 * w.length + x.length
  | [], x, _ => by show x.length ≤ _; simp
  | n :: w, x, h => by
    have h : (nameB n && wordB w) = true := h
    rw [Bool.and_eq_true] at h
    have h1 := nameB_len h.1
    have h2 := applL_len (w := w) x h.2
    rw [applL_cons]
    simp only [List.length_append, List.length_cons, List.length_nil]
    omega
theorem wordB_drop {w : List Nm} (h : wordB w = true) (i : Nat) : wordB (w.drop i) = true := by
  unfold wordB at *
  rw [List.all_eq_true] at *
  exact fun x hx => h x (List.mem_of_mem_drop hx)
theorem rev_at {w : List Nm} {i : Nat} {y : V} (h : (tV w).reverse[i]? = some y) : i < w.length ∧ ∃ n, y = nV n ∧ w.drop (w.length - (i + 1)) = n :: w.drop (w.length - i) := by
  have hi : i < (tV w).reverse.length := (List.getElem?_eq_some_iff.mp h).1
  have hl : (tV w).length = w.length := List.length_map ..
  rw [List.length_reverse, hl] at hi
  rw [List.getElem?_reverse (by omega), hl] at h
  obtain ⟨n, hn, e⟩ := all2_at h
  refine ⟨hi, n, e, ?_⟩
  have q := List.drop_eq_getElem_cons (l := w) (i := w.length - 1 - i) (by omega)
  have e1 : w.length - (i + 1) = w.length - 1 - i := by omega
  have e2 : w.length - 1 - i + 1 = w.length - i := by omega
  rw [e1, q, e2]
  congr 1
  have := List.getElem?_eq_getElem (l := w) (i := w.length - 1 - i) (by omega)
  rw [hn] at this
  exact (Option.some.inj this).symm
theorem p_applied (h : sp_applied vs H Q E) : r_applied K (ends Q) (start ["names", "argument", "text", "name"] vs) H := by
  obtain ⟨v, w, x, rfl, ⟨a, rfl, ha⟩, hw, hz, hx, k⟩ := h
  refine ⟨_, rfl, ⟨_, rfl, a, tV w, rfl, st_of ha, fun p hp => ⟨p, rfl, ⟨_, st_of upd_same⟩, ?_⟩⟩⟩
  have hl : (tV w).reverse.length = w.length := by rw [List.length_reverse]; exact List.length_map ..
  refine for_tup (xs := (tV w).reverse) (fun i σ' H' => Ex (upd H p (.tup (tV w).reverse)) H' ∧ ∃ o, σ' = [some (.ref a), some (nV x), some (nV (applL (w.drop (w.length - i)) x)), o]) ⟨Ex.refl _, none, ?_⟩ (fun i σ' H' _ q => st_of (q.1 p _ upd_same)) ?_ ?_
  · have : w.drop (w.length - 0) = [] := by simp
    rw [this]
    rfl
  · rintro i y σ' H' hi ⟨e, o, rfl⟩
    obtain ⟨hi', n, rfl, hd⟩ := rev_at hi
    have hb := wordB_drop hw (w.length - (i + 1))
    have hb2 := wordB_drop hw (w.length - i)
    have hn : nameB n = true := by
      rw [hd] at hb
      have hb : (nameB n && wordB (w.drop (w.length - i))) = true := hb
      rw [Bool.and_eq_true] at hb
      exact hb.1
    have l1 := nameB_len hn
    have l2 := applL_len x hb2
    have l3 : (w.drop (w.length - i)).length ≤ w.length := by rw [List.length_drop]; omega
    refine s_asg (v := nV (applL (w.drop (w.length - (i + 1))) x)) ?_ fun H1 e1 => ⟨e.trans e1, some (nV n), rfl⟩
    rw [hd, applL_cons]
    refine ev_joined (.cons (ev_fmtS (ev_var rfl) (by omega)) (.cons ev_cd (.cons (ev_fmtS (ev_var rfl) (by omega)) (.cons (b := []) ev_cd .nil)))) ?_
    show (n ++ ([40] ++ (applL (w.drop (w.length - i)) x ++ ([41] ++ [])))).length ≤ 100000
    simp only [List.length_append, List.length_cons, List.length_nil]
    omega
  · rintro σ' H' ⟨e, o, rfl⟩
    refine ⟨_, rfl, ?_⟩
    have := k H' ((Ex.new hp).trans e)
    rw [hl]
    rw [show w.drop (w.length - w.length) = w by simp]
    exact this
theorem p_term_of (h : sp_term_of vs H Q E) : r_term_of K sp_applied (ends Q) (start ["index", "word"] vs) H := by
  obtain ⟨v, t, rfl, hv, hw, hl, h9, k⟩ := h
  have z : Ev (tJoined [tC (.str "x"), tFmt (tVar 0)]) (start ["index", "word"] [.int (t.1 : Nat), v]) H (.str (SX.S [120, 48 + t.1])) :=
    ev_joined (.cons (a := [120]) (b := [48 + t.1]) ev_cd (.cons (b := []) (ev_fmtI (ev_var rfl) h9) .nil)) (by simp)
  exact s_ret (ev_call (ea_cons (ev_var rfl) (ea_cons z ea_nil)) fun H1 e1 Q q E => ⟨v, t.2, _, rfl, hv.fx (Fx.of e1), hw, hl, by simp, q⟩) k
/-! ### details -/
theorem p_is_detail (T : Tx K mg) (h : sp_is_detail vs H Q E) : r_is_detail K sp_is_word sp_is_test sp_is_count (ends Q) (start ["kind", "detail"] vs) H := by
  obtain ⟨v, s, rfl, hd, hb, k⟩ := h
  have tt : ∀ {v : V} {t : List Nm} {x : Str}, Wd H v t → wordB t = true → 1 ≤ t.length → t.length ≤ 4 → (x == "each") = false → inV (.str x) [.str "keep", .str "drop", .str "while", .str "from"] = true → r_is_detail K sp_is_word sp_is_test sp_is_count (ends Q) (start ["kind", "detail"] [.str x, v]) H := by
    intro v t x hv h1 h2 h3 e1 e2
    refine ⟨_, rfl, rfl, _, rfl, ifF (neS e1) ?_⟩
    refine ⟨_, rfl, _, _, rfl, .inr (T.t_TESTED H), rfl, rfl, _, rfl, ibT e2 ?_⟩
    exact ⟨_, rfl, v, t, rfl, hv, h1, h2, h3, k⟩
  have cc : ∀ {n lo : Nat} {x : Str}, lo ≤ n → n ≤ 9 → (x == "each") = false → inV (.str x) [.str "keep", .str "drop", .str "while", .str "from"] = false → (x == "turned") = false → (x == "every") = false →
      (if inV (.str x) [.str "first", .str "skip"] then 0 else 1) = lo → r_is_detail K sp_is_word sp_is_test sp_is_count (ends Q) (start ["kind", "detail"] [.str x, .int n]) H := by
    intro n lo x h1 h2 e1 e2 e3 e4 e5
    refine ⟨_, rfl, rfl, _, rfl, ifF (neS e1) ?_⟩
    refine ⟨_, rfl, _, _, rfl, .inr (T.t_TESTED H), rfl, rfl, _, rfl, ibF e2 ?_⟩
    refine ⟨_, rfl, rfl, _, rfl, ifF (neS e3) ?_⟩
    refine ⟨_, rfl, rfl, _, rfl, ifF (neS e4) ?_⟩
    refine ⟨_, rfl, _, rfl, by show 2 ≤ sizeLine; decide, fun p hp => ⟨p, _, rfl, .inr (st_of upd_same), rfl, rfl, _, rfl, ?_⟩⟩
    show if inV (.str x) [.str "first", .str "skip"] = true then _ else _
    cases e6 : inV (.str x) [.str "first", .str "skip"] with
    | true =>
      rw [if_pos rfl]
      rw [e6] at e5
      exact ⟨n, 0, rfl, by omega, by omega, fun H' e => k H' ((Ex.new hp).trans e)⟩
    | false =>
      rw [if_neg Bool.false_ne_true]
      rw [e6] at e5
      exact ⟨n, 1, rfl, by simp at e5; omega, by omega, fun H' e => k H' ((Ex.new hp).trans e)⟩
  cases s with
  | each w =>
    have hb : (wordB w && decide (w.length ≤ 3)) = true := hb
    simp only [Bool.and_eq_true, decide_eq_true_eq] at hb
    exact ⟨_, rfl, rfl, _, rfl, ifT rfl ⟨_, rfl, v, w, rfl, hd, hb.1, hb.2, k⟩⟩
  | keep t =>
    simp only [sgB, Bool.and_eq_true, decide_eq_true_eq] at hb
    exact tt (x := "keep") hd hb.1.1 hb.1.2 hb.2 (by decide +kernel) (by decide +kernel)
  | drop t =>
    simp only [sgB, Bool.and_eq_true, decide_eq_true_eq] at hb
    exact tt (x := "drop") hd hb.1.1 hb.1.2 hb.2 (by decide +kernel) (by decide +kernel)
  | whil t =>
    simp only [sgB, Bool.and_eq_true, decide_eq_true_eq] at hb
    exact tt (x := "while") hd hb.1.1 hb.1.2 hb.2 (by decide +kernel) (by decide +kernel)
  | from_ t =>
    simp only [sgB, Bool.and_eq_true, decide_eq_true_eq] at hb
    exact tt (x := "from") hd hb.1.1 hb.1.2 hb.2 (by decide +kernel) (by decide +kernel)
  | first n =>
    simp only [sgB, decide_eq_true_eq] at hb
    obtain rfl : v = .int n := hd
    exact cc (x := "first") (lo := 0) (Nat.zero_le _) hb (by decide +kernel) (by decide +kernel) (by decide +kernel) (by decide +kernel) (by decide +kernel)
  | skip n =>
    simp only [sgB, decide_eq_true_eq] at hb
    obtain rfl : v = .int n := hd
    exact cc (x := "skip") (lo := 0) (Nat.zero_le _) hb (by decide +kernel) (by decide +kernel) (by decide +kernel) (by decide +kernel) (by decide +kernel)
  | last n =>
    simp only [sgB, Bool.and_eq_true, decide_eq_true_eq] at hb
    obtain rfl : v = .int n := hd
    exact cc (x := "last") (lo := 1) hb.1 hb.2 (by decide +kernel) (by decide +kernel) (by decide +kernel) (by decide +kernel) (by decide +kernel)
  | butl n =>
    simp only [sgB, Bool.and_eq_true, decide_eq_true_eq] at hb
    obtain rfl : v = .int n := hd
    exact cc (x := "but last") (lo := 1) hb.1 hb.2 (by decide +kernel) (by decide +kernel) (by decide +kernel) (by decide +kernel) (by decide +kernel)
  | turned =>
    obtain rfl : v = .non := hd
    show r_is_detail K sp_is_word sp_is_test sp_is_count (ends Q) (start ["kind", "detail"] [.str "turned", .non]) H
    refine ⟨_, rfl, rfl, _, rfl, ifF (neS (by decide +kernel)) ?_⟩
    refine ⟨_, rfl, _, _, rfl, .inr (T.t_TESTED H), rfl, rfl, _, rfl, ibF (by decide +kernel) ?_⟩
    refine ⟨_, rfl, rfl, _, rfl, ifT rfl ⟨_, rfl, rfl, k H (Ex.refl H)⟩⟩
  | every m r =>
    simp only [sgB, Bool.and_eq_true, decide_eq_true_eq] at hb
    obtain ⟨a, rfl, ha⟩ := hd
    show r_is_detail K sp_is_word sp_is_test sp_is_count (ends Q) (start ["kind", "detail"] [.str "every", .ref a]) H
    refine ⟨_, rfl, rfl, _, rfl, ifF (neS (by decide +kernel)) ?_⟩
    refine ⟨_, rfl, _, _, rfl, .inr (T.t_TESTED H), rfl, rfl, _, rfl, ibF (by decide +kernel) ?_⟩
    refine ⟨_, rfl, rfl, _, rfl, ifF (neS (by decide +kernel)) ?_⟩
    refine ⟨_, rfl, rfl, _, rfl, ifT rfl ?_⟩
    obtain ⟨t, h1, h2⟩ := ty_tu (K := K) (n := "tuple") (b := true) ha (by decide +kernel)
    refine ⟨_, rfl, _, _, t, .type "tuple", true, rfl, .ty "tuple", h1, h2, _, rfl, iteT ?_⟩
    refine ⟨_, rfl, _, 2, rfl, .inr ⟨_, st_of ha, rfl⟩, rfl, _, rfl, ifT rfl ?_⟩
    refine ⟨_, rfl, a, _, ((0 : Nat) : Int), _, rfl, rfl, st_of ha, atI_nat (j := 0) rfl, m, 1, rfl, by omega, by omega, fun H1 e1 => ⟨true, rfl, iteT ?_⟩⟩
    exact ⟨_, rfl, a, _, ((1 : Nat) : Int), _, rfl, rfl, st_of (e1 a _ ha), atI_nat (j := 1) rfl, r, 0, rfl, by omega, by omega, fun H2 e2 => k H2 (e1.trans e2)⟩
end
end CF

/-! text CfData -/
set_option Elab.async false
set_option linter.all false
set_option maxRecDepth 100000
set_option maxHeartbeats 2000000
/-! words and atoms as data -/
namespace CF
open PySem PySem.Spec PyProof.Rows L2 Evl SeqAt
def dS (n : List Nat) : PyData := .str (SX.S n)
def dW (w : List Nm) : PyData := .tuple (w.map dS)
theorem eqvAll_str : ∀ a b : List (List Nat), PyData.eqvAll (a.map dS) (b.map dS) = decide (a = b)
  | [], [] => rfl
  | x :: xs, y :: ys => by
    show (PyData.eqv (dS x) (dS y) && PyData.eqvAll (xs.map dS) (ys.map dS)) = decide (x :: xs = y :: ys)
    rw [eqvAll_str xs ys]
    show ((SX.S x == SX.S y) && decide (xs = ys)) = _
    rw [SX.S_beq_eq]
    by_cases h1 : x = y
    · by_cases h2 : xs = ys
      · simp [h1, h2]
      · simp [h1, h2]
    · simp [h1]
  | [], _ :: _ => rfl
  | _ :: _, [] => rfl
theorem eqv_dW (a b : List Nm) : PyData.eqv (dW a) (dW b) = decide (a = b) := eqvAll_str a b
theorem any_dW (l : List (List Nm)) (w : List Nm) : (l.map dW).any (fun z => PyData.eqv z (dW w)) = decide (w ∈ l) := by
  induction l with
  | nil => rfl
  | cons a l ih =>
    rw [List.map_cons, List.any_cons, ih, eqv_dW]
    by_cases h : a = w
    · simp [h]
    · have h' : ¬ w = a := fun e => h e.symm
      simp [h, h']
theorem code_small {n : Nm} (h : nameB n = true) : ∀ c ∈ n, c < 128 := by
  match n, h with
  | c :: r, h =>
    have h : (decide (c ∈ letters) && decide (r.length ≤ 3) && r.all fun d => decide (d ∈ digits)) = true := h
    simp only [Bool.and_eq_true, decide_eq_true_eq, List.all_eq_true] at h
    have l1 : ∀ c ∈ letters, c < 128 := by decide +kernel
    have l2 : ∀ c ∈ digits, c < 128 := by decide +kernel
    intro d hd
    rcases List.mem_cons.mp hd with rfl | hd
    · exact l1 _ h.1.1
    · exact l2 _ (h.2 d hd)
theorem lay_str : ∀ {l : List (List Nat)}, (∀ n ∈ l, ∀ c ∈ n, c < 128) → PyData.canLayAll0 (l.map dS) = true
  | [], _ => rfl
  | n :: l, h => by
    show (PyData.strOk (SX.S n) && PyData.canLayAll0 (l.map dS)) = true
    rw [lay_str (l := l) fun m hm => h m (List.mem_cons_of_mem _ hm), Bool.and_true]
    show (SX.S n).cps.all (· < 0x110000) = true
    rw [← Array.all_toList]
    exact List.all_eq_true.mpr fun c hc => decide_eq_true (Nat.lt_of_lt_of_le (h n (List.mem_cons_self ..) c hc) (by decide))
theorem dep_str : ∀ l : List (List Nat), PyData.depthAll (l.map dS) = 0
  | [] => rfl
  | n :: l => by
    show max 0 (PyData.depthAll (l.map dS)) = 0
    rw [dep_str l]
    rfl
theorem lay_dW {w : List Nm} (h : wordB w = true) : PyData.canLay0 (dW w) = true := lay_str fun n hn => code_small (List.all_eq_true.mp h n hn)
theorem dep_dW (w : List Nm) : (dW w).depth = 1 := by
  show PyData.depthAll (w.map dS) + 1 = 1
  rw [dep_str]
theorem shaped_dW {w : List Nm} (h : wordB w = true) : shaped (dW w) = true := by
  unfold shaped
  rw [lay_dW h, dep_dW]
  rfl
theorem lay_all : ∀ {l : List (List Nm)}, (∀ w ∈ l, wordB w = true) → PyData.canLayAll0 (l.map dW) = true
  | [], _ => rfl
  | w :: l, h => by
    show (PyData.canLay0 (dW w) && PyData.canLayAll0 (l.map dW)) = true
    rw [lay_all (l := l) fun m hm => h m (List.mem_cons_of_mem _ hm), lay_dW (h w (List.mem_cons_self ..))]
    rfl
theorem dep_all : ∀ l : List (List Nm), PyData.depthAll (l.map dW) ≤ 1
  | [] => Nat.zero_le _
  | w :: l => by
    show max (dW w).depth (PyData.depthAll (l.map dW)) ≤ 1
    rw [dep_dW]
    have := dep_all l
    omega
theorem shaped_all {l : List (List Nm)} (h : ∀ w ∈ l, wordB w = true) : shaped (.list (l.map dW)) = true := by
  unfold shaped
  rw [show PyData.canLay0 (.list (l.map dW)) = PyData.canLayAll0 (l.map dW) from rfl, lay_all h]
  have := dep_all l
  show (true && decide (PyData.depthAll (l.map dW) + 1 ≤ 64)) = true
  rw [decide_eq_true (by omega)]
  rfl
section
variable {K : PySem.W.Frag} {H : Hp} {v : V}
theorem dp_str : ∀ l : List (List Nat), DpAll K H (l.map nV) (l.map dS)
  | [] => .nil
  | n :: l => .cons (.str _) (dp_str l)
theorem dp_Wd {w : List Nm} (h : Wd H v w) : Dp K H v (dW w) := by
  obtain ⟨a, rfl, ha⟩ := h
  exact .tup (st_of ha) (dp_str w)
theorem dp_all : ∀ {vs : List V} {l : List (List Nm)}, All2 (Wd H) vs l → DpAll K H vs (l.map dW)
  | [], [], _ => .nil
  | _ :: _, _ :: _, h => .cons (dp_Wd h.1) (dp_all h.2)
  | [], _ :: _, h => h.elim
  | _ :: _, [], h => h.elim
theorem dp_tup {a : Addr} {vs : List V} {l : List (List Nm)} (ha : SqT K H a vs) (h : All2 (Wd H) vs l) : Dp K H (.ref a) (.tuple (l.map dW)) := .tup ha (dp_all h)
theorem dp_lst {a : Addr} {vs : List V} {l : List (List Nm)} (ha : SqL K H a vs) (h : All2 (Wd H) vs l) : Dp K H (.ref a) (.list (l.map dW)) := .lst ha (dp_all h)
theorem rv_notInW {y : V} {w : List Nm} {l : List (List Nm)} (hx : Wd H v w) (hy : Dp K H y (.tuple (l.map dW))) (hw : wordB w = true) (hl : ∀ u ∈ l, wordB u = true) (Q : VK) (q : Q (.bl (!decide (w ∈ l))) H) : rInDT K true v y H Q :=
  ⟨dW w, l.map dW, dp_Wd hx, hy, shaped_dW hw, shaped_all hl, by rw [any_dW]; exact q⟩
theorem rv_inW {y : V} {w : List Nm} {l : List (List Nm)} (hx : Wd H v w) (hy : Dp K H y (.tuple (l.map dW))) (hw : wordB w = true) (hl : ∀ u ∈ l, wordB u = true) (Q : VK) (q : Q (.bl (decide (w ∈ l))) H) : rInDT K false v y H Q :=
  ⟨dW w, l.map dW, dp_Wd hx, hy, shaped_dW hw, shaped_all hl, by rw [any_dW]; exact q⟩
end
end CF

/-! text CfPF -/
set_option Elab.async false
set_option linter.all false
set_option maxRecDepth 100000
set_option maxHeartbeats 4000000
/-! the readings answer the promises: checks, counted, what is left, the teller -/
namespace CF
open PySem PySem.Spec PyProof.Rows L2 Evl
section
variable {K : PySem.W.Frag} {mg : Str → Option Value} {vs : List V} {H : Hp} {Q : VK} {E : XK} {σ : L2.St}
theorem cut_take (xs : List V) {i : Nat} (h : i ≤ xs.length) : cutV xs none (some (i : Int)) = xs.take i := by
  unfold cutV
  rw [HT.sIx_none, HT.sIx_nat, Nat.min_eq_left h]
  simp
theorem cut_drop (xs : List V) {i : Nat} (h : i ≤ xs.length) : cutV xs (some (i : Int)) none = xs.drop i := by
  unfold cutV
  rw [HT.sIx_none, HT.sIx_nat, Nat.min_eq_left h]
  exact List.take_of_length_le (by rw [List.length_drop]; omega)
theorem not_in_take {l : List (List Nm)} (nd : l.Nodup) {i : Nat} {w : List Nm} (h : l[i]? = some w) : w ∉ l.take i := by
  intro m
  obtain ⟨j, hj⟩ := List.getElem?_of_mem m
  rw [List.getElem?_take] at hj
  split at hj
  · rename_i hlt
    obtain ⟨p1, q1⟩ := List.getElem?_eq_some_iff.mp hj
    obtain ⟨p2, q2⟩ := List.getElem?_eq_some_iff.mp h
    exact (List.pairwise_iff_getElem.mp nd) j i p1 p2 hlt (q1.trans q2.symm)
  · cases hj
theorem p_check_atoms (h : sp_check_atoms vs H Q E) : r_check_atoms K sp_are_names (ends Q) (start ["atoms", "index", "atom"] vs) H := by
  obtain ⟨v, ats, rfl, ⟨a, avs, rfl, ha, hl⟩, nd, h6, hw, k⟩ := h
  obtain ⟨ty, h1, h2⟩ := ty_rd (K := K) (n := "tuple") (b := true) ha (by decide +kernel)
  refine ⟨_, rfl, _, _, ty, .type "tuple", true, rfl, .ty "tuple", h1, h2, true, rfl, ibF (b := !true) rfl ?_⟩
  have hq : ∀ {H' : Hp}, Ex H H' → SqT K H' a avs := fun e => .inl (ex_rd e ha)
  refine ⟨_, rfl, a, avs, rfl, hq (Ex.refl H), ?_⟩
  refine for_enumT (fun i σ' H' => Ex H H' ∧ ∃ o1 o2, σ' = [some (.ref a), o1, o2]) ⟨Ex.refl H, none, none, rfl⟩ (fun i σ' H' _ p => hq p.1) ?_ ?_
  · rintro i x σ' H' hi ⟨e0, o1, o2, rfl⟩ b hb
    refine ⟨b, _, rfl, st_of upd_same, rfl, _, _, rfl, _, _, rfl, rfl, ?_⟩
    have e := e0.trans (Ex.new (o := .tup [.int (i : Nat), x]) hb)
    obtain ⟨w, hwi, hx⟩ := hl.at hi
    have hx := hx.fx (Fx.of e)
    have hlt : i < ats.length := (List.getElem?_eq_some_iff.mp hwi).1
    obtain ⟨w1, w2, w3⟩ := hw w (List.mem_of_getElem? hwi)
    refine ⟨_, rfl, rfl, _, rfl, ifF (fun z => by injection z with z; omega) ?_⟩
    refine ⟨_, rfl, x, w, 1, 30, rfl, hx, w1, by omega, by omega, by omega, fun H1 e1 => ⟨true, rfl, ibF (b := !true) rfl ?_⟩⟩
    have hi' : i < avs.length := (List.getElem?_eq_some_iff.mp hi).1
    refine ⟨_, rfl, _, rfl, _, rfl, _, rfl, a, avs, rfl, hq (e.trans e1), fun z => ?_, fun _ p hp => ?_⟩
    · rw [HT.sIx_nat, Nat.min_eq_left (Nat.le_of_lt hi')] at z
      omega
    · rw [cut_take avs (Nat.le_of_lt hi')]
      have e2 : Ex H1 (upd H1 p (.tup (avs.take i))) := Ex.new hp
      have e3 := (e.trans e1).trans e2
      refine rv_inW (l := ats.take i) (hx.fx (Fx.of (e1.trans e2))) (dp_tup (st_of upd_same) ((hl.imp fun _ _ z => z.fx (Fx.of e3)).take i)) w1 (fun u hu => (hw u (List.mem_of_mem_take hu)).1) _ ?_
      refine ⟨_, rfl, ibF (decide_eq_false (not_in_take nd hwi)) ⟨e3, some (.int i), some x, rfl⟩⟩
  · rintro σ' H' ⟨e, o1, o2, rfl⟩
    exact k H' e
theorem p_is_row (h : sp_is_row vs H Q E) : r_is_row K (ends Q) (start ["value", "many", "truth"] vs) H := by
  obtain ⟨v, r, rfl, ⟨a, rfl, ha⟩, hz, k⟩ := h
  have hv : ∀ {H1 : Hp}, Ev (tVar 0) (start ["value", "many", "truth"] [.ref a, .int (r.length : Nat)]) H1 (.ref a) := fun {H1} => ev_var rfl
  have hn : (bV r).length = r.length := List.length_map ..
  refine s_ret (ev_andV (a := true) (b := true) (ev_isi hv fun H1 e => ty_tu (e a _ ha) (by decide +kernel)) fun _ => ev_andV (a := true) (b := true) (ev_is (ev_op (ev_lenT hv (st_of ha)) (ev_var rfl) (rv_eq rfl)) ?_) fun _ => ?_) k
  · rw [hn]
    exact congrArg V.bl (decide_eq_true rfl)
  · have z := ev_all (K := K) (bs := r.map fun _ => true) (σ := start ["value", "many", "truth"] [.ref a, .int (r.length : Nat)]) (H := H) (ta := tLc (iTup K (tVar 0)) (gName 2) tYes (tCB (rIsi K) (tCons (tVar 2) (tCons (tC (.ty "bool")) tNil))) [2])
      (el_mapT hv (st_of ha) (by omega) (by simp [hn]) (fun x => rfl) fun i x y H2 e2 hx hy => by
        have hx : (r.map V.bl)[i]? = some x := hx
        rw [List.getElem?_map] at hx
        cases q : r[i]? with
        | none => rw [q] at hx; cases hx
        | some b =>
          rw [q] at hx
          obtain rfl := Option.some.inj hx
          simp only [List.map_map, List.getElem?_map, q, Option.map_some, Option.some.injEq, Function.comp] at hy
          subst hy
          exact ev_isi (ev_var rfl) fun H1 e => ty_bl b H1 (by decide +kernel))
    rw [show (r.map fun _ => true).all id = true by simp] at z
    exact z
theorem p_check_rows (h : sp_check_rows vs H Q E) : r_check_rows K sp_is_row (ends Q) (start ["rows", "many", "index", "row"] vs) H := by
  obtain ⟨v, rows, n, rfl, ⟨a, avs, rfl, ha, hl⟩, hn, hr, k⟩ := h
  obtain ⟨ty, h1, h2⟩ := ty_tu (K := K) (n := "tuple") (b := true) ha (by decide +kernel)
  refine ⟨_, rfl, _, _, ty, .type "tuple", true, rfl, .ty "tuple", h1, h2, true, rfl, ibF (b := !true) rfl ?_⟩
  refine ⟨_, rfl, a, avs, rfl, st_of ha, ?_⟩
  refine for_enumT (fun i σ' H' => Ex H H' ∧ ∃ o1 o2, σ' = [some (.ref a), some (.int n), o1, o2]) ⟨Ex.refl H, none, none, rfl⟩ (fun i σ' H' _ p => st_of (p.1 a _ ha)) ?_ ?_
  · rintro i x σ' H' hi ⟨e0, o1, o2, rfl⟩ b hb
    refine ⟨b, _, rfl, st_of upd_same, rfl, _, _, rfl, _, _, rfl, rfl, ?_⟩
    have e := e0.trans (Ex.new (o := .tup [.int (i : Nat), x]) hb)
    obtain ⟨r, hri, hx⟩ := hl.at hi
    have hlen := hr r (List.mem_of_getElem? hri)
    exact ⟨_, rfl, _, rfl, x, r, by rw [hlen]; rfl, hx.fx (Fx.of e), by omega, fun H1 e1 => ⟨true, rfl, ibF (b := !true) rfl ⟨e.trans e1, some (.int i), some x, rfl⟩⟩⟩
  · rintro σ' H' ⟨e, o1, o2, rfl⟩
    exact k H' e
theorem ev_detail {te : TE} {v : V} {st : Step Nm} (h : Ev te σ H v) (hs : Stg K H v st) : ∀ H1, Ex H H1 → ∀ Q : VK, (∀ d H2, Ex H1 H2 → Det H2 d st.s → Q d H2) → tProp (He.ga K "Stage") (sp_Stage_detail K) [] C8.E0 te σ H1 Q := fun H1 e Q q =>
  h H1 e _ fun H2 e2 => by
    have hs2 := hs.fx (Fx.of (e.trans e2))
    have hs' := hs2
    obtain ⟨a, dx, t, d, rfl, ha, ht, hd⟩ := hs2
    exact ⟨a, dx, _, rfl, ha, _, st, rfl, hs', fun H3 d e3 hd => q d H3 (e2.trans e3) (hd.fx (Fx.of e3))⟩
theorem ev_dint {te : TE} {v : V} {st : Step Nm} {n : Nat} (h : Ev te σ H v) (hs : Stg K H v st) (hd : ∀ H2 d, Det H2 d st.s → d = .int n) : Ev (tProp (He.ga K "Stage") (sp_Stage_detail K) [] C8.E0 te) σ H (.int n) := fun H1 e Q q =>
  ev_detail h hs H1 e Q fun d H2 e2 hdd => by
    rw [hd H2 d hdd]
    exact q H2 e2
theorem p_left_of (h : sp_left_of K vs H Q E) : r_left_of K (sp_Stage_kind K) (sp_Stage_detail K) (ends Q) (start ["stage", "values", "many"] vs) H := by
  obtain ⟨v, a, st, xs, rfl, hs, hli, ⟨es, ha, he⟩, hz, k⟩ := h
  have hlen : es.length = xs.length := he.len
  have hv : ∀ {H1 : Hp} {o : Option V}, Ev (tVar 0) [some v, some (.ref a), o] H1 v := fun {H1 o} => ev_var rfl
  have hk : ∀ {H1 : Hp} {o : Option V}, Ex H H1 → Ev (tProp (He.ga K "Stage") (sp_Stage_kind K) [] C8.E0 (tVar 0)) [some v, some (.ref a), o] H1 (.str st.s.kd) := fun e => ev_kind hv (hs.fx (Fx.of e))
  have main : ∀ {n : Nat}, (∀ H2 d, Det H2 d st.s → d = .int n) → (st.s.kd == "turned") = false → (leftOf st.s xs = if (st.s.kd == "last") = true then xs.drop (xs.length - n) else xs.take (xs.length - n)) → r_left_of K (sp_Stage_kind K) (sp_Stage_detail K) (ends Q) (start ["stage", "values", "many"] [v, .ref a]) H := by
    intro n hd2 hne hlo
    refine q_when (b := decide (V.str st.s.kd = V.str "turned")) (et_test (ev_op (hk (Ex.refl H)) ev_c (rv_eq rfl))) (fun hb => absurd (of_decide_eq_true hb) (neS hne)) fun _ H1 e1 => ?_
    have hsub : Ev (tOp rSubI (tCB (rLen K) (tCons (tVar 1) tNil)) (tProp (He.ga K "Stage") (sp_Stage_detail K) [] C8.E0 (tVar 0))) [some v, some (.ref a), none] H1 (.int (((es.length : Nat) : Int) - (n : Int))) :=
      ev_op (ev_lenL (ev_var rfl) (sq_of (e1 a _ ha))) (ev_dint hv (hs.fx (Fx.of e1)) hd2) (rv_I0 (g := fun i j => .int (i - j)))
    refine q_asg (v := .int ((xs.length - n : Nat) : Int)) (ev_is (ev_max2 (i := 0) ev_c hsub) ?_) fun H2 e2 => ?_
    · rw [hlen]
      split <;> exact congrArg V.int (by omega)
    have e3 := e1.trans e2
    refine hk (o := some (.int ((xs.length - n : Nat) : Int))) e3 H2 (Ex.refl H2) _ fun H3 e4 => ⟨rfl, _, rfl, ?_⟩
    have e5 := e3.trans e4
    have hn : xs.length - n ≤ es.length := by omega
    have fin : ∀ (p : Addr) (ys : List V), H3 p = none → All2 (Ent H3) ys (leftOf st.s xs) → Q (.ref p) (upd H3 p (.lst ys)) := fun p ys hp hy =>
      k p _ (e5.trans (Ex.new hp)) (fresh_back e5 hp) ⟨ys, upd_same, hy.imp fun _ _ z => z.fx (Fx.of (Ex.new hp))⟩
    by_cases hl : (st.s.kd == "last") = true
    · rw [if_pos hl] at hlo
      refine ifT (by rw [eq_of_beq hl]) ⟨_, rfl, _, rfl, _, rfl, a, es, rfl, sq_of (e5 a _ ha), fun p hp => ?_⟩
      rw [cut_drop es hn]
      refine fin p _ hp ?_
      rw [hlo]
      exact (he.imp fun _ _ z => z.fx (Fx.of e5)).drop _
    · rw [if_neg hl] at hlo
      refine ifF (neS (by simpa using hl)) ⟨_, rfl, _, rfl, _, rfl, a, es, rfl, sq_of (e5 a _ ha), fun p hp => ?_⟩
      rw [cut_take es hn]
      refine fin p _ hp ?_
      rw [hlo]
      exact (he.imp fun _ _ z => z.fx (Fx.of e5)).take _
  obtain ⟨s, now⟩ := st
  cases s with
  | last n => exact main (n := n) (fun _ _ z => z) (by show (("last" : Str) == "turned") = false; decide +kernel) (by rw [if_pos (by show (("last" : Str) == "last") = true; decide +kernel)]; rfl)
  | butl n => exact main (n := n) (fun _ _ z => z) (by show (("but last" : Str) == "turned") = false; decide +kernel) (by rw [if_neg (by show ¬ (("but last" : Str) == "last") = true; decide +kernel)]; rfl)
  | turned =>
    refine q_when (b := decide (V.str (Sg.kd (Sg.turned : Sg Nm)) = V.str "turned")) (et_test (ev_op (hk (Ex.refl H)) ev_c (rv_eq rfl))) (fun _ H1 e1 => ?_) fun hb => absurd rfl (of_decide_eq_false hb)
    refine ⟨_, rfl, a, es, rfl, sq_of (e1 a _ ha), fun p hp => k p _ (e1.trans (Ex.new hp)) (fresh_back e1 hp) ⟨es.reverse, upd_same, (he.imp fun _ _ z => z.fx (Fx.of (e1.trans (Ex.new hp)))).rev⟩⟩
  | _ => cases hli
theorem p_is_counted_in (h : sp_is_counted_in vs H Q E) : r_is_counted_in K (ends Q) (start ["kind", "detail", "seen", "period", "start"] vs) H := by
  obtain ⟨d, s, i, rfl, hd, hb, hc, k⟩ := h
  cases s with
  | first n =>
    obtain rfl : d = .int n := hd
    show r_is_counted_in K (ends Q) (start ["kind", "detail", "seen", "period", "start"] [.str "first", .int n, .int (i + 1 : Nat)]) H
    refine ⟨_, rfl, rfl, _, rfl, ifT rfl ⟨_, rfl, _, rfl, _, _, rfl, rfl, ?_⟩⟩
    have := k H (Ex.refl H)
    rw [show cnt (.first n) i = decide (((i + 1 : Nat) : Int) ≤ (n : Int)) by unfold cnt; exact decide_eq_decide.mpr (by omega)] at this
    exact this
  | skip n =>
    obtain rfl : d = .int n := hd
    show r_is_counted_in K (ends Q) (start ["kind", "detail", "seen", "period", "start"] [.str "skip", .int n, .int (i + 1 : Nat)]) H
    refine ⟨_, rfl, rfl, _, rfl, ifF (neS (by decide +kernel)) ?_⟩
    refine ⟨_, rfl, rfl, _, rfl, ifT rfl ⟨_, rfl, _, rfl, _, _, rfl, rfl, ?_⟩⟩
    have := k H (Ex.refl H)
    rw [show cnt (.skip n) i = decide ((n : Int) < ((i + 1 : Nat) : Int)) by unfold cnt; exact decide_eq_decide.mpr (by omega)] at this
    exact this
  | every m r =>
    obtain ⟨a, rfl, ha⟩ := hd
    simp only [sgB, Bool.and_eq_true, decide_eq_true_eq] at hb
    show r_is_counted_in K (ends Q) (start ["kind", "detail", "seen", "period", "start"] [.str "every", .ref a, .int (i + 1 : Nat)]) H
    refine ⟨_, rfl, rfl, _, rfl, ifF (neS (by decide +kernel)) ?_⟩
    refine ⟨_, rfl, rfl, _, rfl, ifF (neS (by decide +kernel)) ?_⟩
    refine ⟨_, rfl, a, _, rfl, st_of ha, rfl, _, _, rfl, _, _, rfl, rfl, ?_⟩
    refine ⟨_, rfl, _, rfl, _, _, rfl, rfl, _, rfl, ?_⟩
    have h1 : decide ((r : Int) < ((i + 1 : Nat) : Int)) = decide (r < i + 1) := decide_eq_decide.mpr (by omega)
    rw [h1]
    by_cases hr : r < i + 1
    · refine ibT (decide_eq_true hr) ?_
      refine ⟨_, rfl, _, _, rfl, rfl, _, rfl, _, _, rfl, rfl, _, rfl, _, _, rfl, rfl, by show (0 : Int) < (m : Int); omega, rfl, ?_⟩
      have e : (((i + 1 : Nat) : Int) - 1 - (r : Int)) % (m : Int) = (((i - r) % m : Nat) : Int) := by
        rw [show (((i + 1 : Nat) : Int) - 1 - (r : Int)) = ((i - r : Nat) : Int) by omega]
        exact (Int.natCast_emod _ _).symm
      have := k H (Ex.refl H)
      show Q (.bl (decide (V.int ((((i + 1 : Nat) : Int) - 1 - (r : Int)) % (m : Int)) = V.int 0))) H
      rw [e]
      rw [show cnt (.every m r) i = decide (V.int (((i - r) % m : Nat) : Int) = V.int 0) by
        unfold cnt
        refine decide_eq_decide.mpr ⟨fun z => ?_, fun z => ?_⟩
        · rw [z.2]
          rfl
        · injection z with z
          exact ⟨hr, by omega⟩] at this
      exact this
    · refine ibF (decide_eq_false hr) ?_
      have := k H (Ex.refl H)
      rw [show cnt (.every m r) i = false by
        unfold cnt
        exact decide_eq_false fun z => hr z.1] at this
      exact this
  | _ => cases hc
end
end CF

/-! text CfPG -/
set_option Elab.async false
set_option linter.all false
set_option maxRecDepth 100000
set_option maxHeartbeats 4000000
/-! the readings answer the promises: the teller -/
namespace CF
open PySem PySem.Spec PyProof.Rows L2 Evl
theorem keyW_inj : ∀ {a b : List Nm}, keyW a = keyW b → a = b
  | [], [], _ => rfl
  | x :: a, y :: b, h => by
    have h : Sum.inr (SX.S x) :: keyW a = Sum.inr (SX.S y) :: keyW b := h
    injection h with h1 h2
    injection h1 with h1
    rw [SX.S_inj h1, keyW_inj h2]
  | [], _ :: _, h => by cases h
  | _ :: _, [], h => by cases h
def plG (l : List (List Nm)) (n : Nat) : List (List Key × V) := (l.zipIdx n).map fun p => (keyW p.1, V.int (p.2 : Nat))
theorem val_pl : ∀ (l : List (List Nm)) (n : Nat) (w : List Nm), valV (plG l n) (keyW w) = if w ∈ l then some (V.int ((n + l.idxOf w : Nat) : Int)) else none
  | [], n, w => by simp [plG, valV]
  | a :: l, n, w => by
    have e : plG (a :: l) n = (keyW a, V.int (n : Nat)) :: plG l (n + 1) := rfl
    rw [e]
    by_cases h : a = w
    · subst h
      rw [valV_pos rfl, if_pos (List.mem_cons_self ..), List.idxOf_cons_self]
      rfl
    · rw [valV_neg (fun z => h (keyW_inj z)), val_pl l (n + 1) w]
      have h' : ¬ w = a := fun z => h z.symm
      by_cases hm : w ∈ l
      · rw [if_pos hm, if_pos (List.mem_cons_of_mem _ hm), List.idxOf_cons, beq_false_of_ne h]
        exact congrArg (fun k : Nat => some (V.int (k : Int))) (by simp only [cond_false]; omega)
      · rw [if_neg hm, if_neg (by simp [h', hm])]
theorem val_places (l : List (List Nm)) (w : List Nm) : valV (placesOf l) (keyW w) = if w ∈ l then some (V.int ((l.idxOf w : Nat) : Int)) else none := by
  have := val_pl l 0 w
  rw [Nat.zero_add] at this
  exact this
theorem places_snoc {l : List (List Nm)} {i : Nat} {w : List Nm} (h : l[i]? = some w) : placesOf (l.take (i + 1)) = placesOf (l.take i) ++ [(keyW w, V.int (i : Nat))] := by
  have hi := (List.getElem?_eq_some_iff.mp h).1
  unfold placesOf
  rw [take_snoc h, List.zipIdx_append, List.map_append]
  have e : (l.take i).length = i := by rw [List.length_take]; omega
  rw [e]
  simp
theorem key_kV (w : List Nm) : (keyW w).map kV = tV w := by
  unfold keyW tV
  rw [List.map_map]
  rfl
section
variable {K : PySem.W.Frag} {mg : Str → Option Value} {vs : List V} {H H' : Hp} {Q : VK} {E : XK} {σ : L2.St}
theorem fxm {m : Addr} {xs : List V} (hm : H m = some (.lst xs)) (k : Kp [m] H H') : Fx H H' := k.fx fun a ha o e => by
  rw [List.mem_singleton] at ha
  subst ha
  rw [hm] at e
  cases e
  rfl
theorem Tel.fx {t m : Addr} {ats : List (List Nm)} {rows : List (List Bool)} (h : Tel K H t m ats rows) (e : Fx H H') : Tel K H' t m ats rows := by
  obtain ⟨dx, rv, d, h1, h2, h3⟩ := h
  exact ⟨dx, rv, d, e t _ h1 (by
    show (List.lookup ("stage" : Str) [(("rows_told" : Str), rv), ("places", .ref d), ("made", .ref m)]).isNone && !(List.isEmpty [(("rows_told" : Str), rv), ("places", .ref d), ("made", .ref m)]) = true
    have q : List.lookup ("stage" : Str) [(("rows_told" : Str), rv), ("places", .ref d), ("made", .ref m)] = none := by
      rw [List.lookup_cons, show (("stage" : Str) == "rows_told") = false by decide +kernel, List.lookup_cons, show (("stage" : Str) == "places") = false by decide +kernel, List.lookup_cons, show (("stage" : Str) == "made") = false by decide +kernel]
      rfl
    rw [q]
    rfl), h2.fx e, e d _ h3 rfl⟩
theorem p_Teller___init__ (T : Tx K mg) (h : sp_Teller K vs H Q E) : r_Teller___init__ K (ends Q) (start ["self", "atoms", "rows", "atom", "place"] vs) H := by
  obtain ⟨t, dx, av, rv, ats, rows, rfl, ht, ⟨a, avs, rfl, ha, hl⟩, hr, wb, k⟩ := h
  refine ⟨_, rfl, _, rfl, t, _, dx, [], rfl, ht, T.cls_Teller, T.no_Teller_rows_told, by decide, ?_⟩
  generalize hH1 : upd H t (.ins (He.ga K "Teller") dx (putF "rows_told" rv [])) = H1
  have k1 : Kp [t] H H1 := by rw [← hH1]; exact (Kp.refl [t] H).put (by simp)
  have f1 : Fx H H1 := fun b o e f => k1.keep b o e (by
    intro hb
    rw [List.mem_singleton] at hb
    rw [hb, ht] at e
    cases e
    cases f)
  have t1 : H1 t = some (.ins (He.ga K "Teller") dx (putF "rows_told" rv [])) := by rw [← hH1]; exact upd_same
  have ha1 : Rd H1 a (.tup avs) := rd_fx ha f1
  have hl1 : All2 (Wd H1) avs ats := hl.imp fun _ _ z => z.fx f1
  refine ⟨_, rfl, a, avs, rfl, .inl ha1, fun D hD => ?_⟩
  refine dcT_enum (xs := avs) (fun i H' => Ex H1 H' ∧ H' D = some (.dT (placesOf (ats.take i)))) ⟨Ex.new hD, by rw [upd_same]; rfl⟩ (fun i H' _ p => .inl (ex_rd p.1 ha1)) ?_ ?_
  · rintro i x H' hi ⟨e, hd⟩ b hb
    obtain ⟨w, hwi, hx⟩ := hl1.at hi
    have e2 : Ex H' (upd H' b (.tup [.int (i : Nat), x])) := Ex.new hb
    obtain ⟨p, rfl, hp⟩ := hx.fx (Fx.of (e.trans e2))
    have hlt : i < ats.length := (List.getElem?_eq_some_iff.mp hwi).1
    refine ⟨b, _, rfl, st_of upd_same, rfl, _, _, rfl, _, _, rfl, rfl, rfl, ?_⟩
    refine ⟨_, rfl, _, rfl, placesOf (ats.take i), keyW w, p, rfl, ?_, e2 D _ hd, ?_, ?_, ?_⟩
    · rw [key_kV]
      exact hp
    · have := wb.len
      refine sz_lt ?_
      unfold placesOf
      rw [List.length_map, List.length_zipIdx, List.length_take]
      omega
    · exact Ex.mut (e.trans e2) hD
    · rw [upd_same, putK_new _ (by rw [val_places, if_neg (not_in_take wb.nd hwi)]), places_snoc hwi]
  · rintro H2 ⟨e, hd⟩
    rw [hl.len, List.take_length] at hd
    have ntD : t ≠ D := ne_of_none t1 hD
    refine ⟨_, rfl, t, _, dx, _, rfl, e t _ t1, T.cls_Teller, T.no_Teller_places, by show 1 < 1000; decide, ?_⟩
    refine ⟨Nat.zero_le _, fun m hm => ?_⟩
    generalize hH3 : upd H2 t (.ins (He.ga K "Teller") dx (putF "places" (.ref D) (putF "rows_told" rv []))) = H3 at hm
    have k3 : Kp [t] H H3 := by rw [← hH3]; exact (k1.trans (Kp.of e)).put (by simp)
    have t3 : H3 t = some (.ins (He.ga K "Teller") dx (putF "places" (.ref D) (putF "rows_told" rv []))) := by rw [← hH3]; exact upd_same
    have ntm : t ≠ m := ne_of_none t3 hm
    refine ⟨_, rfl, t, _, dx, _, rfl, by rw [upd_ne ntm]; exact t3, T.cls_Teller, T.no_Teller_made, by show 2 < 1000; decide, ?_⟩
    have k4 : Kp [t] H (upd (upd H3 m (.lst [])) t (.ins (He.ga K "Teller") dx (putF "made" (.ref m) (putF "places" (.ref D) (putF "rows_told" rv []))))) := (k3.new hm).put (by simp)
    have f4 : Fx H (upd (upd H3 m (.lst [])) t (.ins (He.ga K "Teller") dx (putF "made" (.ref m) (putF "places" (.ref D) (putF "rows_told" rv []))))) := fun b o e f => k4.keep b o e (by
      intro hb
      rw [List.mem_singleton] at hb
      rw [hb, ht] at e
      cases e
      cases f)
    refine k m _ k4 (k3.none_of hm) ⟨dx, rv, D, by rw [upd_same]; rfl, hr.fx f4, ?_⟩ ?_
    · rw [upd_ne ntD.symm]
      have h3D : H3 D = some (.dT (placesOf ats)) := by rw [← hH3, upd_ne ntD.symm]; exact hd
      rw [upd_ne (ne_of_none h3D hm)]
      exact h3D
    · rw [upd_ne ntm.symm]
      exact upd_same
theorem lk2 {x y : Str} {v w : V} {r : List (Str × V)} (h : (x == y) = false) : ((y, w) :: (x, v) :: r).lookup x = some v := by rw [List.lookup_cons, h, List.lookup_cons, beq_self_eq_true]
theorem lk3 {x y z : Str} {v w u : V} {r : List (Str × V)} (h : (x == y) = false) (h2 : (x == z) = false) : ((y, w) :: (z, u) :: (x, v) :: r).lookup x = some v := by rw [List.lookup_cons, h, List.lookup_cons, h2, List.lookup_cons, beq_self_eq_true]
theorem ev_made (T : Tx K mg) {te : TE} {t m : Addr} {ats : List (List Nm)} {rows : List (List Bool)} (h : Ev te σ H (.ref t)) (ht : Tel K H t m ats rows) : Ev (tFld K te "made") σ H (.ref m) := by
  obtain ⟨dx, rv, d, h1, h2, h3⟩ := ht
  exact ev_fld T.cls_Teller T.no_Teller_made h h1 (lk3 (by decide +kernel) (by decide +kernel))
theorem behC_len (i : Nat) : ∀ (ns w : List Nm), (behC i ns w).length = ns.length
  | [], _ => rfl
  | n :: r, w => by
    show (behC i r w ++ [(i, n :: (r ++ w))]).length = _
    rw [List.length_append, behC_len i r w]
    rfl
theorem wordB_app {a b : List Nm} (h1 : wordB a = true) (h2 : wordB b = true) : wordB (a ++ b) = true := by
  unfold wordB at *
  rw [List.all_append, h1, h2]
  rfl
theorem p_Teller_behind (T : Tx K mg) (h : sp_Teller_behind K vs H Q E) : r_Teller_behind K sp_term_of (ends Q) (start ["self", "names", "value", "index", "word", "name"] vs) H := by
  obtain ⟨t, m, ats, rows, nv, ev, ns, x, cs, rfl, ht, ⟨a, rfl, ha⟩, hns, hn4, ⟨b, u, rfl, hb, hu⟩, hvb, h9, hm, hcs, k⟩ := h
  refine ⟨_, rfl, b, _, rfl, st_of hb, rfl, _, _, rfl, _, _, rfl, rfl, ?_⟩
  refine ⟨_, rfl, a, tV ns, rfl, st_of ha, fun p hp => ⟨p, rfl, ⟨_, st_of upd_same⟩, ?_⟩⟩
  have hl : (tV ns).reverse.length = ns.length := by rw [List.length_reverse]; exact List.length_map ..
  generalize hH1 : upd H p (.tup (tV ns).reverse) = H1
  have k1 : Kp [m] H H1 := by rw [← hH1]; exact Kp.of (Ex.new hp)
  have p1 : H1 p = some (.tup (tV ns).reverse) := by rw [← hH1]; exact upd_same
  have m1 : H1 m = some (.lst (cV cs)) := by rw [← hH1, upd_ne (ne_of_none hm hp)]; exact hm
  refine for_tup (xs := (tV ns).reverse) (fun i σ' H' => Kp [m] H1 H' ∧ H' m = some (.lst (cV (cs ++ behC x.1 (ns.drop (ns.length - i)) x.2))) ∧ ∃ u o, Wd H' u (ns.drop (ns.length - i) ++ x.2) ∧ σ' = [some (.ref t), some (.ref a), some (.ref b), some (.int (x.1 : Nat)), some u, o]) ⟨Kp.refl _ _, ?_, u, none, ?_, rfl⟩ (fun i σ' H' _ q => st_of (q.1.keep p _ p1 (by simp; exact fun z => by rw [z, m1] at p1; cases p1))) ?_ ?_
  · rw [show ns.drop (ns.length - 0) = [] by simp]
    show H1 m = some (.lst (cV (cs ++ [])))
    rw [List.append_nil]
    exact m1
  · rw [show ns.drop (ns.length - 0) = [] by simp]
    exact hu.fx (fxm hm k1)
  · rintro i y σ' H' hi ⟨kk, hm', u', o, hu', rfl⟩
    obtain ⟨hi', n, rfl, hd⟩ := rev_at hi
    have hb1 := wordB_drop hns (ns.length - (i + 1))
    have hw1 : wordB (ns.drop (ns.length - (i + 1)) ++ x.2) = true := wordB_app hb1 hvb.word
    have hl2 : (ns.drop (ns.length - (i + 1)) ++ x.2).length ≤ 100 := by
      have := hvb.len
      rw [List.length_append, List.length_drop]
      omega
    have hx9 : x.1 ≤ 9 := by have := hvb.at_; omega
    obtain ⟨ua, rfl, hua⟩ := hu'
    have f' : Fx H H' := (fxm hm k1).trans (fxm m1 kk)
    refine ⟨_, rfl, _, rfl, ua, _, rfl, .inl (st_of hua), ?_, fun q hq => ?_⟩
    · rw [List.length_cons, List.append_nil]
      unfold tV
      rw [List.length_map]
      have : (ns.drop (ns.length - i) ++ x.2).length ≤ 100 := by
        have := hvb.len
        rw [List.length_append, List.length_drop]
        omega
      exact sz_of (by omega)
    · have e2 : Ex H' (upd H' q (.tup (nV n :: (tV (ns.drop (ns.length - i) ++ x.2) ++ [])))) := Ex.new hq
      have hw : Wd (upd H' q (.tup (nV n :: (tV (ns.drop (ns.length - i) ++ x.2) ++ [])))) (.ref q) (ns.drop (ns.length - (i + 1)) ++ x.2) := ⟨q, rfl, by
        rw [upd_same, hd, List.append_nil]
        rfl⟩
      refine s_app (l := m) (xs := cV (cs ++ behC x.1 (ns.drop (ns.length - i)) x.2)) (v := nV (termL (x.1, ns.drop (ns.length - (i + 1)) ++ x.2))) (e2 m _ hm') (ev_made T (ev_var rfl) (ht.fx (f'.trans (Fx.of e2)))) (ev_call (ea_cons (ev_var rfl) (ea_cons (ev_var rfl) ea_nil)) fun H3 e3 Q q E => ⟨_, (x.1, ns.drop (ns.length - (i + 1)) ++ x.2), rfl, hw.fx (Fx.of e3), hw1, hl2, hx9, q⟩) ?_ fun H3 e3 => ?_
      · unfold cV
        rw [List.length_map, List.length_append, behC_len, List.length_drop]
        omega
      · refine ⟨((kk.trans (Kp.of e2)).trans (Kp.of e3)).put (by simp), ?_, .ref q, some (nV n), ?_, rfl⟩
        · rw [upd_same, hd]
          show some (HO.lst _) = some (HO.lst (cV (cs ++ (behC x.1 (ns.drop (ns.length - i)) x.2 ++ [(x.1, n :: (ns.drop (ns.length - i) ++ x.2))]))))
          unfold cV
          rw [← List.append_assoc, List.map_append (l₂ := [_])]
          rfl
        · obtain ⟨q2, e, hq2⟩ := hw.fx (Fx.of e3)
          cases e
          refine ⟨q, rfl, ?_⟩
          rw [upd_ne (fun z => by rw [z, e3 m _ (e2 m _ hm')] at hq2; cases hq2)]
          exact hq2
  · rintro σ' H' ⟨kk, hm', u', o, hu', rfl⟩
    rw [hl] at hm' hu'
    rw [show ns.drop (ns.length - ns.length) = ns by simp] at hm' hu'
    refine ⟨_, rfl, _, rfl, by show 2 ≤ sizeLine; decide, fun q hq => ?_⟩
    refine k (.ref q) _ ((k1.trans kk).new hq) ?_ ⟨q, u', rfl, upd_same, hu'.fx (Fx.of (Ex.new hq))⟩
    rw [upd_ne (ne_of_none hm' hq)]
    exact hm'
theorem p_Teller_is_true (T : Tx K mg) (h : sp_Teller_is_true K vs H Q E) : r_Teller_is_true K (sp_Teller_behind K) (ends Q) (start ["self", "test", "value", "index", "atom"] vs) H := by
  obtain ⟨t, m, ats, rows, nv, ev, ns, x, cs, rfl, ht, wb, hnv, hns, hn4, hev, hvb, hin, hm, hcs, k⟩ := h
  have ht0 := ht
  obtain ⟨dx, rv, d, h1, h2, h3⟩ := ht
  refine ⟨_, rfl, t, dx, _, rfl, h1, ?_, _, rfl, _, rfl, t, m, ats, rows, nv, ev, ns, x, cs, rfl, ht0, hnv, hns, hn4, hev, hvb, wb.many, hm, hcs, fun v H' kk hm' he => ?_⟩
  · rw [List.lookup_cons, show (("behind" : Str) == "rows_told") = false by decide +kernel, List.lookup_cons, show (("behind" : Str) == "places") = false by decide +kernel, List.lookup_cons, show (("behind" : Str) == "made") = false by decide +kernel]
    rfl
  obtain ⟨b, u, rfl, hb, ⟨ua, rfl, hua⟩⟩ := he
  have f := fxm hm kk
  obtain ⟨dx', rv', d', h1', h2', h3'⟩ := ht0.fx f
  refine ⟨b, _, rfl, st_of hb, rfl, _, _, rfl, _, _, rfl, rfl, ?_⟩
  obtain ⟨ra, rvs, rfl, hra, hrl⟩ := h2'
  have hx := hvb.at_
  have hrl2 := hrl.len
  obtain ⟨r1, hr1⟩ := getE (xs := rvs) (i := x.1) (by omega)
  obtain ⟨row, hrow, rr⟩ := hrl.at hr1
  obtain ⟨rwa, rfl, hrwa⟩ := rr
  have hrlen := wb.row row (List.mem_of_getElem? hrow)
  have hid : ats.idxOf (ns ++ x.2) < ats.length := List.idxOf_lt_length_of_mem hin
  have hbit : (bV row)[ats.idxOf (ns ++ x.2)]? = some (.bl (truthOf ats rows x.1 (ns ++ x.2))) := by
    unfold bV
    rw [List.getElem?_map]
    have h0 : row[ats.idxOf (ns ++ x.2)]? = some (row[ats.idxOf (ns ++ x.2)]'(by omega)) := List.getElem?_eq_getElem (by omega)
    unfold truthOf
    rw [List.getD_eq_getElem?_getD, List.getD_eq_getElem?_getD, hrow, Option.getD_some, h0]
    rfl
  refine ⟨_, rfl, t, _, dx', _, _, rfl, h1', T.cls_Teller, T.no_Teller_rows_told, lk1, _, rfl, ra, rvs, (x.1 : Int), _, rfl, rfl, st_of hra, atI_nat hr1, ?_⟩
  refine ⟨_, rfl, t, _, dx', _, _, rfl, h1', T.cls_Teller, T.no_Teller_places, lk2 (by decide +kernel), _, rfl, d', _, rfl, .inr ⟨placesOf ats, keyW (ns ++ x.2), ua, .inl h3', rfl, by rw [key_kV]; exact hua, (by rw [val_places, if_pos hin])⟩, ?_⟩
  exact ⟨rwa, bV row, _, _, rfl, rfl, st_of hrwa, atI_nat hbit, k H' kk hm'⟩
end
end CF

/-! text CfPH -/
set_option Elab.async false
set_option linter.all false
set_option maxRecDepth 100000
set_option maxHeartbeats 4000000
/-! the readings answer the promises: a gate -/
namespace CF
open PySem PySem.Spec PyProof.Rows L2 Evl
section
variable {K : PySem.W.Frag} {mg : Str → Option Value} {vs : List V} {H H' : Hp} {Q : VK} {E : XK} {σ : L2.St}
theorem gate_nf {C dx : Addr} {a b c : V} : fixd (.ins C dx [("stage", a), ("seen", b), ("is_open", c)]) = false := by
  show ((List.lookup ("stage" : Str) [(("stage" : Str), a), ("seen", b), ("is_open", c)]).isNone && !(List.isEmpty [(("stage" : Str), a), ("seen", b), ("is_open", c)])) = false
  rw [lk1]
  rfl
theorem fxgm {m g : Addr} {xs : List V} {st : Step Nm} {q : GS} (hm : H m = some (.lst xs)) (hg : Gat K H g st q) (k : Kp [g, m] H H') : Fx H H' := k.fx fun a ha o e => by
  simp only [List.mem_cons, List.not_mem_nil, or_false] at ha
  rcases ha with rfl | rfl
  · obtain ⟨dx, sv, h, _⟩ := hg
    rw [h] at e
    cases e
    exact gate_nf
  · rw [hm] at e
    cases e
    rfl
theorem Gat.kp {S : List Addr} {g : Addr} {st : Step Nm} {q : GS} (h : Gat K H g st q) (k : Kp S H H') (n : g ∉ S) (f : Fx H H') : Gat K H' g st q := by
  obtain ⟨dx, sv, h1, h2⟩ := h
  exact ⟨dx, sv, k.keep g _ h1 n, h2.fx f⟩
theorem ite_some {α : Type} {c : Prop} [Decidable c] {x y : α} (h : (if c then some x else none) = some y) : x = y := by
  split at h
  · exact Option.some.inj h
  · cases h
theorem gat_ne {g m : Addr} {xs : List V} {st : Step Nm} {q : GS} (h : Gat K H g st q) (hm : H m = some (.lst xs)) : g ≠ m := fun z => by
  obtain ⟨dx, sv, h1, _⟩ := h
  rw [z, hm] at h1
  cases h1
theorem put_seen {a b c d : V} : putF "seen" d [("stage", a), ("seen", b), ("is_open", c)] = [(("stage" : Str), a), ("seen", d), ("is_open", c)] := rfl
theorem put_open {a b c d : V} : putF "is_open" d [("stage", a), ("seen", b), ("is_open", c)] = [(("stage" : Str), a), ("seen", b), ("is_open", d)] := rfl
theorem lk_seen {a b c : V} : List.lookup ("seen" : Str) [(("stage" : Str), a), ("seen", b), ("is_open", c)] = some b := lk2 (by decide +kernel)
theorem lk_open {a b c : V} : List.lookup ("is_open" : Str) [(("stage" : Str), a), ("seen", b), ("is_open", c)] = some c := lk3 (by decide +kernel) (by decide +kernel)
theorem Tel.no {K : PySem.W.Frag} {t m : Addr} {ats : List (List Nm)} {rows : List (List Bool)} (h : Tel K H t m ats rows) {x : Str} (h1 : (x == "rows_told") = false) (h2 : (x == "places") = false) (h3 : (x == "made") = false) :
    ∃ dx fs, H t = some (.ins (He.ga K "Teller") dx fs) ∧ fs.lookup x = none := by
  obtain ⟨dx, rv, d, h, _⟩ := h
  refine ⟨dx, _, h, ?_⟩
  rw [List.lookup_cons, h1, List.lookup_cons, h2, List.lookup_cons, h3]
  rfl
theorem kinds_cnt (s : Sg Nm) : inV (.str s.kd) [.str "first", .str "skip", .str "every"] = isCnt s := by
  have go : ∀ x ∈ (["first", "skip", "every"] : List Str), inV (.str x) [.str "first", .str "skip", .str "every"] = true := by decide +kernel
  have go2 : ∀ x ∈ (["each", "keep", "drop", "while", "from", "last", "but last", "turned"] : List Str), inV (.str x) [.str "first", .str "skip", .str "every"] = false := by decide +kernel
  cases s <;> first | exact go _ (by simp [Sg.kd]) | exact go2 _ (by simp [Sg.kd])
theorem sg_test {s : Sg Nm} (hb : sgB s = true) {t : List Nm} (h : tst s = some t) : wordB t = true ∧ t.length ≤ 4 := by
  cases s <;> simp only [tst, reduceCtorEq, Option.some.injEq] at h <;> subst h <;> simp only [sgB, Bool.and_eq_true, decide_eq_true_eq] at hb <;> exact ⟨hb.1.1, hb.2⟩
def gRest (K : PySem.W.Frag) : TS :=
  (tSeq (tIfS (tTest (tOp rEq (tVar 3) (tC (.str "each")))) (tRet (tTup (tCons (tMeth (He.ga K "Teller") "behind" (sp_Teller_behind K) [] C8.E0 (tVar 2) (tCons (tVar 4) (tCons (tVar 1) tNil))) (tCons (tC (.bl true)) (tCons (tC (.bl false)) tNil))))) (tNext)) (tSeq (tIfS (tTest (tOp (rIn K false) (tVar 3) (tC (.ref (He.ga K "COUNTED"))))) (tRet (tTup (tCons (tVar 1) (tCons (tCall sp_is_counted_in [] C8.E0 (tCons (tVar 3) (tCons (tVar 4) (tCons (tFld K (tVar 0) "seen") tNil)))) (tCons (tAndV (tOp rEq (tVar 3) (tC (.str "first"))) (tOp rEq (tFld K (tVar 0) "seen") (tVar 4))) tNil))))) (tNext)) (tSeq (tIfS (tB (tFld K (tVar 0) "is_open")) (tRet (tTup (tCons (tVar 1) (tCons (tC (.bl true)) (tCons (tC (.bl false)) tNil))))) (tNext)) (tSeq (tAsg (tMeth (He.ga K "Teller") "is_true" (sp_Teller_is_true K) [] C8.E0 (tVar 2) (tCons (tVar 4) (tCons (tVar 1) tNil))) (gName 5)) (tSeq (tIfS (tTest (tOp rEq (tVar 3) (tC (.str "from")))) (tSeq (sFld K (tVar 0) (tNotV (tVar 5)) "is_open") (tRet (tTup (tCons (tVar 1) (tCons (tNotV (tVar 5)) (tCons (tC (.bl false)) tNil)))))) (tNext)) (tRet (tTup (tCons (tVar 1) (tCons (tOp rEq (tVar 5) (tOp rNe (tVar 3) (tC (.str "drop")))) (tCons (tAndV (tOp rEq (tVar 3) (tC (.str "while"))) (tNotV (tVar 5))) tNil))))))))))
/-- the gate behind seen += 1; what is left of the def -/
theorem gate_rest (T : Tx K mg) {g t m : Addr} {ats : List (List Nm)} {rows : List (List Bool)} {ev d : V} {st : Step Nm} {q : GS} {x : Tm Nm} {cs : List (Tm Nm)} (hg : Gat K H g st (q.1 + 1, q.2)) (hst : stB st = true) (hli : st.s.isList = false) (hfr : q.2 = true → isFrom st.s = true) (ht : Tel K H t m ats rows) (wb : WB ats rows) (hev : Ent H ev x) (hvb : VB rows x 60) (hd : Det H d st.s)
    (hin : ∀ u, tst st.s = some u → u ++ x.2 ∈ ats) (hm : H m = some (.lst (cV cs))) (hcs : cs.length ≤ 90000)
    (k : ∀ v H', Kp [g, m] H H' → H' m = some (.lst (cV (cs ++ (gstep (truthOf ats rows) st.s q x).1))) → Gat K H' g st (gstep (truthOf ats rows) st.s q x).2.2.2 →
      (∃ a nv, v = .ref a ∧ H' a = some (.tup [nv, .bl (gstep (truthOf ats rows) st.s q x).2.1.isSome, .bl (gstep (truthOf ats rows) st.s q x).2.2.1]) ∧ ∀ y, (gstep (truthOf ats rows) st.s q x).2.1 = some y → Ent H' nv y) → Q v H') :
    gRest K (ends Q) [some (.ref g), some ev, some (.ref t), some (.str st.s.kd), some d, none] H := by
  have ngm := gat_ne hg hm
  have hsb : sgB st.s = true := by
    unfold stB at hst
    rw [Bool.and_eq_true] at hst
    exact hst.1
  have z3 : 3 ≤ sizeLine := by decide
  obtain ⟨s, now⟩ := st
  -- a triple made and given back
  have fin : ∀ {H1 : Hp} {nv : V} {b1 b2 : Bool} {p : Addr}, Kp [g, m] H H1 → H1 m = some (.lst (cV (cs ++ (gstep (truthOf ats rows) s q x).1))) → Gat K H1 g ⟨s, now⟩ (gstep (truthOf ats rows) s q x).2.2.2 →
      (gstep (truthOf ats rows) s q x).2.1.isSome = b1 → (gstep (truthOf ats rows) s q x).2.2.1 = b2 → (∀ y, (gstep (truthOf ats rows) s q x).2.1 = some y → Ent H1 nv y) → H1 p = none → Q (.ref p) (upd H1 p (.tup [nv, .bl b1, .bl b2])) := by
    intro H1 nv b1 b2 p kk h1 h2 h3 h4 h5 hp
    have e2 : Ex H1 (upd H1 p (.tup [nv, .bl b1, .bl b2])) := Ex.new hp
    refine k _ _ (kk.new hp) ?_ (h2.kp (S := []) (Kp.of e2) (by simp) (Fx.of e2)) ⟨p, nv, rfl, by rw [upd_same, ← h3, ← h4], fun y hy => (h5 y hy).fx (Fx.of e2)⟩
    rw [upd_ne (ne_of_none h1 hp)]
    exact h1
  have cc : ∀ {y : Str}, isCnt s = true → y = s.kd → (y == "each") = false → (∀ b : Bool, cnt s q.1 = b → (gstep (truthOf ats rows) s q x) = ([], if b = true then some x else none, (y == "first" && decide (V.int ((q.1 + 1 : Nat) : Int) = d)), (q.1 + 1, q.2))) → ((y == "first") = true → scal (V.int ((q.1 + 1 : Nat) : Int)) d = true) → gRest K (ends Q) [some (.ref g), some ev, some (.ref t), some (.str s.kd), some d, none] H := by
    intro y hc hy e1 hgs hsc
    subst hy
    refine ⟨_, rfl, rfl, _, rfl, ifF (neS e1) ?_⟩
    refine ⟨_, rfl, _, _, rfl, .inr (T.t_COUNTED H), rfl, rfl, _, rfl, ibT (by show inV (.str s.kd) _ = true; rw [kinds_cnt, hc]) ?_⟩
    obtain ⟨dx, sv, h1, h2⟩ := id hg
    refine ⟨_, rfl, _, rfl, _, rfl, _, rfl, g, _, dx, _, _, rfl, h1, T.cls_Gate, T.no_Gate_seen, lk_seen, d, s, q.1, rfl, hd, hsb, hc, fun H1 e1 => ?_⟩
    have hG := hgs _ rfl
    have hg1 : Gat K H1 g ⟨s, now⟩ (q.1 + 1, q.2) := hg.kp (S := []) (Kp.of e1) (by simp) (Fx.of e1)
    have f2 : ∀ {b2 : Bool}, (s.kd == "first" && decide (V.int ((q.1 + 1 : Nat) : Int) = d)) = b2 → 3 ≤ sizeLine ∧ ∀ p, H1 p = none → Q (.ref p) (upd H1 p (.tup [ev, .bl (cnt s q.1), .bl b2])) := by
      intro b2 hb2
      refine ⟨z3, fun p hp => fin (Kp.of e1) ?_ ?_ ?_ ?_ ?_ hp⟩
      · rw [hG, List.append_nil]
        exact e1 m _ hm
      · rw [hG]
        exact hg1
      · rw [hG]
        cases cnt s q.1 <;> rfl
      · rw [hG]
        exact hb2
      · rw [hG]
        intro y hy
        have hy : (if cnt s q.1 = true then some x else none) = some y := hy
        split at hy
        · cases hy
          exact hev.fx (Fx.of e1)
        · cases hy
    refine ⟨_, rfl, rfl, _, rfl, ?_⟩
    by_cases hf : (s.kd == "first") = true
    · refine ifT (by rw [eq_of_beq hf]) ?_
      refine ⟨_, rfl, g, _, dx, _, _, rfl, e1 g _ h1, T.cls_Gate, T.no_Gate_seen, lk_seen, _, rfl, hsc hf, ?_⟩
      exact f2 (by rw [hf, Bool.true_and])
    · refine ifF (neS (by simpa using hf)) ?_
      exact f2 (by rw [show (s.kd == "first") = false by simpa using hf, Bool.false_and])
  have tt : ∀ {y : Str} {u : List Nm}, tst s = some u → y = s.kd → (y == "each") = false → isCnt s = false → Wd H d u → (q.2 = true → gstep (truthOf ats rows) s q x = ([], some x, false, (q.1 + 1, q.2))) →
      (q.2 = false → (gstep (truthOf ats rows) s q x) = (behC x.1 u x.2, (if (if y == "from" then !truthOf ats rows x.1 (u ++ x.2) else (truthOf ats rows x.1 (u ++ x.2) == !(y == "drop"))) = true then some x else none), (if y == "from" then false else (y == "while" && !truthOf ats rows x.1 (u ++ x.2))), (q.1 + 1, if y == "from" then !truthOf ats rows x.1 (u ++ x.2) else q.2))) → gRest K (ends Q) [some (.ref g), some ev, some (.ref t), some (.str s.kd), some d, none] H := by
    intro y u hu hy e1 hc hdu hop hcl
    subst hy
    refine ⟨_, rfl, rfl, _, rfl, ifF (neS e1) ?_⟩
    refine ⟨_, rfl, _, _, rfl, .inr (T.t_COUNTED H), rfl, rfl, _, rfl, ibF (by show inV (.str s.kd) _ = false; rw [kinds_cnt, hc]) ?_⟩
    obtain ⟨dx, sv, h1, h2⟩ := id hg
    refine ⟨_, rfl, g, _, dx, _, _, rfl, h1, T.cls_Gate, T.no_Gate_is_open, lk_open, q.2, rfl, ?_⟩
    obtain ⟨hwu, hlu⟩ := sg_test hsb hu
    cases hq : q.2 with
    | true =>
      have hG := hop hq
      refine iteT ⟨_, rfl, z3, fun p hp => fin (Kp.refl _ _) ?_ ?_ ?_ ?_ ?_ hp⟩
      · rw [hG, List.append_nil]
        exact hm
      · rw [hG]
        exact hg
      · rw [hG]
        rfl
      · rw [hG]
      · rw [hG]
        intro y hy
        cases hy
        exact hev
    | false =>
      have hG := hcl hq
      refine iteF ?_
      obtain ⟨tdx, tfs, ht1, htn⟩ := ht.no (x := "is_true") (by decide +kernel) (by decide +kernel) (by decide +kernel)
      refine ⟨_, rfl, t, tdx, tfs, rfl, ht1, htn, _, rfl, _, rfl, t, m, ats, rows, d, ev, u, x, cs, rfl, ht, wb, hdu, hwu, hlu, hev, hvb, hin u hu, hm, hcs, fun H1 k1 hm1 => ?_⟩
      have k2 : Kp [g, m] H H1 := k1.mono (by simp)
      have f1 : Fx H H1 := fxm hm k1
      have hg1 := hg.kp k1 (by simpa using ngm) f1
      have hm1' : H1 m = some (.lst (cV (cs ++ (gstep (truthOf ats rows) s q x).1))) := by rw [hG]; exact hm1
      obtain ⟨dx1, sv1, h11, h12⟩ := id hg1
      refine ⟨_, rfl, rfl, _, rfl, ?_⟩
      by_cases hf : (s.kd == "from") = true
      · refine ifT (by rw [eq_of_beq hf]) ?_
        refine ⟨_, rfl, _, rfl, _, rfl, g, _, dx1, _, rfl, h11, T.cls_Gate, T.no_Gate_is_open, by show 3 < 1000; decide, ?_⟩
        rw [put_open]
        generalize hH2 : upd H1 g (.ins (He.ga K "Gate") dx1 [("stage", sv1), ("seen", .int ((q.1 + 1, q.2).1 : Nat)), ("is_open", .bl (!truthOf ats rows x.1 (u ++ x.2)))]) = H2
        have k3 : Kp [g, m] H1 H2 := by rw [← hH2]; exact (Kp.refl _ _).put (by simp)
        have f2 : Fx H1 H2 := fxgm hm1 hg1 k3
        refine ⟨_, rfl, _, rfl, _, rfl, z3, fun p hp => fin (k2.trans k3) ?_ ?_ ?_ ?_ ?_ hp⟩
        · rw [← hm1', ← hH2, upd_ne ngm.symm]
        · rw [hG]
          show Gat K H2 g ⟨s, now⟩ (q.1 + 1, if (s.kd == "from") = true then !truthOf ats rows x.1 (u ++ x.2) else q.2)
          rw [if_pos hf]
          exact ⟨dx1, sv1, by rw [← hH2]; exact upd_same, h12.fx f2⟩
        · rw [hG]
          show (if (if (s.kd == "from") = true then !truthOf ats rows x.1 (u ++ x.2) else _) = true then some x else none).isSome = _
          rw [if_pos hf]
          cases (truthOf ats rows x.1 (u ++ x.2)) <;> rfl
        · rw [hG]
          show (if (s.kd == "from") = true then false else _) = false
          rw [if_pos hf]
        · rw [hG]
          intro y hy
          rw [← ite_some hy]
          exact hev.fx (f1.trans f2)
      · refine ifF (neS (by simpa using hf)) ?_
        have hg2 : Gat K H1 g ⟨s, now⟩ (gstep (truthOf ats rows) s q x).2.2.2 := by
          rw [hG]
          show Gat K H1 g ⟨s, now⟩ (q.1 + 1, if (s.kd == "from") = true then !truthOf ats rows x.1 (u ++ x.2) else q.2)
          rw [if_neg hf]
          exact hg1
        have fin2 : ∀ {b1 b2 : Bool}, b1 = (truthOf ats rows x.1 (u ++ x.2) == !(s.kd == "drop")) → b2 = (s.kd == "while" && !truthOf ats rows x.1 (u ++ x.2)) → 3 ≤ sizeLine ∧ ∀ p, H1 p = none → Q (.ref p) (upd H1 p (.tup [ev, .bl b1, .bl b2])) := by
          rintro b1 b2 rfl rfl
          refine ⟨z3, fun p hp => fin k2 hm1' hg2 ?_ ?_ ?_ hp⟩
          · rw [hG]
            show (if (if (s.kd == "from") = true then _ else (truthOf ats rows x.1 (u ++ x.2) == !(s.kd == "drop"))) = true then some x else none).isSome = _
            rw [if_neg hf]
            cases (truthOf ats rows x.1 (u ++ x.2) == !(s.kd == "drop")) <;> rfl
          · rw [hG]
            show (if (s.kd == "from") = true then false else _) = _
            rw [if_neg hf]
          · rw [hG]
            intro y hy
            rw [← ite_some hy]
            exact hev.fx f1
        refine ⟨_, rfl, _, rfl, _, rfl, rfl, rfl, ?_⟩
        refine ⟨_, rfl, rfl, _, rfl, ?_⟩
        have eb : decide (V.bl (truthOf ats rows x.1 (u ++ x.2)) = V.bl (!decide (V.str s.kd = V.str "drop"))) = (truthOf ats rows x.1 (u ++ x.2) == !(s.kd == "drop")) := by
          by_cases hdr : (s.kd == "drop") = true
          · rw [decide_eq_true (show V.str s.kd = V.str "drop" by rw [eq_of_beq hdr]), hdr]
            cases (truthOf ats rows x.1 (u ++ x.2)) <;> rfl
          · have hdr' : (s.kd == "drop") = false := by simpa using hdr
            rw [decide_eq_false (neS hdr'), hdr']
            cases (truthOf ats rows x.1 (u ++ x.2)) <;> rfl
        by_cases hw : (s.kd == "while") = true
        · refine ifT (by rw [eq_of_beq hw]) ⟨_, rfl, _, rfl, ?_⟩
          exact fin2 eb (by rw [hw, Bool.true_and])
        · have hw' : (s.kd == "while") = false := by simpa using hw
          refine ifF (neS hw') ?_
          exact fin2 eb (by rw [hw', Bool.false_and])
  cases s with
  | each w =>
    obtain ⟨tdx, tfs, ht1, htn⟩ := ht.no (x := "behind") (by decide +kernel) (by decide +kernel) (by decide +kernel)
    simp only [sgB, Bool.and_eq_true, decide_eq_true_eq] at hsb
    refine ⟨_, rfl, rfl, _, rfl, ifT rfl ?_⟩
    refine ⟨_, rfl, t, tdx, tfs, rfl, ht1, htn, _, rfl, _, rfl, t, m, ats, rows, d, ev, w, x, cs, rfl, ht, hd, hsb.1, by omega, hev, hvb, wb.many, hm, hcs, fun v H1 k1 hm1 he => ?_⟩
    have f1 := fxm hm k1
    refine ⟨z3, fun p hp => fin (k1.mono (by simp)) hm1 (hg.kp k1 (by simpa using ngm) f1) rfl rfl (fun y hy => ?_) hp⟩
    cases hy
    exact he
  | keep u =>
    have n1 : (("keep" : Str) == "from") = false := by decide +kernel
    have n2 : (("keep" : Str) == "drop") = false := by decide +kernel
    have n3 : (("keep" : Str) == "while") = false := by decide +kernel
    refine tt (y := "keep") (u := u) rfl rfl (by decide +kernel) rfl hd (fun h => nomatch hfr h) (fun h => ?_)
    rw [n1, n2, n3, if_neg Bool.false_ne_true, if_neg Bool.false_ne_true, if_neg Bool.false_ne_true]
    simp [gstep]
  | drop u =>
    have n1 : (("drop" : Str) == "from") = false := by decide +kernel
    have n2 : (("drop" : Str) == "drop") = true := by decide +kernel
    have n3 : (("drop" : Str) == "while") = false := by decide +kernel
    refine tt (y := "drop") (u := u) rfl rfl (by decide +kernel) rfl hd (fun h => nomatch hfr h) (fun h => ?_)
    rw [n1, n2, n3, if_neg Bool.false_ne_true, if_neg Bool.false_ne_true, if_neg Bool.false_ne_true]
    cases hT : truthOf ats rows x.1 (u ++ x.2) <;> simp [gstep, hT]
  | whil u =>
    have n1 : (("while" : Str) == "from") = false := by decide +kernel
    have n2 : (("while" : Str) == "drop") = false := by decide +kernel
    have n3 : (("while" : Str) == "while") = true := by decide +kernel
    refine tt (y := "while") (u := u) rfl rfl (by decide +kernel) rfl hd (fun h => nomatch hfr h) (fun h => ?_)
    rw [n1, n2, n3, if_neg Bool.false_ne_true, if_neg Bool.false_ne_true, if_neg Bool.false_ne_true]
    simp [gstep]
  | from_ u =>
    have n1 : (("from" : Str) == "from") = true := by decide +kernel
    refine tt (y := "from") (u := u) rfl rfl (by decide +kernel) rfl hd (fun h => ?_) (fun h => ?_)
    · simp [gstep, h]
    · rw [n1, if_pos rfl, if_pos rfl, if_pos rfl]
      cases hT : truthOf ats rows x.1 (u ++ x.2) <;> simp [gstep, hT, h]
  | first n =>
    obtain rfl : d = .int n := hd
    refine cc (y := "first") rfl rfl (by decide +kernel) (fun b hb => ?_) fun _ => rfl
    subst hb
    rw [show (("first" : Str) == "first") = true by decide +kernel, Bool.true_and]
    have e : decide (V.int ((q.1 + 1 : Nat) : Int) = V.int (n : Nat)) = decide (q.1 + 1 = n) := decide_eq_decide.mpr ⟨fun z => by injection z with z; omega, fun z => by rw [z]⟩
    rw [e]
    simp [gstep, cnt]
  | skip n =>
    refine cc (y := "skip") rfl rfl (by decide +kernel) (fun b hb => ?_) fun h => ?_
    · subst hb
      rw [show (("skip" : Str) == "first") = false by decide +kernel, Bool.false_and]
      simp [gstep, cnt]
    · rw [show (("skip" : Str) == "first") = false by decide +kernel] at h
      cases h
  | every a b =>
    refine cc (y := "every") rfl rfl (by decide +kernel) (fun b hb => ?_) fun h => ?_
    · subst hb
      rw [show (("every" : Str) == "first") = false by decide +kernel, Bool.false_and]
      simp [gstep, cnt]
    · rw [show (("every" : Str) == "first") = false by decide +kernel] at h
      cases h
  | _ => cases hli
theorem p_Gate_passed (T : Tx K mg) (h : sp_Gate_passed K vs H Q E) : r_Gate_passed K (sp_Stage_detail K) (sp_Stage_kind K) (sp_Teller_behind K) sp_is_counted_in (sp_Teller_is_true K) (ends Q) (start ["self", "value", "caller", "kind", "detail", "truth"] vs) H := by
  obtain ⟨g, t, m, ats, rows, ev, st, q, x, cs, rfl, hg, hfr, hst, hli, ht, wb, hev, hvb, hin, hm, hcs, k⟩ := h
  obtain ⟨dx, sv, h1, h2⟩ := id hg
  have hs : ∀ {H1 : Hp}, Ex H H1 → Ev (tFld K (tVar 0) "stage") (start ["self", "value", "caller", "kind", "detail", "truth"] [.ref g, ev, .ref t]) H1 sv := fun e => ev_fld T.cls_Gate T.no_Gate_stage (ev_var rfl) (e g _ h1) lk1
  refine ev_kind (hs (Ex.refl H)) h2 H (Ex.refl H) _ fun H1 e1 => ?_
  refine ev_detail (hs e1) (h2.fx (Fx.of e1)) H1 (Ex.refl H1) _ fun d H2 e2 hd => ?_
  have e3 := e1.trans e2
  refine ⟨_, _, rfl, ?_⟩
  refine ⟨_, rfl, g, _, dx, _, _, rfl, e3 g _ h1, T.cls_Gate, T.no_Gate_seen, lk_seen, q.1, 1, rfl, rfl, dx, _, e3 g _ h1, by show 3 < 1000; decide, ?_⟩
  rw [put_seen]
  generalize hH3 : upd H2 g (.ins (He.ga K "Gate") dx [("stage", sv), ("seen", .int ((q.1 : Nat) + 1)), ("is_open", .bl q.2)]) = H3
  have ngm := gat_ne hg hm
  have k3 : Kp [g, m] H H3 := by rw [← hH3]; exact (Kp.of e3).put (by simp)
  have f3 : Fx H H3 := fxgm hm hg k3
  have f23 : Fx H2 H3 := fxgm (e3 m _ hm) (hg.kp (S := []) (Kp.of e3) (by simp) (Fx.of e3)) (by rw [← hH3]; exact (Kp.refl _ _).put (by simp))
  exact gate_rest T ⟨dx, sv, by rw [← hH3, upd_same]; rfl, h2.fx f3⟩ hst hli hfr (ht.fx f3) wb (hev.fx f3) hvb (hd.fx f23) hin (by rw [← hH3, upd_ne ngm.symm]; exact e3 m _ hm) hcs fun v H' kk => k v H' (k3.trans kk)
end
end CF

/-! text CfPI -/
set_option Elab.async false
set_option linter.all false
set_option maxRecDepth 100000
set_option maxHeartbeats 4000000
/-! the readings answer the promises: a part played -/
namespace CF
open PySem PySem.Spec PyProof.Rows L2 Evl
section
variable {K : PySem.W.Frag} {mg : Str → Option Value} {vs : List V} {H H' : Hp} {Q : VK} {E : XK} {σ : L2.St} {T : Nat → List Nm → Bool}
/-! ### plain: what a step lets through -/
theorem gstep_word {s : Sg Nm} {q : GS} {x y : Tm Nm} (h : (gstep T s q x).2.1 = some y) (hl : s.isList = false) : y = (x.1, eachW s x.2) := by
  cases s with
  | each w => exact (Option.some.inj h).symm
  | keep t => exact (ite_some h).symm
  | drop t =>
    have h : (if T x.1 (t ++ x.2) = true then none else some x) = some y := h
    split at h
    · cases h
    · exact (Option.some.inj h).symm
  | whil t => exact (ite_some h).symm
  | from_ t =>
    unfold gstep at h
    simp only at h
    split at h
    · exact (Option.some.inj h).symm
    · simp only at h
      split at h
      · cases h
      · exact (Option.some.inj h).symm
  | first n => exact (ite_some h).symm
  | skip n => exact (ite_some h).symm
  | every a b => exact (ite_some h).symm
  | _ => cases hl
theorem gstep_calls {s : Sg Nm} {q : GS} {x : Tm Nm} (hb : sgB s = true) (hl : s.isList = false) : (gstep T s q x).1.length ≤ 4 := by
  cases s with
  | each w =>
    simp only [sgB, Bool.and_eq_true, decide_eq_true_eq] at hb
    show (behC x.1 w x.2).length ≤ 4
    rw [behC_len]
    omega
  | keep t => simp only [sgB, Bool.and_eq_true, decide_eq_true_eq] at hb; show (behC x.1 t x.2).length ≤ 4; rw [behC_len]; omega
  | drop t => simp only [sgB, Bool.and_eq_true, decide_eq_true_eq] at hb; show (behC x.1 t x.2).length ≤ 4; rw [behC_len]; omega
  | whil t => simp only [sgB, Bool.and_eq_true, decide_eq_true_eq] at hb; show (behC x.1 t x.2).length ≤ 4; rw [behC_len]; omega
  | from_ t =>
    simp only [sgB, Bool.and_eq_true, decide_eq_true_eq] at hb
    unfold gstep
    simp only
    split
    · exact Nat.zero_le _
    · show (behC x.1 t x.2).length ≤ 4; rw [behC_len]; omega
  | first n => exact Nat.zero_le _
  | skip n => exact Nat.zero_le _
  | every a b => exact Nat.zero_le _
  | _ => cases hl
theorem gstep_from {s : Sg Nm} {q : GS} {x : Tm Nm} (h : q.2 = true → isFrom s = true) : (gstep T s q x).2.2.2.2 = true → isFrom s = true := by
  cases s with
  | from_ t => exact fun _ => rfl
  | _ => exact h
theorem eachW_len {s : Sg Nm} {w : List Nm} (hb : sgB s = true) : (eachW s w).length ≤ w.length + 3 := by
  cases s with
  | each v =>
    simp only [sgB, Bool.and_eq_true, decide_eq_true_eq] at hb
    show (v ++ w).length ≤ _
    rw [List.length_append]
    omega
  | _ => exact Nat.le_add_right _ _
theorem eachW_word {s : Sg Nm} {w : List Nm} (hb : sgB s = true) (hw : wordB w = true) : wordB (eachW s w) = true := by
  cases s with
  | each v =>
    simp only [sgB, Bool.and_eq_true, decide_eq_true_eq] at hb
    exact wordB_app hb.1 hw
  | _ => exact hw
/-! ### gates side by side -/
structure GL (K : PySem.W.Frag) (H : Hp) (gs : List Addr) (l : List (Step Nm)) (qs : List GS) : Prop where
  n1 : gs.length = l.length
  n2 : qs.length = l.length
  at_ : ∀ (i : Nat) (g : Addr) (s : Step Nm) (q : GS), gs[i]? = some g → l[i]? = some s → qs[i]? = some q → Gat K H g s q ∧ (q.2 = true → isFrom s.s = true)
theorem GL.ex {gs : List Addr} {l : List (Step Nm)} {qs : List GS} (h : GL K H gs l qs) (e : Ex H H') : GL K H' gs l qs :=
  ⟨h.n1, h.n2, fun i g s q a b c => ⟨(h.at_ i g s q a b c).1.kp (S := []) (Kp.of e) (by simp) (Fx.of e), (h.at_ i g s q a b c).2⟩⟩
theorem GL.set {gs : List Addr} {l : List (Step Nm)} {qs : List GS} {i : Nat} {g m : Addr} {s : Step Nm} {q' : GS} (h : GL K H gs l qs) (nd : gs.Nodup) (hg : gs[i]? = some g) (hs : l[i]? = some s) (k : Kp [g, m] H H') (f : Fx H H') (hm : m ∉ gs) (hq : Gat K H' g s q') (hf : q'.2 = true → isFrom s.s = true) : GL K H' gs l (qs.set i q') := by
  refine ⟨h.n1, by rw [List.length_set]; exact h.n2, fun j g2 s2 q2 a b c => ?_⟩
  by_cases e : i = j
  · subst e
    rw [hg] at a
    rw [hs] at b
    cases a
    cases b
    have hi : i < qs.length := by
      have := (List.getElem?_eq_some_iff.mp hs).1
      have := h.n2
      omega
    rw [List.getElem?_set_self hi] at c
    cases c
    exact ⟨hq, hf⟩
  · rw [List.getElem?_set_ne e] at c
    obtain ⟨z1, z2⟩ := h.at_ j g2 s2 q2 a b c
    refine ⟨z1.kp k ?_ f, z2⟩
    intro mem
    simp only [List.mem_cons, List.not_mem_nil, or_false] at mem
    rcases mem with rfl | rfl
    · obtain ⟨p1, q1⟩ := List.getElem?_eq_some_iff.mp hg
      obtain ⟨p2, q2⟩ := List.getElem?_eq_some_iff.mp a
      rcases Nat.lt_or_gt_of_ne e with lt | lt
      · exact (List.pairwise_iff_getElem.mp nd) i j p1 p2 lt (q1.trans q2.symm)
      · exact (List.pairwise_iff_getElem.mp nd) j i p2 p1 lt (q2.trans q1.symm)
    · exact hm (List.mem_of_getElem? a)
/-- what the start does not know may change -/
theorem Kp.less {g m : Addr} {H1 : Hp} (k : Kp [m] H H1) (k2 : Kp [g, m] H1 H') (hg : H g = none) : Kp [m] H H' :=
  ⟨fun a o e n => k2.keep a o (k.keep a o e n) (by
    simp only [List.mem_cons, List.not_mem_nil, or_false] at n ⊢
    rintro (rfl | z)
    · rw [hg] at e; cases e
    · exact n z), fun a h => k.some_ a (k2.some_ a h)⟩
theorem Kp.own {m p : Addr} {o : HO} {H1 : Hp} (k : Kp [m] H H1) (hp : H p = none) : Kp [m] H (upd H1 p o) :=
  ⟨fun a u e n => by
    rw [upd_ne (ne_of_none e hp)]
    exact k.keep a u e n, fun a h => by
    by_cases z : a = p
    · rw [z]; exact hp
    · rw [upd_ne z] at h; exact k.some_ a h⟩
/-- a value through the gates from the i-th on: what the whole gives -/
theorem pass_nil (T : Nat → List Nm → Bool) (qs : List GS) (x : Tm Nm) : pass T [] qs x = ([], some x, false, qs) := by cases qs <;> rfl
/-- the loop over the gates -/
def rGates (K : PySem.W.Frag) : TS := tFor (iList K (tVar 3)) (gName 9) (tIfS (tB (tVar 7)) (tSeq (tAsg (tMeth (He.ga K "Gate") "passed" (sp_Gate_passed K) [] C8.E0 (tVar 9) (tCons (tVar 6) (tCons (tVar 2) tNil))) (gTup K 3 (gCons (gName 6) (gCons (gName 7) (gCons (gName 10) gNil))))) (tAsg (tOrV (tVar 8) (tVar 10)) (gName 8))) (tNext))
def GInv (K : PySem.W.Frag) (H : Hp) (v0 v1 : V) (t G L m : Addr) (o5 o11 : Option V) (ats : List (List Nm)) (rows : List (List Bool)) (gs : List Addr) (l : List (Step Nm)) (qs : List GS) (cs : List (Tm Nm)) (R : List (Tm Nm) × Option (Tm Nm) × Bool × List GS) (i : Nat) (σ' : L2.St) (H' : Hp) : Prop := (∀ a o, H a = some o → a ∉ gs → a ≠ m → H' a = some o) ∧ (∀ a, H' a = none → H a = none) ∧ Fx H H' ∧ ∃ (cd : List (Tm Nm)) (over : Bool) (qd : List GS) (nv : V) (goes : Bool) (v9 v10 : Option V),
      σ' = [some v0, some v1, some (.ref t), some (.ref G), some (.ref L), o5, some nv, some (.bl goes), some (.bl over), v9, v10, o11] ∧ qd.length = i ∧ cd.length ≤ 4 * i ∧ H' m = some (.lst (cV (cs ++ cd))) ∧ GL K H' gs l (qd ++ qs.drop i) ∧
      ((goes = true ∧ ∃ y, Ent H' nv y ∧ VB rows y (30 + 3 * i) ∧ Fit ats ((l.drop i).map (·.s)) y.2 ∧ R = (cd ++ (pass (truthOf ats rows) ((l.drop i).map (·.s)) (qs.drop i) y).1, (pass (truthOf ats rows) ((l.drop i).map (·.s)) (qs.drop i) y).2.1, over || (pass (truthOf ats rows) ((l.drop i).map (·.s)) (qs.drop i) y).2.2.1, qd ++ (pass (truthOf ats rows) ((l.drop i).map (·.s)) (qs.drop i) y).2.2.2)) ∨
       (goes = false ∧ R = (cd, none, over, qd ++ qs.drop i)))
theorem gates_loop (TT : Tx K mg) {D : Ends} {v0 v1 : V} {o5 o9 o10 o11 : Option V} {G L m t : Addr} {ats : List (List Nm)} {rows : List (List Bool)} {gs : List Addr} {l : List (Step Nm)} {qs : List GS} {x : Tm Nm} {xv : V} {cs : List (Tm Nm)}
    (hG : H G = some (.lst (gs.map V.ref))) (hgl : GL K H gs l qs) (nd : gs.Nodup) (hl : ∀ st ∈ l, stB st = true ∧ st.s.isList = false) (h8 : l.length ≤ 8) (ht : Tel K H t m ats rows) (wb : WB ats rows) (hx : Ent H xv x) (hvb : VB rows x 30) (hfit : Fit ats (l.map (·.s)) x.2) (hm : H m = some (.lst (cV cs))) (hcs : cs.length ≤ 80000) (hmg : m ∉ gs) (hGm : G ≠ m) (hGg : G ∉ gs)
    (k : ∀ H' v9 v10 nv, (∀ a o, H a = some o → a ∉ gs → a ≠ m → H' a = some o) → (∀ a, H' a = none → H a = none) → Fx H H' → H' m = some (.lst (cV (cs ++ (pass (truthOf ats rows) (l.map (·.s)) qs x).1))) → GL K H' gs l (pass (truthOf ats rows) (l.map (·.s)) qs x).2.2.2 →
      (∀ y, (pass (truthOf ats rows) (l.map (·.s)) qs x).2.1 = some y → Ent H' nv y) →
      D.nx [some v0, some v1, some (.ref t), some (.ref G), some (.ref L), o5, some nv, some (.bl (pass (truthOf ats rows) (l.map (·.s)) qs x).2.1.isSome), some (.bl (pass (truthOf ats rows) (l.map (·.s)) qs x).2.2.1), v9, v10, o11] H') :
    rGates K D [some v0, some v1, some (.ref t), some (.ref G), some (.ref L), o5, some xv, some (.bl true), some (.bl false), o9, o10, o11] H := by
  refine ⟨_, rfl, G, rfl, ⟨_, sq_of hG⟩, ?_⟩
  generalize hR : pass (truthOf ats rows) (l.map (·.s)) qs x = R at k
  refine for_list (xs := gs.map V.ref) (GInv K H v0 v1 t G L m o5 o11 ats rows gs l qs cs R) ?_ ?_ ?_ ?_
  · refine ⟨fun a o e _ _ => e, fun a h => h, Fx.refl H, [], false, [], xv, true, o9, o10, rfl, rfl, by simp, by rw [List.append_nil]; exact hm, hgl, .inl ⟨rfl, x, hx, hvb, hfit, ?_⟩⟩
    rw [← hR]
    simp
  · intro i σ' H' _ p
    exact sq_of (p.1 G _ hG hGg hGm)
  · rintro i gv σ' H' hi ⟨kp, ks, f, cd, over, qd, nv, goes, v9, v10, rfl, hqd, hcd, hm', hgl', hor⟩
    rw [List.getElem?_map] at hi
    obtain ⟨g, hg, rfl⟩ : ∃ g, gs[i]? = some g ∧ V.ref g = gv := by
      cases e : gs[i]? with
      | none => rw [e] at hi; cases hi
      | some g => rw [e] at hi; exact ⟨g, rfl, Option.some.inj hi⟩
    have hil : i < l.length := by
      have := (List.getElem?_eq_some_iff.mp hg).1
      have := hgl.n1
      omega
    obtain ⟨s, hs⟩ := getE (xs := l) (i := i) hil
    obtain ⟨q, hq⟩ := getE (xs := qs) (i := i) (by have := hgl.n2; omega)
    have hqe : (qd ++ qs.drop i)[i]? = some q := by
      rw [List.getElem?_append_right (by omega), hqd, Nat.sub_self, List.getElem?_drop, Nat.add_zero]
      exact hq
    have hld : l.drop i = s :: l.drop (i + 1) := by
      rw [List.drop_eq_getElem_cons hil]
      congr 1
      exact (List.getElem?_eq_some_iff.mp hs).2
    have hqd2 : qs.drop i = q :: qs.drop (i + 1) := by
      rw [List.drop_eq_getElem_cons (by have := hgl.n2; omega)]
      congr 1
      exact (List.getElem?_eq_some_iff.mp hq).2
    rcases hor with ⟨rfl, y, hy, hyb, hyf, hRe⟩ | ⟨rfl, hRe⟩
    · refine ⟨_, rfl, true, rfl, iteT ?_⟩
      obtain ⟨zg, zf⟩ := hgl'.at_ i g s q hg hs hqe
      have ht' := ht.fx f
      obtain ⟨gdx, gsv, hg1, hg2⟩ := id zg
      obtain ⟨sb, sl⟩ := hl s (List.mem_of_getElem? hs)
      have hsb : sgB s.s = true := by
        unfold stB at sb
        rw [Bool.and_eq_true] at sb
        exact sb.1
      rw [hld, List.map_cons] at hyf
      have hyb60 : VB rows y 60 := ⟨hyb.word, by have := hyb.len; omega, hyb.at_⟩
      refine ⟨_, rfl, g, gdx, _, rfl, hg1, ?_, _, rfl, _, rfl, g, t, m, ats, rows, nv, s, q, y, cs ++ cd, rfl, zg, zf, sb, sl, ht', wb, hy, hyb60, hyf.1, hm', by rw [List.length_append]; omega, fun v H2 k2 hm2 hg2' hv => ?_⟩
      · rw [List.lookup_cons, show (("passed" : Str) == "stage") = false by decide +kernel, List.lookup_cons, show (("passed" : Str) == "seen") = false by decide +kernel, List.lookup_cons, show (("passed" : Str) == "is_open") = false by decide +kernel]
        rfl
      obtain ⟨a, nv2, rfl, ha, hny⟩ := hv
      have f2 : Fx H' H2 := fxgm hm' zg k2
      refine ⟨a, _, rfl, st_of ha, rfl, _, _, rfl, _, _, rfl, _, _, rfl, rfl, ?_⟩
      have hkeep : ∀ a o, H a = some o → a ∉ gs → a ≠ m → H2 a = some o := fun a o e n1 n2 => k2.keep a o (kp a o e n1 n2) (by
        simp only [List.mem_cons, List.not_mem_nil, or_false]
        rintro (rfl | z)
        · exact n1 (List.mem_of_getElem? hg)
        · exact n2 z)
      have hc4 := gstep_calls (T := truthOf ats rows) (q := q) (x := y) hsb sl
      have hset : GL K H2 gs l ((qd ++ [(gstep (truthOf ats rows) s.s q y).2.2.2]) ++ qs.drop (i + 1)) := by
        have z := hgl'.set (m := m) nd hg hs k2 f2 hmg hg2' (gstep_from zf)
        rw [hqd2, List.set_append_right _ _ (by omega), hqd, Nat.sub_self, List.set_cons_zero] at z
        rw [List.append_assoc]
        exact z
      have hcalls : H2 m = some (.lst (cV (cs ++ (cd ++ (gstep (truthOf ats rows) s.s q y).1)))) := by
        rw [← List.append_assoc]
        exact hm2
      have fin : ∀ b : Bool, b = (over || (gstep (truthOf ats rows) s.s q y).2.2.1) → ∀ σ2, σ2 = [some v0, some v1, some (.ref t), some (.ref G), some (.ref L), o5, some nv2, some (.bl (gstep (truthOf ats rows) s.s q y).2.1.isSome), some (.bl b), some (.ref g), some (.bl (gstep (truthOf ats rows) s.s q y).2.2.1), o11] → GInv K H v0 v1 t G L m o5 o11 ats rows gs l qs cs R (i + 1) σ2 H2 := by
        rintro b rfl σ2 rfl
        refine ⟨hkeep, fun a h => ks a (k2.some_ a h), f.trans f2, cd ++ (gstep (truthOf ats rows) s.s q y).1, _, qd ++ [(gstep (truthOf ats rows) s.s q y).2.2.2], nv2, _, some (.ref g), some (.bl (gstep (truthOf ats rows) s.s q y).2.2.1), rfl, by rw [List.length_append, hqd]; rfl, by rw [List.length_append]; omega, hcalls, hset, ?_⟩
        rw [hRe, hld, hqd2]
        cases hsome : (gstep (truthOf ats rows) s.s q y).2.1 with
        | some y2 =>
          have hy2 := gstep_word hsome sl
          refine .inl ⟨rfl, y2, hny y2 hsome, ?_, ?_, ?_⟩
          · subst hy2
            exact ⟨eachW_word hsb hyb.word, by have := eachW_len (w := y.2) hsb; have := hyb.len; show (eachW s.s y.2).length ≤ _; omega, hyb.at_⟩
          · subst hy2
            exact hyf.2
          · simp only [List.map_cons, pass, hsome, List.append_assoc, Bool.or_assoc, List.singleton_append]
        | none =>
          refine .inr ⟨rfl, ?_⟩
          simp only [List.map_cons, pass, hsome, List.append_assoc, List.singleton_append]
      refine ⟨_, rfl, over, rfl, ?_⟩
      cases over with
      | true => exact iteT (fin true (by simp) _ rfl)
      | false => exact iteF ⟨_, rfl, fin _ (by simp) _ rfl⟩
    · refine ⟨_, rfl, false, rfl, iteF ?_⟩
      refine ⟨kp, ks, f, cd, over, qd ++ [q], nv, false, _, v10, rfl, by rw [List.length_append, hqd]; rfl, by omega, hm', ?_, .inr ⟨rfl, ?_⟩⟩
      · rw [List.append_assoc, List.singleton_append, ← hqd2]
        exact hgl'
      · rw [List.append_assoc, List.singleton_append, ← hqd2]
        exact hRe
  · rintro σ' H' ⟨kp, ks, f, cd, over, qd, nv, goes, v9, v10, rfl, hqd, hcd, hm', hgl', hor⟩
    have hlen : (gs.map V.ref).length = l.length := by rw [List.length_map]; exact hgl.n1
    rw [hlen] at hgl' hor
    rw [List.drop_length, show qs.drop l.length = [] by rw [← hgl.n2]; exact List.drop_length] at hor
    rw [show qs.drop l.length = [] by rw [← hgl.n2]; exact List.drop_length] at hgl'
    rcases hor with ⟨rfl, y, hy, hyb, hyf, hRe⟩ | ⟨rfl, hRe⟩
    · rw [List.map_nil, pass_nil] at hRe
      simp only [List.append_nil, Bool.or_false] at hRe
      rw [List.append_nil] at hgl'
      subst hRe
      exact k H' v9 v10 nv kp ks f hm' hgl' (fun y2 h2 => by cases h2; exact hy)
    · rw [List.append_nil] at hRe hgl'
      subst hRe
      exact k H' v9 v10 nv kp ks f hm' hgl' (fun y2 h2 => by cases h2)
end
end CF

/-! text CfPJ -/
set_option Elab.async false
set_option linter.all false
set_option maxRecDepth 100000
set_option maxHeartbeats 4000000
/-! the readings answer the promises: a part played, a flow played -/
namespace CF
open PySem PySem.Spec PyProof.Rows L2 Evl
section
variable {K : PySem.W.Frag} {mg : Str → Option Value} {vs : List V} {H H' : Hp} {Q : VK} {E : XK} {σ : L2.St} {T : Nat → List Nm → Bool}
theorem pass_calls {l : List (Step Nm)} (hl : ∀ st ∈ l, stB st = true ∧ st.s.isList = false) : ∀ (qs : List GS) (x : Tm Nm), (pass T (l.map (·.s)) qs x).1.length ≤ 4 * l.length := by
  induction l with
  | nil => intro qs x; rw [List.map_nil, pass_nil]; exact Nat.zero_le _
  | cons s l ih =>
    intro qs x
    obtain ⟨sb, sl⟩ := hl s (List.mem_cons_self ..)
    have hsb : sgB s.s = true := by
      unfold stB at sb
      rw [Bool.and_eq_true] at sb
      exact sb.1
    cases qs with
    | nil => exact Nat.zero_le _
    | cons q qs =>
      have h4 := gstep_calls (T := T) (q := q) (x := x) hsb sl
      rw [List.map_cons]
      unfold pass
      simp only
      split
      · simp only [List.length_cons]; omega
      · rename_i y hy
        have := ih (fun st h => hl st (List.mem_cons_of_mem _ h)) qs y
        simp only [List.length_append, List.length_cons]
        omega
theorem gs0_at {l : List (Step Nm)} {i : Nat} {q : GS} (h : (gs0 (l.map (·.s)))[i]? = some q) : q = (0, false) := by
  unfold gs0 at h
  rw [List.map_map, List.getElem?_map] at h
  cases e : l[i]? with
  | none => rw [e] at h; cases h
  | some s => rw [e] at h; exact (Option.some.inj h).symm
theorem any_f0 (l : List (Step Nm)) : (l.map fun st => isF0 st.s).any id = (l.map (·.s)).any isF0 := by
  induction l with
  | nil => rfl
  | cons a l ih => simp [List.any_cons, ih]
/-- the gates of a part, made -/
theorem ev_gates (TT : Tx K mg) {p : Addr} {l : List (Step Nm)} {i : Nat} (hp : StL K H p l) (hi : σ[i]? = some (some (.ref p))) (hw : ∀ x, wipe ((wipe σ [11]).set 11 (some x)) [11] = wipe σ [11]) (hat : ∀ x : V, ((wipe σ [11]).set 11 (some x))[11]? = some (some x)) (h8 : l.length ≤ 100)
    (q : ∀ D gs H2, H D = none → Ex H H2 → H2 D = some (.lst (gs.map V.ref)) → gs.Nodup → (∀ g ∈ gs, H g = none ∧ g ≠ D) → GL K H2 gs l (gs0 (l.map (·.s))) → Q (.ref D) H2) :
    tLc (iList K (tVar i)) (gName 11) (tYes) (tMake (He.ga K "Gate") (sp_Gate K) [] C8.E0 (tCons (tVar 11) tNil)) [11] σ H Q := by
  obtain ⟨svs, hsv, hal⟩ := hp
  have hlen := hal.len
  refine ⟨_, hi, p, rfl, ⟨svs, sq_of hsv⟩, fun D hD => ?_⟩
  refine lc_list (xs := svs) (fun i H' => Ex H H' ∧ ∃ gs : List Addr, H' D = some (.lst (gs.map V.ref)) ∧ gs.length = i ∧ gs.Nodup ∧ (∀ g ∈ gs, H g = none ∧ g ≠ D ∧ H' g ≠ none) ∧ ∀ (j : Nat) (g : Addr) (s : Step Nm), gs[j]? = some g → l[j]? = some s → Gat K H' g s (0, false)) ⟨Ex.new hD, [], by rw [upd_same]; rfl, rfl, List.nodup_nil, by simp, by simp⟩ (fun i H' _ z => sq_of (z.1 p _ hsv)) ?_ ?_
  · rintro i x H' hix ⟨e, gs, hgD, hgl, hnd, hfr, hga⟩
    refine ⟨hw x, ?_⟩
    obtain ⟨s, hs, hx⟩ := hal.at hix
    refine ⟨x, hat x, fun g dx hg hdx hne => ?_⟩
    have e2 : Ex H' (upd (upd H' dx (.own g)) g (.ins (He.ga K "Gate") dx [])) := mk_fx hg hdx
    refine ⟨g, dx, x, s, rfl, upd_same, hx.fx (Fx.of (e.trans e2)), fun H2 k2 hgat => ⟨rfl, ?_⟩⟩
    have e3 : Ex H' H2 := mk_ex hg hdx k2
    have hgn : g ∉ gs := fun z => (hfr g z).2.2 hg
    have hgD2 : g ≠ D := (ne_of_none hgD hg).symm
    have hDH2 : H2 D = some (.lst (gs.map V.ref)) := e3 D _ hgD
    have hg2 : H2 g ≠ none := by
      obtain ⟨d2, sv2, z, _⟩ := hgat
      rw [z]
      exact fun w => nomatch w
    refine ⟨gs.map V.ref, hDH2, sz_lt (by rw [List.length_map]; have := (List.getElem?_eq_some_iff.mp hix).1; omega), ?_⟩
    have fD : Fx H2 (upd H2 D (.lst (gs.map V.ref ++ [V.ref g]))) := fun b o hb f => by
      have : b ≠ D := fun z => by
        rw [z, hDH2] at hb
        cases hb
        cases f
      rw [upd_ne this]
      exact hb
    have kD : Kp [D] H2 (upd H2 D (.lst (gs.map V.ref ++ [V.ref g]))) := (Kp.refl _ _).put (by simp)
    refine ⟨Ex.mut (e.trans e3) hD, gs ++ [g], by rw [upd_same, List.map_append]; rfl, by rw [List.length_append, hgl]; rfl, ?_, ?_, ?_⟩
    · rw [List.nodup_append]
      refine ⟨hnd, by simp, fun a ha b hb => ?_⟩
      rw [List.mem_singleton] at hb
      subst hb
      exact fun z => hgn (z ▸ ha)
    · intro a ha
      rw [List.mem_append, List.mem_singleton] at ha
      rcases ha with ha | rfl
      · obtain ⟨z1, z2, z3⟩ := hfr a ha
        refine ⟨z1, z2, ?_⟩
        rw [upd_ne z2]
        cases q2 : H' a with
        | none => exact absurd q2 z3
        | some o => rw [e3 a o q2]; exact fun w => nomatch w
      · exact ⟨fresh_back e hg, hgD2, by rw [upd_ne hgD2]; exact hg2⟩
    · intro j a s2 ha hs2
      by_cases hj : j < i
      · rw [List.getElem?_append_left (by omega)] at ha
        have z := hga j a s2 ha hs2
        have hne : a ≠ D := (hfr a (List.mem_of_getElem? ha)).2.1
        exact (z.kp (S := []) (Kp.of e3) (by simp) (Fx.of e3)).kp kD (by simpa using hne) fD
      · have hji : j = i := by
          have := (List.getElem?_eq_some_iff.mp ha).1
          rw [List.length_append, hgl, List.length_singleton] at this
          omega
        subst hji
        rw [List.getElem?_append_right (by omega), hgl, Nat.sub_self] at ha
        rw [hs] at hs2
        cases hs2
        cases (show some g = some a from ha)
        exact hgat.kp kD (by simpa using hgD2) fD
  · rintro H2 ⟨e, gs, hgD, hgl, hnd, hfr, hga⟩
    refine q D gs H2 hD e hgD hnd (fun g hg => ⟨(hfr g hg).1, (hfr g hg).2.1⟩) ⟨by omega, by unfold gs0; simp, fun j g s qq a b c => ?_⟩
    rw [gs0_at c]
    exact ⟨hga j g s a b, fun z => nomatch z⟩
theorem p_played_part (TT : Tx K mg) (h : sp_played_part K vs H Q E) : r_played_part K (sp_Gate K) (sp_Stage_kind K) (sp_Stage_detail K) (sp_Gate_passed K) (ends Q) (start ["stages", "values", "caller", "gates", "left", "value", "now", "goes", "is_over", "gate", "ends", "stage"] vs) H := by
  obtain ⟨p, a, t, m, ats, rows, l, xs, cs, rfl, hp, hl, h8, ⟨evs, ha, hev⟩, h9, ht, wb, hxs, hm, hcs, hpm, ham, k⟩ := h
  show tSeq (tPar 3 4 (tCons (tLc (iList K (tVar 0)) (gName 11) (tYes) (tMake (He.ga K "Gate") (sp_Gate K) [] C8.E0 (tCons (tVar 11) tNil)) [11]) (tCons (tLst tNil) tNil))) _ (ends Q) (start ["stages", "values", "caller", "gates", "left", "value", "now", "goes", "is_over", "gate", "ends", "stage"] [.ref p, .ref a, .ref t]) H
  show tPar 3 4 (tCons (tLc (iList K (tVar 0)) (gName 11) (tYes) (tMake (He.ga K "Gate") (sp_Gate K) [] C8.E0 (tCons (tVar 11) tNil)) [11]) (tCons (tLst tNil) tNil)) _ _ H
  show tCons (tLc (iList K (tVar 0)) (gName 11) (tYes) (tMake (He.ga K "Gate") (sp_Gate K) [] C8.E0 (tCons (tVar 11) tNil)) [11]) (tCons (tLst tNil) tNil) _ H _
  show (tLc (iList K (tVar 0)) (gName 11) (tYes) (tMake (He.ga K "Gate") (sp_Gate K) [] C8.E0 (tCons (tVar 11) tNil)) [11]) _ H _
  refine ev_gates (i := 0) (σ := [some (.ref p), some (.ref a), some (.ref t), none, none, none, none, none, none, none, none, none]) TT hp rfl (fun x => rfl) (fun x => rfl) (by omega) fun G gs H1 hG0 e1 hG hnd hfr hgl => ?_
  refine ⟨Nat.zero_le _, fun L hL => ⟨_, _, rfl, ?_⟩⟩
  generalize hH2 : upd H1 L (.lst []) = H2
  have e2 : Ex H1 H2 := by rw [← hH2]; exact Ex.new hL
  have e12 := e1.trans e2
  have hL2 : H2 L = some (.lst []) := by rw [← hH2]; exact upd_same
  have hL0 : H L = none := fresh_back e1 hL
  obtain ⟨svs, hsv, hal⟩ := hp
  -- any first stage that takes nothing
  have hany : Ev (tCB (rAny K) (tCons (tLc (iList K (tVar 0)) (gName 11) (tYes) (tAndV (tOp rEq (tProp (He.ga K "Stage") (sp_Stage_kind K) [] C8.E0 (tVar 11)) (tC (.str "first"))) (tOp rEq (tProp (He.ga K "Stage") (sp_Stage_detail K) [] C8.E0 (tVar 11)) (tC (.int 0)))) [11]) tNil)) [some (.ref p), some (.ref a), some (.ref t), some (.ref G), some (.ref L), none, none, none, none, none, none, none] H2 (.bl ((l.map (·.s)).any isF0)) := by
    rw [← any_f0]
    refine ev_any (bs := l.map fun st => isF0 st.s) (el_mapL (vs := [11]) (j := 11) (σ := [some (.ref p), some (.ref a), some (.ref t), some (.ref G), some (.ref L), none, none, none, none, none, none, none]) (ev_var (i := 0) rfl) (sq_of (e12 p _ hsv)) (by have := hal.len; omega) (by simp [hal.len]) (fun x => rfl) fun i x y H3 e3 hx hy => ?_)
    obtain ⟨s, hs, hst⟩ := hal.at hx
    have hst := hst.fx (Fx.of (e12.trans e3))
    simp only [List.map_map, List.getElem?_map, hs, Option.map_some, Option.some.injEq, Function.comp] at hy
    subst hy
    have ek : Ev (tOp rEq (tProp (He.ga K "Stage") (sp_Stage_kind K) [] C8.E0 (tVar 11)) (tC (.str "first"))) ([some (.ref p), some (.ref a), some (.ref t), some (.ref G), some (.ref L), none, none, none, none, none, none, some x]) H3 (.bl (decide (V.str s.s.kd = V.str "first"))) := ev_op (ev_kind (ev_var rfl) hst) ev_c (rv_eq rfl)
    obtain ⟨sg, now⟩ := s
    cases sg with
    | first n =>
      have z := ev_andV (a := true) (b := decide (V.int (n : Nat) = V.int 0)) (ev_is ek (congrArg V.bl (decide_eq_true rfl))) fun _ => ev_op (ev_dint (n := n) (ev_var (i := 11) rfl) hst fun _ _ z => z) (ev_c (v := .int 0)) (rv_eq rfl)
      refine ev_is z ?_
      rw [Bool.true_and]
      cases n with
      | zero => rfl
      | succ n => exact congrArg V.bl (decide_eq_false fun z => by injection z with z; omega)
    | _ =>
      refine ev_is (ev_andV (a := false) (b := false) (ev_is ek (congrArg V.bl (decide_eq_false (neS (by first | exact (by decide +kernel : (("each" : Str) == "first") = false) | exact (by decide +kernel : (("keep" : Str) == "first") = false) | exact (by decide +kernel : (("drop" : Str) == "first") = false) | exact (by decide +kernel : (("while" : Str) == "first") = false) | exact (by decide +kernel : (("from" : Str) == "first") = false) | exact (by decide +kernel : (("skip" : Str) == "first") = false) | exact (by decide +kernel : (("every" : Str) == "first") = false) | exact (by decide +kernel : (("last" : Str) == "first") = false) | exact (by decide +kernel : (("but last" : Str) == "first") = false) | exact (by decide +kernel : (("turned" : Str) == "first") = false)))))) fun h => nomatch h) rfl
  refine q_when (et_B hany) (fun hb H3 e3 => ?_) fun hb H3 e3 => ?_
  · refine ⟨_, rfl, ?_⟩
    have hpp : playPart (truthOf ats rows) (l.map (·.s)) xs = ([], []) := by unfold playPart; rw [if_pos hb]
    refine k L H3 (Kp.of (e12.trans e3)) hL0 ?_ ?_
    · rw [hpp, List.append_nil]
      exact (e12.trans e3) m _ hm
    · rw [hpp]
      exact ⟨[], e3 L _ hL2, trivial⟩
  · have hpp : playPart (truthOf ats rows) (l.map (·.s)) xs = runPart (truthOf ats rows) (l.map (·.s)) (gs0 (l.map (·.s))) xs := by unfold playPart; rw [if_neg (by rw [hb]; exact Bool.false_ne_true)]
    rw [hpp] at k
    generalize hR : runPart (truthOf ats rows) (l.map (·.s)) (gs0 (l.map (·.s))) xs = R at k
    have e13 := e12.trans e3
    have hmL : m ≠ L := ne_of_none hm hL0
    have haL : a ≠ L := ne_of_none ha hL0
    have hGL : G ≠ L := ne_of_none hG hL
    have hGm : G ≠ m := (ne_of_none hm hG0).symm
    have hmg : m ∉ gs := fun z => by rw [(hfr m z).1] at hm; cases hm
    have hag : a ∉ gs := fun z => by rw [(hfr a z).1] at ha; cases ha
    have hLg : L ∉ gs := fun z => by
      obtain ⟨i, hi⟩ := List.getElem?_of_mem z
      obtain ⟨s, hs⟩ := getE (xs := l) (i := i) (by have := (List.getElem?_eq_some_iff.mp hi).1; have := hgl.n1; omega)
      obtain ⟨q, hq⟩ := getE (xs := gs0 (l.map (·.s))) (i := i) (by unfold gs0; simp only [List.length_map]; exact (List.getElem?_eq_some_iff.mp hs).1)
      obtain ⟨⟨dx, sv, w, _⟩, _⟩ := hgl.at_ i L s q hi hs hq
      rw [hL] at w
      cases w
    have hGg : G ∉ gs := fun z => (hfr G z).2 rfl
    refine ⟨_, rfl, a, rfl, ⟨evs, sq_of (e13 a _ ha)⟩, ?_⟩
    have hfin : ∀ {H' : Hp} {ld cd : List (Tm Nm)} {lv : List V}, Kp [m] H H' → H' L = some (.lst lv) → All2 (Ent H') lv ld → H' m = some (.lst (cV (cs ++ cd))) → R = (ld, cd) → Q (.ref L) H' := by
      intro H' ld cd lv kk h1 h2 h3 h4
      exact k L H' kk hL0 (by rw [h4]; exact h3) (by rw [h4]; exact ⟨lv, h1, h2⟩)
    refine for_list (xs := evs) (fun i σ' H' => Kp [m] H H' ∧ Fx H H' ∧ ∃ (ld cd : List (Tm Nm)) (lv : List V) (qs : List GS) (v5 v6 v7 v8 v9 v10 : Option V),
      σ' = [some (.ref p), some (.ref a), some (.ref t), some (.ref G), some (.ref L), v5, v6, v7, v8, v9, v10, none] ∧ H' a = some (.lst evs) ∧ H' G = some (.lst (gs.map V.ref)) ∧ H' L = some (.lst lv) ∧ All2 (Ent H') lv ld ∧ H' m = some (.lst (cV (cs ++ cd))) ∧ cd.length ≤ 32 * i ∧ ld.length ≤ i ∧ GL K H' gs l qs ∧
      R = (ld ++ (runPart (truthOf ats rows) (l.map (·.s)) qs (xs.drop i)).1, cd ++ (runPart (truthOf ats rows) (l.map (·.s)) qs (xs.drop i)).2)) ?_ ?_ ?_ ?_
    · refine ⟨Kp.of e13, Fx.of e13, [], [], [], gs0 (l.map (·.s)), none, none, none, none, none, none, rfl, e13 a _ ha, e3 G _ (e2 G _ hG), e3 L _ hL2, trivial, by rw [List.append_nil]; exact e13 m _ hm, by simp, by simp, hgl.ex (e2.trans e3), ?_⟩
      rw [← hR]
      simp
    · intro i σ' H' _ ⟨_, _, _, _, _, _, _, _, _, _, _, _, _, q, _⟩
      exact sq_of q
    · rintro i xv σ' H' hi ⟨kk, f, ld, cd, lv, qs, v5, v6, v7, v8, v9, v10, rfl, ha', hG', hL', hlv, hm', hcd, hld, hgl', hRe⟩
      obtain ⟨x, hx, hxe⟩ := hev.at hi
      have hxe := hxe.fx f
      obtain ⟨hvb, hfit⟩ := hxs x (List.mem_of_getElem? hx)
      have hxd : xs.drop i = x :: xs.drop (i + 1) := by
        rw [List.drop_eq_getElem_cons (List.getElem?_eq_some_iff.mp hx).1]
        congr 1
        exact (List.getElem?_eq_some_iff.mp hx).2
      have hi9 : i < 9 := by have := (List.getElem?_eq_some_iff.mp hx).1; omega
      refine ⟨_, rfl, _, _, _, rfl, ?_⟩
      refine gates_loop TT hG' hgl' hnd hl h8 (ht.fx f) wb hxe hvb hfit hm' (by rw [List.length_append]; omega) hmg hGm hGg fun H2 w9 w10 nv kp ks f2 hm2 hgl2 hny => ?_
      have hpc := pass_calls (T := truthOf ats rows) hl qs x
      generalize hP : pass (truthOf ats rows) (l.map (·.s)) qs x = P at hm2 hgl2 hny hpc
      have kk2 : Kp [m] H H2 := ⟨fun b o hb n => kp b o (kk.keep b o hb n) (fun z => by rw [(hfr b z).1] at hb; cases hb) (by simpa using n), fun b hb => kk.some_ b (ks b hb)⟩
      have hL2' : H2 L = some (.lst lv) := kp L _ hL' hLg hmL.symm
      have ha2 : H2 a = some (.lst evs) := kp a _ ha' hag ham
      have hG2 : H2 G = some (.lst (gs.map V.ref)) := kp G _ hG' hGg hGm
      have hlv2 : All2 (Ent H2) lv ld := hlv.imp fun _ _ z => z.fx f2
      have hc32 : P.1.length ≤ 32 := by omega
      -- what the turn comes to
      have hrun : runPart (truthOf ats rows) (l.map (·.s)) qs (xs.drop i) = (P.2.1.toList ++ (if P.2.2.1 = true then ([], []) else runPart (truthOf ats rows) (l.map (·.s)) P.2.2.2 (xs.drop (i + 1))).1, P.1 ++ (if P.2.2.1 = true then ([], []) else runPart (truthOf ats rows) (l.map (·.s)) P.2.2.2 (xs.drop (i + 1))).2) := by
        rw [hxd]
        simp only [runPart, hP]
      rw [hrun] at hRe
      -- behind the append
      have tail : ∀ {H3 : Hp} {lv3 : List V} {ld3 : List (Tm Nm)}, Kp [m] H H3 → Fx H H3 → H3 a = some (.lst evs) → H3 G = some (.lst (gs.map V.ref)) → H3 L = some (.lst lv3) → All2 (Ent H3) lv3 ld3 → H3 m = some (.lst (cV (cs ++ (cd ++ P.1)))) → GL K H3 gs l P.2.2.2 → ld3 = ld ++ P.2.1.toList → ld3.length ≤ i + 1 → ∀ {w5 w6 w7 w9 w10 : Option V} {DD : Ends},
          (P.2.2.1 = true → DD.bk = fun σ' H' => tRet (tVar 4) (ends Q) σ' H') → (P.2.2.1 = false → (Kp [m] H H3 ∧ Fx H H3 ∧ ∃ (ld cd : List (Tm Nm)) (lv : List V) (qs : List GS) (v5 v6 v7 v8 v9 v10 : Option V),
      [some (V.ref p), some (.ref a), some (.ref t), some (.ref G), some (.ref L), w5, w6, w7, some (.bl P.2.2.1), w9, w10, none] = [some (V.ref p), some (.ref a), some (.ref t), some (.ref G), some (.ref L), v5, v6, v7, v8, v9, v10, none] ∧ H3 a = some (.lst evs) ∧ H3 G = some (.lst (gs.map V.ref)) ∧ H3 L = some (.lst lv) ∧ All2 (Ent H3) lv ld ∧ H3 m = some (.lst (cV (cs ++ cd))) ∧ cd.length ≤ 32 * (i + 1) ∧ ld.length ≤ i + 1 ∧ GL K H3 gs l qs ∧
      R = (ld ++ (runPart (truthOf ats rows) (l.map (·.s)) qs (xs.drop (i + 1))).1, cd ++ (runPart (truthOf ats rows) (l.map (·.s)) qs (xs.drop (i + 1))).2)) → DD.nx [some (V.ref p), some (.ref a), some (.ref t), some (.ref G), some (.ref L), w5, w6, w7, some (.bl P.2.2.1), w9, w10, none] H3) →
          tIfS (tB (tVar 8)) (tBreak) (tNext) DD [some (V.ref p), some (.ref a), some (.ref t), some (.ref G), some (.ref L), w5, w6, w7, some (.bl P.2.2.1), w9, w10, none] H3 := by
        intro H3 lv3 ld3 q1 q2 q3 q4 q5 q6 q7 q8 q9 q10 w5 w6 w7 w9 w10 DD hbk hnx
        refine ⟨_, rfl, P.2.2.1, rfl, ?_⟩
        cases hov : P.2.2.1 with
        | true =>
          refine iteT ?_
          show DD.bk _ H3
          rw [hbk hov]
          refine ⟨_, rfl, ?_⟩
          rw [hov, if_pos rfl] at hRe
          refine hfin q1 q5 q6 q7 ?_
          rw [hRe, q9]
          simp
        | false =>
          rw [hov] at hnx
          refine iteF (hnx rfl ⟨q1, q2, ld3, cd ++ P.1, lv3, P.2.2.2, w5, w6, w7, some (.bl false), w9, w10, rfl, q3, q4, q5, q6, q7, by rw [List.length_append]; omega, q10, q8, ?_⟩)
          rw [hov, if_neg Bool.false_ne_true] at hRe
          rw [hRe, q9]
          simp [List.append_assoc]
      refine ⟨_, rfl, P.2.1.isSome, rfl, ?_⟩
      cases hsome : P.2.1 with
      | some y =>
        refine iteT ?_
        refine s_app hL2' (ev_var rfl) (ev_var rfl) (by have := hlv2.len; omega) fun H3 e4 => ?_
        have fL : Fx H2 (upd H3 L (.lst (lv ++ [nv]))) := fun b o hb ff => by
          have : b ≠ L := fun z => by
            rw [z, hL2'] at hb
            cases hb
            cases ff
          rw [upd_ne this]
          exact e4 b o hb
        have kL : Kp [L] H2 (upd H3 L (.lst (lv ++ [nv]))) := (Kp.of e4).put (by simp)
        refine tail ((kk2.trans (Kp.of e4)).own hL0) ((f.trans f2).trans fL) (by rw [upd_ne haL]; exact e4 a _ ha2) (by rw [upd_ne hGL]; exact e4 G _ hG2) upd_same ((hlv2.imp fun _ _ z => z.fx fL).snoc ((hny y hsome).fx fL)) (by rw [upd_ne hmL, ← List.append_assoc]; exact e4 m _ hm2) ⟨hgl2.n1, hgl2.n2, fun j g s q x1 x2 x3 => ⟨(hgl2.at_ j g s q x1 x2 x3).1.kp kL (by simp; exact fun z => hLg (z ▸ List.mem_of_getElem? x1)) fL, (hgl2.at_ j g s q x1 x2 x3).2⟩⟩ (by rw [hsome]; rfl) (by rw [List.length_append]; have : [y].length = 1 := rfl; omega) (fun _ => rfl) fun _ z => z
      | none =>
        refine iteF ?_
        show tIfS (tB (tVar 8)) tBreak tNext _ _ H2
        exact tail kk2 (f.trans f2) ha2 hG2 hL2' hlv2 (by rw [← List.append_assoc]; exact hm2) hgl2 (by rw [hsome]; simp) (by omega) (fun _ => rfl) fun _ z => z
    · rintro σ' H' ⟨kk, f, ld, cd, lv, qs, v5, v6, v7, v8, v9, v10, rfl, ha', hG', hL', hlv, hm', hcd, hld, hgl', hRe⟩
      refine ⟨_, rfl, ?_⟩
      rw [hev.len, List.drop_length] at hRe
      refine hfin kk hL' hlv hm' ?_
      rw [hRe]
      show (ld ++ [], cd ++ []) = _
      rw [List.append_nil, List.append_nil]
end
end CF

/-! text CfPC -/
set_option Elab.async false
set_option linter.all false
set_option maxRecDepth 100000
set_option maxHeartbeats 4000000
/-! the readings answer the promises: lines, stages -/
namespace CF
open PySem PySem.Spec PyProof.Rows L2 Evl
section
variable {K : PySem.W.Frag} {mg : Str → Option Value} {vs : List V} {H : Hp} {Q : VK} {E : XK} {σ : L2.St}
/-- applied(detail, 'x') -/
theorem ev_appl {i : Nat} {v : V} {w : List Nm} (hi : σ[i]? = some (some v)) (hv : Wd H v w) (hw : wordB w = true) (hl : w.length ≤ 100) : Ev (tCall sp_applied [] C8.E0 (tCons (tVar i) (tCons (tC (.str "x")) tNil))) σ H (nV (applL w [120])) :=
  ev_call (ea_cons (ev_var hi) (ea_cons (ev_cd (s := "x")) ea_nil)) fun H1 e1 Q q E => ⟨v, w, [120], rfl, hv.fx (Fx.of e1), hw, hl, by simp, q⟩
theorem lenC (s : String) {n : Nat} (h : s.length = n) : (cd s).length = n := by
  unfold cd
  rw [List.length_map, String.length_toList]
  exact h
theorem p_comprehension (h : sp_comprehension vs H Q E) : r_comprehension K sp_applied (ends Q) (start ["kind", "detail", "text"] vs) H := by
  obtain ⟨v, s, rfl, hd, hb, hc, k⟩ := h
  cases s with
  | each w =>
    simp only [sgB, Bool.and_eq_true, decide_eq_true_eq] at hb
    show r_comprehension K sp_applied (ends Q) (start ["kind", "detail", "text"] [.str "each", v]) H
    have hl := applL_len (w := w) [120] hb.1
    simp only [List.length_cons, List.length_nil] at hl
    refine q_asg (ev_appl rfl hd hb.1 (by omega)) fun H1 e1 => ⟨_, rfl, rfl, _, rfl, ifT rfl ?_⟩
    refine s_ret (v := nV (applL w [120] ++ (cd " for x in rows" ++ []))) (ev_joined (.cons (ev_fmtS (ev_var rfl) (by omega)) (.cons ev_cd .nil)) ?_) fun H2 e2 => ?_
    · simp only [List.length_append, List.length_nil, lenC " for x in rows" (n := 14) (by decide +kernel)]
      omega
    · rw [List.append_nil]
      exact k H2 (e1.trans e2)
  | keep w =>
    simp only [sgB, Bool.and_eq_true, decide_eq_true_eq] at hb
    show r_comprehension K sp_applied (ends Q) (start ["kind", "detail", "text"] [.str "keep", v]) H
    have hl := applL_len (w := w) [120] hb.1.1
    simp only [List.length_cons, List.length_nil] at hl
    refine q_asg (ev_appl rfl hd hb.1.1 (by omega)) fun H1 e1 => ⟨_, rfl, rfl, _, rfl, ifF (neS (by decide +kernel)) ?_⟩
    refine ⟨_, rfl, rfl, _, rfl, ifT rfl ?_⟩
    refine s_ret (v := nV (cd "x for x in rows if " ++ (applL w [120] ++ []))) (ev_joined (.cons ev_cd (.cons (ev_fmtS (ev_var rfl) (by omega)) .nil)) ?_) fun H2 e2 => ?_
    · simp only [List.length_append, List.length_nil, lenC "x for x in rows if " (n := 19) (by decide +kernel)]
      omega
    · rw [List.append_nil]
      exact k H2 (e1.trans e2)
  | drop w =>
    simp only [sgB, Bool.and_eq_true, decide_eq_true_eq] at hb
    show r_comprehension K sp_applied (ends Q) (start ["kind", "detail", "text"] [.str "drop", v]) H
    have hl := applL_len (w := w) [120] hb.1.1
    simp only [List.length_cons, List.length_nil] at hl
    refine q_asg (ev_appl rfl hd hb.1.1 (by omega)) fun H1 e1 => ⟨_, rfl, rfl, _, rfl, ifF (neS (by decide +kernel)) ?_⟩
    refine ⟨_, rfl, rfl, _, rfl, ifF (neS (by decide +kernel)) ?_⟩
    refine s_ret (v := nV (cd "x for x in rows if not " ++ (applL w [120] ++ []))) (ev_joined (.cons ev_cd (.cons (ev_fmtS (ev_var rfl) (by omega)) .nil)) ?_) fun H2 e2 => ?_
    · simp only [List.length_append, List.length_nil, lenC "x for x in rows if not " (n := 23) (by decide +kernel)]
      omega
    · rw [List.append_nil]
      exact k H2 (e1.trans e2)
  | _ => cases hc
theorem p_call (h : sp_call vs H Q E) : r_call K sp_applied (ends Q) (start ["kind", "detail", "text"] vs) H := by
  obtain ⟨v, s, rfl, hd, hb, hc, hs, k⟩ := h
  have z2 : 2 ≤ sizeLine := by decide
  cases s with
  | each w => cases hc
  | keep w => cases hc
  | drop w => cases hc
  | last n => cases hs
  | butl n => cases hs
  | turned => cases hs
  | whil w =>
    simp only [sgB, Bool.and_eq_true, decide_eq_true_eq] at hb
    show r_call K sp_applied (ends Q) (start ["kind", "detail", "text"] [.str "while", v]) H
    have hl := applL_len (w := w) [120] hb.1.1
    simp only [List.length_cons, List.length_nil] at hl
    refine ⟨_, rfl, z2, fun p hp => ⟨p, _, rfl, .inr (st_of upd_same), rfl, rfl, _, rfl, ibT (b := inV (.str "while") [.str "while", .str "from"]) (by decide +kernel) ?_⟩⟩
    refine q_asg (ev_appl rfl (hd.fx (Fx.of (Ex.new hp))) hb.1.1 (by omega)) fun H1 e1 => ⟨_, rfl, rfl, _, rfl, ifT rfl ?_⟩
    refine s_ret (v := nV (cd "takewhile(lambda x: " ++ (applL w [120] ++ (cd ", rows)" ++ [])))) (ev_joined (.cons ev_cd (.cons (ev_fmtS (ev_var rfl) (by omega)) (.cons ev_cd .nil))) ?_) fun H2 e2 => ?_
    · simp only [List.length_append, List.length_nil, lenC "takewhile(lambda x: " (n := 20) (by decide +kernel), lenC ", rows)" (n := 7) (by decide +kernel)]
      omega
    · rw [List.append_nil]
      exact k H2 ((Ex.new hp).trans (e1.trans e2))
  | from_ w =>
    simp only [sgB, Bool.and_eq_true, decide_eq_true_eq] at hb
    show r_call K sp_applied (ends Q) (start ["kind", "detail", "text"] [.str "from", v]) H
    have hl := applL_len (w := w) [120] hb.1.1
    simp only [List.length_cons, List.length_nil] at hl
    refine ⟨_, rfl, z2, fun p hp => ⟨p, _, rfl, .inr (st_of upd_same), rfl, rfl, _, rfl, ibT (b := inV (.str "from") [.str "while", .str "from"]) (by decide +kernel) ?_⟩⟩
    refine q_asg (ev_appl rfl (hd.fx (Fx.of (Ex.new hp))) hb.1.1 (by omega)) fun H1 e1 => ⟨_, rfl, rfl, _, rfl, ifF (neS (by decide +kernel)) ?_⟩
    refine s_ret (v := nV (cd "dropwhile(lambda x: " ++ (applL w [120] ++ (cd ", rows)" ++ [])))) (ev_joined (.cons ev_cd (.cons (ev_fmtS (ev_var rfl) (by omega)) (.cons ev_cd .nil))) ?_) fun H2 e2 => ?_
    · simp only [List.length_append, List.length_nil, lenC "dropwhile(lambda x: " (n := 20) (by decide +kernel), lenC ", rows)" (n := 7) (by decide +kernel)]
      omega
    · rw [List.append_nil]
      exact k H2 ((Ex.new hp).trans (e1.trans e2))
  | every m r =>
    simp only [sgB, Bool.and_eq_true, decide_eq_true_eq] at hb
    obtain ⟨a, rfl, ha⟩ := hd
    show r_call K sp_applied (ends Q) (start ["kind", "detail", "text"] [.str "every", .ref a]) H
    refine ⟨_, rfl, z2, fun p hp => ⟨p, _, rfl, .inr (st_of upd_same), rfl, rfl, _, rfl, ibF (b := inV (.str "every") [.str "while", .str "from"]) (by decide +kernel) ?_⟩⟩
    refine ⟨_, rfl, rfl, _, rfl, ifT rfl ?_⟩
    have ha' : upd H p (.tup [.str "while", .str "from"]) a = some (.tup [.int m, .int r]) := (Ex.new hp) a _ ha
    refine s_ret (v := nV (cd "islice(rows, " ++ ([48 + r] ++ (cd ", None, " ++ ([48 + m] ++ (cd ")" ++ [])))))) (ev_joined (.cons ev_cd (.cons (ev_fmtI (ev_op (ev_var rfl) (ev_c (v := .int ((1 : Nat) : Int))) (rv_ixT (st_of ha') (atI_nat (j := 1) rfl))) hb.2)
      (.cons ev_cd (.cons (ev_fmtI (ev_op (ev_var rfl) (ev_c (v := .int ((0 : Nat) : Int))) (rv_ixT (st_of ha') (atI_nat (j := 0) rfl))) hb.1.2) (.cons ev_cd .nil))))) ?_) fun H2 e2 => ?_
    · simp only [List.length_append, List.length_cons, List.length_nil, lenC "islice(rows, " (n := 13) (by decide +kernel), lenC ", None, " (n := 8) (by decide +kernel), lenC ")" (n := 1) (by decide +kernel)]
      omega
    · rw [List.append_nil]
      exact k H2 ((Ex.new hp).trans e2)
  | first n =>
    simp only [sgB, decide_eq_true_eq] at hb
    obtain rfl : v = .int n := hd
    show r_call K sp_applied (ends Q) (start ["kind", "detail", "text"] [.str "first", .int n]) H
    refine ⟨_, rfl, z2, fun p hp => ⟨p, _, rfl, .inr (st_of upd_same), rfl, rfl, _, rfl, ibF (b := inV (.str "first") [.str "while", .str "from"]) (by decide +kernel) ?_⟩⟩
    refine ⟨_, rfl, rfl, _, rfl, ifF (neS (by decide +kernel)) ?_⟩
    refine ⟨_, rfl, rfl, _, rfl, ifT rfl ?_⟩
    refine s_ret (v := nV (cd "islice(rows, " ++ ([48 + n] ++ (cd ")" ++ [])))) (ev_joined (.cons ev_cd (.cons (ev_fmtI (ev_var rfl) hb) (.cons ev_cd .nil))) ?_) fun H2 e2 => ?_
    · simp only [List.length_append, List.length_cons, List.length_nil, lenC "islice(rows, " (n := 13) (by decide +kernel), lenC ")" (n := 1) (by decide +kernel)]
      omega
    · rw [List.append_nil]
      exact k H2 ((Ex.new hp).trans e2)
  | skip n =>
    simp only [sgB, decide_eq_true_eq] at hb
    obtain rfl : v = .int n := hd
    show r_call K sp_applied (ends Q) (start ["kind", "detail", "text"] [.str "skip", .int n]) H
    refine ⟨_, rfl, z2, fun p hp => ⟨p, _, rfl, .inr (st_of upd_same), rfl, rfl, _, rfl, ibF (b := inV (.str "skip") [.str "while", .str "from"]) (by decide +kernel) ?_⟩⟩
    refine ⟨_, rfl, rfl, _, rfl, ifF (neS (by decide +kernel)) ?_⟩
    refine ⟨_, rfl, rfl, _, rfl, ifF (neS (by decide +kernel)) ?_⟩
    refine s_ret (v := nV (cd "islice(rows, " ++ ([48 + n] ++ (cd ", None)" ++ [])))) (ev_joined (.cons ev_cd (.cons (ev_fmtI (ev_var rfl) hb) (.cons ev_cd .nil))) ?_) fun H2 e2 => ?_
    · simp only [List.length_append, List.length_cons, List.length_nil, lenC "islice(rows, " (n := 13) (by decide +kernel), lenC ", None)" (n := 7) (by decide +kernel)]
      omega
    · rw [List.append_nil]
      exact k H2 ((Ex.new hp).trans e2)
theorem compL_len {s : Sg Nm} (hb : sgB s = true) : (compL s).length ≤ 1000 := by
  cases s with
  | each w =>
    simp only [sgB, Bool.and_eq_true, decide_eq_true_eq] at hb
    have hl := applL_len (w := w) [120] hb.1
    simp only [compL, List.length_append, List.length_cons, List.length_nil, lenC " for x in rows" (n := 14) (by decide +kernel)] at hl ⊢
    omega
  | keep w =>
    simp only [sgB, Bool.and_eq_true, decide_eq_true_eq] at hb
    have hl := applL_len (w := w) [120] hb.1.1
    simp only [compL, List.length_append, List.length_cons, List.length_nil, lenC "x for x in rows if " (n := 19) (by decide +kernel)] at hl ⊢
    omega
  | drop w =>
    simp only [sgB, Bool.and_eq_true, decide_eq_true_eq] at hb
    have hl := applL_len (w := w) [120] hb.1.1
    simp only [compL, List.length_append, List.length_cons, List.length_nil, lenC "x for x in rows if not " (n := 23) (by decide +kernel)] at hl ⊢
    omega
  | _ => simp [compL]
theorem callL_len {s : Sg Nm} (hb : sgB s = true) : (callL s).length ≤ 1000 := by
  cases s with
  | whil w =>
    simp only [sgB, Bool.and_eq_true, decide_eq_true_eq] at hb
    have hl := applL_len (w := w) [120] hb.1.1
    simp only [callL, List.length_append, List.length_cons, List.length_nil, lenC "takewhile(lambda x: " (n := 20) (by decide +kernel), lenC ", rows)" (n := 7) (by decide +kernel)] at hl ⊢
    omega
  | from_ w =>
    simp only [sgB, Bool.and_eq_true, decide_eq_true_eq] at hb
    have hl := applL_len (w := w) [120] hb.1.1
    simp only [callL, List.length_append, List.length_cons, List.length_nil, lenC "dropwhile(lambda x: " (n := 20) (by decide +kernel), lenC ", rows)" (n := 7) (by decide +kernel)] at hl ⊢
    omega
  | every k r => simp only [callL, List.length_append, List.length_cons, List.length_nil, lenC "islice(rows, " (n := 13) (by decide +kernel), lenC ", None, " (n := 8) (by decide +kernel), lenC ")" (n := 1) (by decide +kernel)]; omega
  | first n => simp only [callL, List.length_append, List.length_cons, List.length_nil, lenC "islice(rows, " (n := 13) (by decide +kernel), lenC ")" (n := 1) (by decide +kernel)]; omega
  | skip n => simp only [callL, List.length_append, List.length_cons, List.length_nil, lenC "islice(rows, " (n := 13) (by decide +kernel), lenC ", None)" (n := 7) (by decide +kernel)]; omega
  | _ => simp [callL]
end
end CF

/-! text CfPD -/
set_option Elab.async false
set_option linter.all false
set_option maxRecDepth 100000
set_option maxHeartbeats 4000000
/-! the readings answer the promises: line_of, Stage -/
namespace CF
open PySem PySem.Spec PyProof.Rows L2 Evl
section
variable {K : PySem.W.Frag} {mg : Str → Option Value} {vs : List V} {H : Hp} {Q : VK} {E : XK} {σ : L2.St}
theorem ev_ifB {b : Bool} {i : Nat} {v1 v2 : V} {ta tb : TE} (hi : σ[i]? = some (some (.bl b))) (h1 : b = true → Ev ta σ H v1) (h2 : b = false → Ev tb σ H v2) : Ev (tIf (tB (tVar i)) ta tb) σ H (if b then v1 else v2) := by
  refine ev_if (et_B (ev_var hi)) (fun hb => ?_) fun hb => ?_
  · rw [hb]; exact h1 hb
  · rw [hb]; exact h2 hb
theorem p_line_of (T : Tx K mg) (h : sp_line_of vs H Q E) : r_line_of K sp_comprehension sp_call (ends Q) (start ["kind", "detail", "now", "text"] vs) H := by
  obtain ⟨v, s, now, rfl, hd, hb, k⟩ := h
  have z3 : 3 ≤ sizeLine := by decide
  have cc : ∀ {x : Str}, x = Sg.kd s → isComp s = true → (x == "turned") = false → inV (.str x) [.str "last", .str "but last", .str "turned"] = false → inV (.str x) [.str "each", .str "keep", .str "drop"] = true →
      lineL s now = (if now then cd "rows = [" ++ (compL s ++ cd "]") else cd "rows = (" ++ (compL s ++ cd ")")) → r_line_of K sp_comprehension sp_call (ends Q) (start ["kind", "detail", "now", "text"] [.str x, v, .bl now]) H := by
    intro x ex hc e1 e2 e3 e4
    refine ⟨_, rfl, rfl, _, rfl, ifF (neS e1) ?_⟩
    refine ⟨_, rfl, _, _, rfl, .inr (T.t_LIST_KINDS H), rfl, rfl, _, rfl, ibF e2 ?_⟩
    refine ⟨_, rfl, z3, fun p hp => ⟨p, _, rfl, .inr (st_of upd_same), rfl, rfl, _, rfl, ibT e3 ?_⟩⟩
    refine q_asg (v := nV (compL s)) (ev_call (ea_cons (ev_var rfl) (ea_cons (ev_var rfl) ea_nil)) fun H1 e1 Q q E => ⟨v, s, by rw [ex]; rfl, hd.fx (Fx.of ((Ex.new hp).trans e1)), hb, hc, q⟩) fun H1 e1 => ?_
    have hl := compL_len hb
    refine s_ret (v := nV (lineL s now)) (ev_is (ev_ifB (b := now) (v1 := nV (cd "rows = [" ++ (compL s ++ (cd "]" ++ [])))) (v2 := nV (cd "rows = (" ++ (compL s ++ (cd ")" ++ [])))) rfl
      (fun _ => ev_joined (.cons ev_cd (.cons (ev_fmtS (ev_var rfl) (by omega)) (.cons ev_cd .nil))) ?_) fun _ => ev_joined (.cons ev_cd (.cons (ev_fmtS (ev_var rfl) (by omega)) (.cons ev_cd .nil))) ?_) ?_) fun H2 e2 => k H2 ((Ex.new hp).trans (e1.trans e2))
    · simp only [List.length_append, List.length_nil, lenC "rows = [" (n := 8) (by decide +kernel), lenC "]" (n := 1) (by decide +kernel)]; omega
    · simp only [List.length_append, List.length_nil, lenC "rows = (" (n := 8) (by decide +kernel), lenC ")" (n := 1) (by decide +kernel)]; omega
    · rw [e4]
      cases now <;> simp
  have ll : ∀ {x : Str}, x = Sg.kd s → isComp s = false → s.isList = false → (x == "turned") = false → inV (.str x) [.str "last", .str "but last", .str "turned"] = false → inV (.str x) [.str "each", .str "keep", .str "drop"] = false →
      lineL s now = (if now then cd "rows = list(" ++ (callL s ++ cd ")") else cd "rows = " ++ callL s) → r_line_of K sp_comprehension sp_call (ends Q) (start ["kind", "detail", "now", "text"] [.str x, v, .bl now]) H := by
    intro x ex hc hs e1 e2 e3 e4
    refine ⟨_, rfl, rfl, _, rfl, ifF (neS e1) ?_⟩
    refine ⟨_, rfl, _, _, rfl, .inr (T.t_LIST_KINDS H), rfl, rfl, _, rfl, ibF e2 ?_⟩
    refine ⟨_, rfl, z3, fun p hp => ⟨p, _, rfl, .inr (st_of upd_same), rfl, rfl, _, rfl, ibF e3 ?_⟩⟩
    refine q_asg (v := nV (callL s)) (ev_call (ea_cons (ev_var rfl) (ea_cons (ev_var rfl) ea_nil)) fun H1 e1 Q q E => ⟨v, s, by rw [ex]; rfl, hd.fx (Fx.of ((Ex.new hp).trans e1)), hb, hc, hs, q⟩) fun H1 e1 => ?_
    have hl := callL_len hb
    refine s_ret (v := nV (lineL s now)) (ev_is (ev_ifB (b := now) (v1 := nV (cd "rows = list(" ++ (callL s ++ (cd ")" ++ [])))) (v2 := nV (cd "rows = " ++ (callL s ++ []))) rfl
      (fun _ => ev_joined (.cons ev_cd (.cons (ev_fmtS (ev_var rfl) (by omega)) (.cons ev_cd .nil))) ?_) fun _ => ev_joined (.cons ev_cd (.cons (ev_fmtS (ev_var rfl) (by omega)) .nil)) ?_) ?_) fun H2 e2 => k H2 ((Ex.new hp).trans (e1.trans e2))
    · simp only [List.length_append, List.length_nil, lenC "rows = list(" (n := 12) (by decide +kernel), lenC ")" (n := 1) (by decide +kernel)]; omega
    · simp only [List.length_append, List.length_nil, lenC "rows = " (n := 7) (by decide +kernel)]; omega
    · rw [e4]
      cases now <;> simp
  cases s with
  | each w => exact cc (x := "each") rfl rfl (by decide +kernel) (by decide +kernel) (by decide +kernel) rfl
  | keep w => exact cc (x := "keep") rfl rfl (by decide +kernel) (by decide +kernel) (by decide +kernel) rfl
  | drop w => exact cc (x := "drop") rfl rfl (by decide +kernel) (by decide +kernel) (by decide +kernel) rfl
  | whil w => exact ll (x := "while") rfl rfl rfl (by decide +kernel) (by decide +kernel) (by decide +kernel) rfl
  | from_ w => exact ll (x := "from") rfl rfl rfl (by decide +kernel) (by decide +kernel) (by decide +kernel) rfl
  | first w => exact ll (x := "first") rfl rfl rfl (by decide +kernel) (by decide +kernel) (by decide +kernel) rfl
  | skip w => exact ll (x := "skip") rfl rfl rfl (by decide +kernel) (by decide +kernel) (by decide +kernel) rfl
  | every w r => exact ll (x := "every") rfl rfl rfl (by decide +kernel) (by decide +kernel) (by decide +kernel) rfl
  | turned =>
    show r_line_of K sp_comprehension sp_call (ends Q) (start ["kind", "detail", "now", "text"] [.str "turned", v, .bl now]) H
    refine ⟨_, rfl, rfl, _, rfl, ifT rfl ?_⟩
    have := k H (Ex.refl H)
    rw [show nV (lineL .turned now) = V.str ("rows = list(rows)[::-1]" : Str) by rw [cd_S]; rfl] at this
    exact this
  | last n =>
    obtain rfl : v = .int n := hd
    simp only [sgB, Bool.and_eq_true, decide_eq_true_eq] at hb
    show r_line_of K sp_comprehension sp_call (ends Q) (start ["kind", "detail", "now", "text"] [.str "last", .int n, .bl now]) H
    refine ⟨_, rfl, rfl, _, rfl, ifF (neS (by decide +kernel)) ?_⟩
    refine ⟨_, rfl, _, _, rfl, .inr (T.t_LIST_KINDS H), rfl, rfl, _, rfl, ibT (b := inV (.str "last") [.str "last", .str "but last", .str "turned"]) (by decide +kernel) ?_⟩
    refine ⟨_, rfl, rfl, _, rfl, ifT rfl ?_⟩
    refine s_ret (v := nV (cd "rows = list(rows)[-" ++ ([48 + n] ++ (cd ":]" ++ [])))) (ev_joined (.cons ev_cd (.cons (ev_fmtI (ev_var rfl) hb.2) (.cons ev_cd .nil))) ?_) fun H2 e2 => ?_
    · simp only [List.length_append, List.length_cons, List.length_nil, lenC "rows = list(rows)[-" (n := 19) (by decide +kernel), lenC ":]" (n := 2) (by decide +kernel)]; omega
    · rw [List.append_nil]; exact k H2 e2
  | butl n =>
    obtain rfl : v = .int n := hd
    simp only [sgB, Bool.and_eq_true, decide_eq_true_eq] at hb
    show r_line_of K sp_comprehension sp_call (ends Q) (start ["kind", "detail", "now", "text"] [.str "but last", .int n, .bl now]) H
    refine ⟨_, rfl, rfl, _, rfl, ifF (neS (by decide +kernel)) ?_⟩
    refine ⟨_, rfl, _, _, rfl, .inr (T.t_LIST_KINDS H), rfl, rfl, _, rfl, ibT (b := inV (.str "but last") [.str "last", .str "but last", .str "turned"]) (by decide +kernel) ?_⟩
    refine ⟨_, rfl, rfl, _, rfl, ifF (neS (by decide +kernel)) ?_⟩
    refine s_ret (v := nV (cd "rows = list(rows)[:-" ++ ([48 + n] ++ (cd "]" ++ [])))) (ev_joined (.cons ev_cd (.cons (ev_fmtI (ev_var rfl) hb.2) (.cons ev_cd .nil))) ?_) fun H2 e2 => ?_
    · simp only [List.length_append, List.length_cons, List.length_nil, lenC "rows = list(rows)[:-" (n := 20) (by decide +kernel), lenC "]" (n := 1) (by decide +kernel)]; omega
    · rw [List.append_nil]; exact k H2 e2
/-! ### Stage -/
theorem kinds_all (s : Sg Nm) : inV (.str s.kd) [.str "each", .str "keep", .str "drop", .str "while", .str "from", .str "first", .str "skip", .str "every", .str "last", .str "but last", .str "turned"] = true := by
  have go : ∀ x ∈ (["each", "keep", "drop", "while", "from", "first", "skip", "every", "last", "but last", "turned"] : List Str), inV (.str x) [.str "each", .str "keep", .str "drop", .str "while", .str "from", .str "first", .str "skip", .str "every", .str "last", .str "but last", .str "turned"] = true := by decide +kernel
  exact go _ (by cases s <;> simp [Sg.kd])
theorem kinds_list (s : Sg Nm) : inV (.str s.kd) [.str "last", .str "but last", .str "turned"] = s.isList := by
  have go : ∀ x ∈ (["each", "keep", "drop", "while", "from", "first", "skip", "every"] : List Str), inV (.str x) [.str "last", .str "but last", .str "turned"] = false := by decide +kernel
  have go2 : ∀ x ∈ (["last", "but last", "turned"] : List Str), inV (.str x) [.str "last", .str "but last", .str "turned"] = true := by decide +kernel
  cases s <;> first | exact go _ (by simp [Sg.kd]) | exact go2 _ (by simp [Sg.kd])
theorem p_Stage___init__ (T : Tx K mg) (h : sp_Stage K vs H Q E) : r_Stage___init__ K sp_is_detail (ends Q) (start ["self", "kind", "detail", "now"] vs) H := by
  obtain ⟨a, dx, v, s, now, rfl, ha, hd, hb, k⟩ := h
  obtain ⟨t, h1, h2⟩ := ty_str (K := K) (n := "str") (b := true) s.kd H (by decide +kernel)
  refine ⟨_, rfl, _, _, t, .type "str", true, rfl, .ty "str", h1, h2, true, rfl, ?_⟩
  refine ibF (b := !true) rfl ?_
  refine ⟨_, rfl, _, _, rfl, .inr (T.t_KINDS H), rfl, rfl, _, rfl, ibF ?_ ?_⟩
  · show (!inV (.str s.kd) _) = false
    rw [kinds_all]
    rfl
  refine ⟨_, rfl, _, rfl, v, s, rfl, hd, hb, fun H1 e1 => ⟨true, rfl, ibF (b := !true) rfl ?_⟩⟩
  obtain ⟨t, h1, h2⟩ := ty_bl (K := K) (n := "bool") (b := true) now H1 (by decide +kernel)
  refine ⟨_, rfl, _, _, t, .type "bool", true, rfl, .ty "bool", h1, h2, true, rfl, ibF (b := !true) rfl ?_⟩
  have fin : ∀ b : Bool, b = (now || s.isList) → (3 ≤ sizeLine ∧ ∀ p, H1 p = none → ∃ v', (start ["self", "kind", "detail", "now"] [.ref a, .str s.kd, v, .bl now])[0]? = some (some v') ∧ ∃ a C dx fs, v' = .ref a ∧ upd H1 p (.tup [.str s.kd, v, .bl b]) a = some (.ins C dx fs) ∧ Cls K C ∧ NoAttr K C "fields" ∧ fs.length < 1000 ∧
      Q .non (upd (upd H1 p (.tup [.str s.kd, v, .bl b])) a (.ins C dx (putF "fields" (.ref p) fs)))) := by
    rintro b rfl
    refine ⟨by decide, fun p hp => ⟨_, rfl, a, _, dx, [], rfl, (by rw [upd_ne (ne_of_none (e1 a _ ha) hp)]; exact e1 a _ ha), T.cls_Stage, T.no_Stage_fields, by decide, ?_⟩⟩
    have e2 : Ex H1 (upd H1 p (.tup [.str s.kd, v, .bl (now || s.isList)])) := Ex.new hp
    refine k _ ((Kp.of (e1.trans e2)).put (by simp)) ⟨a, dx, p, v, rfl, upd_same, ?_, ?_⟩
    · rw [upd_ne (ne_of_none (e1 a _ ha) hp).symm]
      exact upd_same
    · refine hd.fx fun b o e f => ?_
      have hb : b ≠ a := by
        intro z
        rw [z, ha] at e
        cases e
        cases f
      rw [upd_ne hb]
      exact (e1.trans e2) b o e
  refine ⟨_, rfl, _, rfl, _, rfl, now, rfl, ?_⟩
  cases now with
  | true => exact iteT (fin true rfl)
  | false =>
    refine ibF rfl ⟨_, rfl, _, _, rfl, .inr (T.t_LIST_KINDS H1), rfl, rfl, ?_⟩
    exact fin _ (kinds_list s)
theorem stg_at {K : PySem.W.Frag} {C a dx t : Addr} {x : Str} {xs : List V} {i : Nat} {v : V} (c : Cls K C) (n : NoAttr K C x) (ha : H a = some (.ins C dx [(x, .ref t)])) (ht : H t = some (.tup xs)) (hi : xs[i]? = some v) : Ev (tOp (rIxT K) (tFld K (tVar 0) x) (tC (.int (i : Nat)))) (start ["self"] [.ref a]) H v := fun H1 e Q q =>
  ⟨_, rfl, a, C, dx, _, _, rfl, e a _ ha, c, n, by rw [List.lookup_cons, beq_self_eq_true], t, xs, (i : Int), v, rfl, rfl, st_of (e t _ ht), atI_nat hi, q H1 (Ex.refl H1)⟩
theorem p_Stage_kind (T : Tx K mg) (h : sp_Stage_kind K vs H Q E) : r_Stage_kind K (ends Q) (start ["self"] vs) H := by
  obtain ⟨v, st, rfl, ⟨a, dx, t, d, rfl, ha, ht, hd⟩, k⟩ := h
  exact s_ret (stg_at (i := 0) T.cls_Stage T.no_Stage_fields ha ht rfl) k
theorem p_Stage_detail (T : Tx K mg) (h : sp_Stage_detail K vs H Q E) : r_Stage_detail K (ends Q) (start ["self"] vs) H := by
  obtain ⟨v, st, rfl, ⟨a, dx, t, d, rfl, ha, ht, hd⟩, k⟩ := h
  exact s_ret (stg_at (i := 1) T.cls_Stage T.no_Stage_fields ha ht rfl) fun H1 e => k H1 d e hd
theorem p_Stage_now (T : Tx K mg) (h : sp_Stage_now K vs H Q E) : r_Stage_now K (ends Q) (start ["self"] vs) H := by
  obtain ⟨v, st, rfl, ⟨a, dx, t, d, rfl, ha, ht, hd⟩, k⟩ := h
  exact s_ret (stg_at (i := 2) T.cls_Stage T.no_Stage_fields ha ht rfl) k
theorem p_Stage___str__ (T : Tx K mg) (h : sp_str_Stage K vs H Q E) : r_Stage___str__ K sp_line_of (ends Q) (start ["self"] vs) H := by
  obtain ⟨v, st, rfl, ⟨a, dx, t, d, rfl, ha, ht, hd⟩, hb, k⟩ := h
  have hb' : sgB st.s = true := by
    unfold stB at hb
    rw [Bool.and_eq_true] at hb
    exact hb.1
  have z : Ev (tCall sp_line_of [] C8.E0 (tCons (tOp (rIxT K) (tFld K (tVar 0) "fields") (tC (.int ((0 : Nat) : Int)))) (tCons (tOp (rIxT K) (tFld K (tVar 0) "fields") (tC (.int ((1 : Nat) : Int)))) (tCons (tOp (rIxT K) (tFld K (tVar 0) "fields") (tC (.int ((2 : Nat) : Int)))) tNil)))) (start ["self"] [.ref a]) H (nV (lineL st.s st.now)) :=
    ev_call (ea_cons (stg_at (i := 0) T.cls_Stage T.no_Stage_fields ha ht rfl) (ea_cons (stg_at (i := 1) T.cls_Stage T.no_Stage_fields ha ht rfl) (ea_cons (stg_at (i := 2) T.cls_Stage T.no_Stage_fields ha ht rfl) ea_nil))) fun H1 e1 Q q E => ⟨d, st.s, st.now, rfl, hd.fx (Fx.of e1), hb', q⟩
  exact s_ret (fun H1 e1 Q q => z H1 e1 _ fun H2 e2 => ⟨_, rfl, q H2 e2⟩) k
end
end CF

/-! text CfPK -/
set_option Elab.async false
set_option linter.all false
set_option maxRecDepth 100000
set_option maxHeartbeats 4000000
/-! plain: what a part leaves; the reading of played -/
namespace CF
open PySem PySem.Spec PyProof.Rows L2 Evl
section
variable {T : Nat → List Nm → Bool} {ats : List (List Nm)} {rows : List (List Bool)}
def wordAfter : List (Sg Nm) → List Nm → List Nm
  | [], w => w
  | s :: r, w => wordAfter r (eachW s w)
theorem Fit_app : ∀ (a b : List (Sg Nm)) (w : List Nm), Fit ats (a ++ b) w ↔ Fit ats a w ∧ Fit ats b (wordAfter a w)
  | [], b, w => by simp [Fit, wordAfter]
  | s :: a, b, w => by
    show (_ ∧ Fit ats (a ++ b) (eachW s w)) ↔ _
    rw [Fit_app a b]
    simp only [Fit, wordAfter]
    exact ⟨fun h => ⟨⟨h.1, h.2.1⟩, h.2.2⟩, fun h => ⟨h.1.1, h.1.2, h.2⟩⟩
theorem wordAfter_len : ∀ {l : List (Step Nm)} (w : List Nm), (∀ st ∈ l, stB st = true) → (wordAfter (l.map (·.s)) w).length ≤ w.length + 3 * l.length
  | [], w, _ => by simp [wordAfter]
  | s :: l, w, h => by
    have hsb : sgB s.s = true := by
      have sb := h s (List.mem_cons_self ..)
      unfold stB at sb
      rw [Bool.and_eq_true] at sb
      exact sb.1
    have h1 := eachW_len (w := w) hsb
    have h2 := wordAfter_len (l := l) (eachW s.s w) fun st hs => h st (List.mem_cons_of_mem _ hs)
    simp only [List.map_cons, wordAfter, List.length_cons] at *
    omega
theorem wordAfter_word : ∀ {l : List (Step Nm)} {w : List Nm}, (∀ st ∈ l, stB st = true) → wordB w = true → wordB (wordAfter (l.map (·.s)) w) = true
  | [], w, _, hw => hw
  | s :: l, w, h, hw => by
    have hsb : sgB s.s = true := by
      have sb := h s (List.mem_cons_self ..)
      unfold stB at sb
      rw [Bool.and_eq_true] at sb
      exact sb.1
    exact wordAfter_word (l := l) (fun st hs => h st (List.mem_cons_of_mem _ hs)) (eachW_word hsb hw)
theorem pass_word : ∀ {l : List (Step Nm)} {qs : List GS} {x y : Tm Nm}, (∀ st ∈ l, st.s.isList = false) → qs.length = l.length → (pass T (l.map (·.s)) qs x).2.1 = some y → y = (x.1, wordAfter (l.map (·.s)) x.2)
  | [], qs, x, y, _, _, h => by
    rw [List.map_nil, pass_nil] at h
    exact (Option.some.inj h).symm
  | s :: l, [], x, y, _, hn, _ => by cases hn
  | s :: l, q :: qs, x, y, hl, hn, h => by
    rw [List.map_cons] at h
    unfold pass at h
    simp only at h
    split at h
    · cases h
    · rename_i z hz
      have h1 := gstep_word hz (hl s (List.mem_cons_self ..))
      have h2 := pass_word (l := l) (fun st hs => hl st (List.mem_cons_of_mem _ hs)) (by simpa using hn) h
      rw [h2, h1]
      rfl
theorem run_facts : ∀ {l : List (Step Nm)} {xs : List (Tm Nm)} {qs : List GS}, (∀ st ∈ l, stB st = true ∧ st.s.isList = false) → qs.length = l.length → (runPart T (l.map (·.s)) qs xs).2.length ≤ 4 * l.length * xs.length ∧ (runPart T (l.map (·.s)) qs xs).1.length ≤ xs.length ∧ ∀ y ∈ (runPart T (l.map (·.s)) qs xs).1, ∃ x ∈ xs, y = (x.1, wordAfter (l.map (·.s)) x.2)
  | l, [], qs, _, _ => ⟨Nat.zero_le _, Nat.zero_le _, fun y h => nomatch h⟩
  | l, x :: xs, qs, hl, hn => by
    have hp := pass_calls (T := T) hl qs x
    have hlen := pass_len (T := T) (l.map (·.s)) qs x (by rw [List.length_map]; exact hn)
    rw [List.length_map] at hlen
    obtain ⟨i1, i2, i3⟩ := run_facts (l := l) (xs := xs) (qs := (pass T (l.map (·.s)) qs x).2.2.2) hl hlen
    have e4 : 4 * l.length * (xs.length + 1) = 4 * l.length * xs.length + 4 * l.length := by rw [Nat.mul_succ]
    have ho : (pass T (l.map (·.s)) qs x).2.1.toList.length ≤ 1 := by cases (pass T (l.map (·.s)) qs x).2.1 <;> simp
    have hw : ∀ y ∈ (pass T (l.map (·.s)) qs x).2.1.toList, y = (x.1, wordAfter (l.map (·.s)) x.2) := fun y hy => by
      rw [Option.mem_toList] at hy
      exact pass_word (fun st hs => (hl st hs).2) hn hy
    simp only [runPart]
    split
    · refine ⟨?_, ?_, fun y hy => ?_⟩
      · simp only [List.append_nil, List.length_cons]; omega
      · simp only [List.append_nil, List.length_cons]; omega
      · rw [List.append_nil] at hy
        exact ⟨x, List.mem_cons_self .., hw y hy⟩
    · refine ⟨?_, ?_, fun y hy => ?_⟩
      · simp only [List.length_append, List.length_cons]; omega
      · simp only [List.length_append, List.length_cons]; omega
      · rcases List.mem_append.mp hy with h | h
        · exact ⟨x, List.mem_cons_self .., hw y h⟩
        · obtain ⟨x', hx', e⟩ := i3 y h
          exact ⟨x', List.mem_cons_of_mem _ hx', e⟩
theorem play_facts {l : List (Step Nm)} {xs : List (Tm Nm)} (hl : ∀ st ∈ l, stB st = true ∧ st.s.isList = false) : (playPart T (l.map (·.s)) xs).2.length ≤ 4 * l.length * xs.length ∧ (playPart T (l.map (·.s)) xs).1.length ≤ xs.length ∧ ∀ y ∈ (playPart T (l.map (·.s)) xs).1, ∃ x ∈ xs, y = (x.1, wordAfter (l.map (·.s)) x.2) := by
  unfold playPart
  split
  · exact ⟨Nat.zero_le _, Nat.zero_le _, fun y h => nomatch h⟩
  · exact run_facts hl (by unfold gs0; simp)
theorem left_facts {s : Sg Nm} {xs : List (Tm Nm)} : (leftOf s xs).length ≤ xs.length ∧ ∀ y ∈ leftOf s xs, y ∈ xs := by
  cases s <;> simp only [leftOf] <;> first
    | exact ⟨Nat.le_refl _, fun y h => h⟩
    | exact ⟨by rw [List.length_drop]; omega, fun y h => List.mem_of_mem_drop h⟩
    | exact ⟨by rw [List.length_take]; omega, fun y h => List.mem_of_mem_take h⟩
    | exact ⟨by rw [List.length_reverse]; exact Nat.le_refl _, fun y h => List.mem_reverse.mp h⟩
/-! ### parts -/
def partOk (p : List (Step Nm)) : Prop := (∃ st, p = [st] ∧ st.s.isList = true) ∨ ∀ st ∈ p, st.s.isList = false
theorem partsGo_ok : ∀ (l p : List (Step Nm)), (∀ st ∈ p, st.s.isList = false) → (partsGo l p).flatten = p ++ l ∧ ∀ q ∈ partsGo l p, partOk q
  | [], p, hp => ⟨by simp [partsGo], fun q hq => by simp only [partsGo, List.mem_singleton] at hq; subst hq; exact .inr hp⟩
  | st :: r, p, hp => by
    simp only [partsGo]
    split
    · rename_i hl
      obtain ⟨i1, i2⟩ := partsGo_ok r [] (by simp)
      refine ⟨by simp [i1], fun q hq => ?_⟩
      rcases List.mem_cons.mp hq with rfl | hq
      · exact .inr hp
      · rcases List.mem_cons.mp hq with rfl | hq
        · exact .inl ⟨st, rfl, hl⟩
        · exact i2 q hq
    · rename_i hl
      have hl : st.s.isList = false := by simpa using hl
      have hp2 : ∀ x ∈ p ++ [st], x.s.isList = false := fun x hx => by
        rcases List.mem_append.mp hx with h | h
        · exact hp x h
        · rw [List.mem_singleton] at h; subst h; exact hl
      split
      · obtain ⟨i1, i2⟩ := partsGo_ok r [] (by simp)
        refine ⟨by simp [i1], fun q hq => ?_⟩
        rcases List.mem_cons.mp hq with rfl | hq
        · exact .inr hp2
        · exact i2 q hq
      · obtain ⟨i1, i2⟩ := partsGo_ok r (p ++ [st]) hp2
        exact ⟨by rw [i1]; simp, i2⟩
theorem flatten_filter (ps : List (List (Step Nm))) : (ps.filter fun p => decide (0 < p.length)).flatten = ps.flatten := by
  induction ps with
  | nil => rfl
  | cons p ps ih =>
    rw [List.filter_cons]
    split
    · rw [List.flatten_cons, ih]; rfl
    · rename_i h
      have : p = [] := by
        cases p with
        | nil => rfl
        | cons a b => simp at h
      subst this
      rw [ih]
      rfl
theorem parts_facts (l : List (Step Nm)) : (partsOf l).flatten = l ∧ ∀ q ∈ partsOf l, partOk q ∧ q ≠ [] := by
  obtain ⟨i1, i2⟩ := partsGo_ok l [] (by simp)
  refine ⟨by unfold partsOf; rw [flatten_filter, i1]; rfl, fun q hq => ?_⟩
  unfold partsOf at hq
  rw [List.mem_filter] at hq
  refine ⟨i2 q hq.1, fun e => ?_⟩
  subst e
  simp at hq
end
section
variable {K : PySem.W.Frag} {mg : Str → Option Value} {vs : List V} {H H' : Hp} {Q : VK} {E : XK} {σ : L2.St}
theorem p_played (TT : Tx K mg) (h : sp_played K vs H Q E) : r_played K (sp_parts_of K) (sp_Stage_kind K) (sp_left_of K) (sp_played_part K) (ends Q) (start ["flow", "values", "caller", "left", "part"] vs) H := by
  obtain ⟨v, a, t, m, ats, rows, l, xs, rfl, hf, hst, h8, ⟨evs, ha, hev⟩, h9, ht, wb, hxs, hfit, hm, ham, k⟩ := h
  refine ⟨_, rfl, a, evs, rfl, .inl (sq_of ha), fun A hA => ?_⟩
  generalize hH1 : upd H A (.lst evs) = H1
  have e1 : Ex H H1 := by rw [← hH1]; exact Ex.new hA
  have hA1 : H1 A = some (.lst evs) := by rw [← hH1]; exact upd_same
  refine ⟨_, rfl, v, l, rfl, hf.fx (Fx.of e1), h8, fun p H2 e2 hpt => ?_⟩
  obtain ⟨hp0, pvs, hp, hps⟩ := hpt
  have e12 := e1.trans e2
  have hm2 : H2 m = some (.lst (cV [])) := e12 m _ hm
  have hm1 := e1 m _ hm
  have hpm : p ≠ m := (ne_of_none hm1 hp0).symm
  obtain ⟨hfl, hok⟩ := parts_facts l
  have hsum : ∀ i, ((partsOf l).take i).flatten.length ≤ 8 := fun i => by
    have : ((partsOf l).take i).flatten ++ ((partsOf l).drop i).flatten = l := by rw [← List.flatten_append, List.take_append_drop, hfl]
    have := congrArg List.length this
    rw [List.length_append] at this
    omega
  refine ⟨p, rfl, ⟨pvs, sq_of hp⟩, ?_⟩
  refine for_list (xs := pvs) (fun i σ' H' => Kp [m] H2 H' ∧ ∃ (q : Addr) (ys cs : List (Tm Nm)) (o : Option V) (w : List Nm), σ' = [some v, some (.ref a), some (.ref t), some (.ref q), o] ∧ EnL H' q ys ∧ q ≠ m ∧ ys.length ≤ 9 ∧ H' m = some (.lst (cV cs)) ∧ cs.length ≤ 36 * ((partsOf l).take i).flatten.length ∧
    (∀ y ∈ ys, y.2 = w ∧ y.1 < rows.length) ∧ wordB w = true ∧ w.length ≤ 3 * ((partsOf l).take i).flatten.length ∧ Fit ats ((((partsOf l).drop i).flatten).map (·.s)) w ∧ playParts (truthOf ats rows) ((partsOf l).drop i) ys cs = progRun (truthOf ats rows) l xs) ?_ ?_ ?_ ?_
  · refine ⟨Kp.refl _ _, A, xs, [], none, [], rfl, ⟨evs, e2 A _ hA1, hev.imp fun _ _ z => z.fx (Fx.of e12)⟩, ?_, h9, hm2, by simp, hxs, rfl, by simp, ?_, rfl⟩
    · exact (ne_of_none hm hA).symm
    · rw [List.drop_zero, hfl]
      exact hfit
  · intro i σ' H' _ ⟨kk, _⟩
    exact sq_of (kk.keep p _ hp (by simpa using hpm))
  · rintro i pv σ' H' hi ⟨kk, q, ys, cs, o, w, rfl, ⟨qvs, hq, hqe⟩, hqm, hy9, hm', hcs, hys, hw, hwl, hft, hrun⟩
    obtain ⟨part, hpart, ap, rfl, hap0, svs, hap, hal⟩ := hps.at hi
    have hapm : ap ≠ m := (ne_of_none hm1 hap0).symm
    have f : Fx H2 H' := fxm hm2 kk
    have hap' : H' ap = some (.lst svs) := kk.keep ap _ hap (by simpa using hapm)
    have hal' : All2 (Stg K H') svs part := hal.imp fun _ _ z => z.fx f
    obtain ⟨pok, pne⟩ := hok part (List.mem_of_getElem? hpart)
    have hpl : i < (partsOf l).length := (List.getElem?_eq_some_iff.mp hpart).1
    have hdr : (partsOf l).drop i = part :: (partsOf l).drop (i + 1) := by
      rw [List.drop_eq_getElem_cons hpl]
      congr 1
      exact (List.getElem?_eq_some_iff.mp hpart).2
    have htk : ((partsOf l).take (i + 1)).flatten = ((partsOf l).take i).flatten ++ part := by rw [take_snoc hpart]; simp
    have hin : ∀ st ∈ part, stB st = true := fun st hs => hst st (by rw [← hfl]; exact List.mem_flatten.mpr ⟨part, List.mem_of_getElem? hpart, hs⟩)
    have hpsum := hsum (i + 1)
    rw [htk, List.length_append] at hpsum
    rw [hdr, List.flatten_cons, List.map_append, Fit_app] at hft
    obtain ⟨s0, rest, rfl⟩ : ∃ s0 rest, part = s0 :: rest := by
      cases part with
      | nil => exact absurd rfl pne
      | cons s0 rest => exact ⟨s0, rest, rfl⟩
    obtain ⟨sv0, svr, rfl⟩ : ∃ sv0 svr, svs = sv0 :: svr := by
      cases svs with
      | nil => exact hal'.elim
      | cons x y => exact ⟨x, y, rfl⟩
    have hs0 : Stg K H' sv0 s0 := hal'.1
    -- the step of the plain run
    have hrun2 : playParts (truthOf ats rows) ((partsOf l).drop (i + 1)) (partRun (truthOf ats rows) (s0 :: rest) ys).1 (cs ++ (partRun (truthOf ats rows) (s0 :: rest) ys).2) = progRun (truthOf ats rows) l xs := by
      rw [← hrun, hdr]
      rfl
    have hix : ∀ {H3 : Hp}, Ex H' H3 → Ev (tOp (rIxL K) (tVar 4) (tC (.int 0))) [some v, some (.ref a), some (.ref t), some (.ref q), some (.ref ap)] H3 sv0 := fun e => ev_op (ev_var rfl) (ev_c (v := .int ((0 : Nat) : Int))) (rv_ixL (sq_of (e ap _ hap')) (atI_nat rfl))
    have htest : EvT (tTest (tOp (rIn K false) (tProp (He.ga K "Stage") (sp_Stage_kind K) [] C8.E0 (tOp (rIxL K) (tVar 4) (tC (.int 0)))) (tC (.ref (He.ga K "LIST_KINDS"))))) [some v, some (.ref a), some (.ref t), some (.ref q), some (.ref ap)] H' s0.s.isList := by
      refine et_is (et_test (ev_op (ev_kind (hix (Ex.refl H')) hs0) ev_c (rv_isT (TT.t_LIST_KINDS H') rfl rfl))) ?_
      exact kinds_list s0.s
    refine htest H' (Ex.refl H') _ fun H3 e3 => ?_
    have hm3 : H3 m = some (.lst (cV cs)) := e3 m _ hm'
    cases hli : s0.s.isList with
    | true =>
      have hone : rest = [] := by
        rcases pok with ⟨st, e, _⟩ | z
        · cases e; rfl
        · have := z s0 (List.mem_cons_self ..); rw [hli] at this; cases this
      subst hone
      rw [show partRun (truthOf ats rows) [s0] ys = (leftOf s0.s ys, []) by simp [partRun, hli]] at hrun2
      refine iteT ?_
      refine hix e3 H3 (Ex.refl H3) _ fun H4 e4 => ?_
      have e34 := e3.trans e4
      refine ⟨_, rfl, sv0, q, s0, ys, rfl, hs0.fx (Fx.of e34), hli, ⟨qvs, e34 q _ hq, hqe.imp fun _ _ z => z.fx (Fx.of e34)⟩, by omega, fun q2 H5 e5 hq2 hen => ?_⟩
      have e35 := e34.trans e5
      obtain ⟨lf1, lf2⟩ := left_facts (s := s0.s) (xs := ys)
      refine ⟨kk.trans (Kp.of e35), q2, leftOf s0.s ys, cs, some (.ref ap), w, rfl, hen, (ne_of_none (e34 m _ hm') hq2).symm, by omega, e35 m _ hm', ?_, fun y hy => hys y (lf2 y hy), hw, ?_, ?_, ?_⟩
      · rw [htk, List.length_append]; omega
      · rw [htk, List.length_append]; omega
      · have : eachW s0.s w = w := by
          cases hs : s0.s with
          | each x => rw [hs] at hli; cases hli
          | _ => rfl
        have z := hft.2
        simp only [List.map_cons, List.map_nil, wordAfter, this] at z
        exact z
      · rw [List.append_nil] at hrun2
        exact hrun2
    | false =>
      have hnl : ∀ st ∈ s0 :: rest, st.s.isList = false := by
        rcases pok with ⟨st, e, z⟩ | z
        · cases e; rw [hli] at z; cases z
        · exact z
      have hbl : ∀ st ∈ s0 :: rest, stB st = true ∧ st.s.isList = false := fun st hs => ⟨hin st hs, hnl st hs⟩
      rw [show partRun (truthOf ats rows) (s0 :: rest) ys = playPart (truthOf ats rows) ((s0 :: rest).map (·.s)) ys by simp [partRun, hli]] at hrun2
      obtain ⟨pf1, pf2, pf3⟩ := play_facts (T := truthOf ats rows) (xs := ys) hbl
      have hmul : 4 * (s0 :: rest).length * ys.length ≤ 36 * (s0 :: rest).length := by
        have := Nat.mul_le_mul_left (4 * (s0 :: rest).length) hy9
        omega
      refine iteF ?_
      refine ⟨_, rfl, _, rfl, _, rfl, ap, q, t, m, ats, rows, s0 :: rest, ys, cs, rfl, ⟨_, e3 ap _ hap', hal'.imp fun _ _ z => z.fx (Fx.of e3)⟩, hbl, by omega, ⟨qvs, e3 q _ hq, hqe.imp fun _ _ z => z.fx (Fx.of e3)⟩, hy9, ht.fx ((Fx.of e12).trans (f.trans (Fx.of e3))), wb, fun y hy => ?_, hm3, by omega, hapm, hqm, fun q2 H5 k5 hq2 hm5 hen => ?_⟩
      · obtain ⟨z1, z2⟩ := hys y hy
        rw [z1]
        exact ⟨⟨by rw [z1]; exact hw, by rw [z1]; omega, z2⟩, hft.1⟩
      · refine ⟨(kk.trans (Kp.of e3)).trans k5, q2, _, _, some (.ref ap), wordAfter ((s0 :: rest).map (·.s)) w, rfl, hen, (ne_of_none hm3 hq2).symm, by omega, hm5, ?_, fun y hy => ?_, wordAfter_word hin hw, ?_, hft.2, hrun2⟩
        · rw [htk, List.length_append, List.length_append]
          omega
        · obtain ⟨x, hx, rfl⟩ := pf3 y hy
          obtain ⟨z1, z2⟩ := hys x hx
          exact ⟨by show wordAfter _ x.2 = _; rw [z1], z2⟩
        · have := wordAfter_len w hin
          rw [htk, List.length_append]
          omega
  · rintro σ' H' ⟨kk, q, ys, cs, o, w, rfl, hen, hqm, hy9, hm', hcs, hys, hw, hwl, hft, hrun⟩
    refine ⟨_, rfl, ?_⟩
    have hl : pvs.length = (partsOf l).length := hps.len
    rw [hl, List.drop_length] at hrun
    have e : (ys, cs) = progRun (truthOf ats rows) l xs := hrun
    refine k q H' ((Kp.of e12).trans kk) ?_ ?_
    · rw [← e]; exact hm'
    · rw [← e]; exact hen
end
end CF

/-! text CfPL -/
set_option Elab.async false
set_option linter.all false
set_option maxRecDepth 100000
set_option maxHeartbeats 4000000
/-! the readings answer the promises: parts, atoms, the text of a flow, a play -/
namespace CF
open PySem PySem.Spec PyProof.Rows L2 Evl
section
variable {K : PySem.W.Frag} {mg : Str → Option Value} {vs : List V} {H H' : Hp} {Q : VK} {E : XK} {σ : L2.St}
theorem ev_now {te : TE} {v : V} {st : Step Nm} (h : Ev te σ H v) (hs : Stg K H v st) : Ev (tProp (He.ga K "Stage") (sp_Stage_now K) [] C8.E0 te) σ H (.bl st.now) := by
  have hs' := hs
  obtain ⟨a, dx, t, d, rfl, ha, ht, hd⟩ := hs
  exact ev_prop h ha fun H1 e Q q E => ⟨_, st, rfl, hs'.fx (Fx.of e), q⟩
/-- the lists that stand: a list of new lists of stages, the part under way -/
def PGo (K : PySem.W.Frag) (H H' : Hp) (F P : Addr) (fs : List (List (Step Nm))) (p : List (Step Nm)) : Prop :=
  ∃ fvs pvs, H' F = some (.lst fvs) ∧ All2 (fun v l => ∃ a, v = V.ref a ∧ H a = none ∧ a ≠ F ∧ StL K H' a l) fvs fs ∧ H P = none ∧ P ≠ F ∧ H' P = some (.lst pvs) ∧ All2 (Stg K H') pvs p
theorem StL.ex {a : Addr} {l : List (Step Nm)} (h : StL K H a l) (e : Ex H H') : StL K H' a l := by
  obtain ⟨vs, h1, h2⟩ := h
  exact ⟨vs, e a _ h1, h2.imp fun _ _ z => z.fx (Fx.of e)⟩
theorem StL.of {a : Addr} {xs : List V} {l : List (Step Nm)} (h1 : H a = some (.lst xs)) (h2 : All2 (Stg K H) xs l) : StL K H a l := ⟨xs, h1, h2⟩
theorem StL.kp {a F : Addr} {xs : List V} {l : List (Step Nm)} (h : StL K H a l) (hF : H F = some (.lst xs)) (k : Kp [F] H H') (n : a ≠ F) : StL K H' a l := by
  obtain ⟨vs, h1, h2⟩ := h
  exact ⟨vs, k.keep a _ h1 (by simpa using n), h2.imp fun _ _ z => z.fx (fxm hF k)⟩
theorem p_parts_of (TT : Tx K mg) (h : sp_parts_of K vs H Q E) : r_parts_of K (sp_Flow_stages K) (sp_Stage_kind K) (sp_Stage_now K) (ends Q) (start ["flow", "found", "part", "stage", "one"] vs) H := by
  obtain ⟨v, l, rfl, hf, h8, k⟩ := h
  refine ⟨Nat.zero_le _, fun F hF => ⟨Nat.zero_le _, fun P hP => ⟨_, _, rfl, ?_⟩⟩⟩
  have eF : Ex H (upd H F (.lst [])) := Ex.new hF
  generalize hH1 : upd (upd H F (.lst [])) P (.lst []) = H1
  have e1 : Ex H H1 := by rw [← hH1]; exact eF.trans (Ex.new hP)
  have hPF : P ≠ F := fun z => by rw [z, upd_same] at hP; cases hP
  have hF1 : H1 F = some (.lst []) := by rw [← hH1, upd_ne hPF.symm]; exact upd_same
  have hP1 : H1 P = some (.lst []) := by rw [← hH1]; exact upd_same
  have hf1 := hf.fx (Fx.of e1)
  obtain ⟨fa, fdx, ft, svs, rfl, hfa, hft, hal⟩ := hf1
  refine ⟨_, rfl, fa, fdx, _, rfl, hfa, _, l, rfl, ⟨fa, fdx, ft, svs, rfl, hfa, hft, hal⟩, fun t svs' H2 e2 ht' hal' => ?_⟩
  have e12 := e1.trans e2
  refine ⟨t, rfl, ⟨svs', st_of (e2 t _ ht')⟩, ?_⟩
  have hF2 : H2 F = some (.lst []) := e2 F _ hF1
  have z1 : 1 ≤ sizeLine := by decide
  have z2 : 2 ≤ sizeLine := by decide
  refine for_tup (xs := svs') (fun i σ' H' => Kp [F] H2 H' ∧ ∃ (P : Addr) (fs : List (List (Step Nm))) (p : List (Step Nm)) (o : Option V), σ' = [some (.ref fa), some (.ref F), some (.ref P), o, none] ∧ PGo K H H' F P fs p ∧ fs.length ≤ 2 * i ∧ p.length ≤ i ∧ partsGo l [] = fs ++ partsGo (l.drop i) p) ?_ (fun i σ' H' _ q => st_of (q.1.keep t _ (e2 t _ ht') (by simp; exact fun z => by rw [z, hF1] at ht'; cases ht'))) ?_ ?_
  · exact ⟨Kp.refl _ _, P, [], [], none, rfl, ⟨[], [], hF2, trivial, fresh_back eF hP, hPF, e2 P _ hP1, trivial⟩, by simp, by simp, rfl⟩
  · rintro i sv σ' H' hi ⟨kk, P, fs, p, o, rfl, ⟨fvs, pvs, hF', hfs, hP0, hPF, hP', hps⟩, hfl, hpl, hgo⟩
    obtain ⟨st, hst, hs0⟩ := hal'.at hi
    have hil : i < l.length := (List.getElem?_eq_some_iff.mp hst).1
    have hsv : Stg K H' sv st := hs0.fx ((Fx.of e2).trans (fxm hF2 kk))
    have eH : Ex H H' := fun a o e => kk.keep a o (e12 a o e) (by simp; exact fun z => by rw [z, hF] at e; cases e)
    have hfl2 := hfs.len
    have hpl2 := hps.len
    have hdr : l.drop i = st :: l.drop (i + 1) := by
      rw [List.drop_eq_getElem_cons hil]
      congr 1
      exact (List.getElem?_eq_some_iff.mp hst).2
    have hk : EvT (tTest (tOp (rIn K false) (tProp (He.ga K "Stage") (sp_Stage_kind K) [] C8.E0 (tVar 3)) (tC (.ref (He.ga K "LIST_KINDS"))))) [some (.ref fa), some (.ref F), some (.ref P), some sv, none] H' st.s.isList :=
      et_is (et_test (ev_op (ev_kind (ev_var rfl) hsv) ev_c (rv_isT (TT.t_LIST_KINDS H') rfl rfl))) (kinds_list st.s)
    refine hk H' (Ex.refl H') _ fun H3 e3 => ?_
    have kk3 : Kp [F] H2 H3 := kk.trans (Kp.of e3)
    have hF3 := e3 F _ hF'
    have hP3 := e3 P _ hP'
    have hfs3 := hfs.imp fun _ _ (z : ∃ a, _) => (⟨z.choose, z.choose_spec.1, z.choose_spec.2.1, z.choose_spec.2.2.1, z.choose_spec.2.2.2.ex e3⟩ : ∃ a, _ = V.ref a ∧ H a = none ∧ a ≠ F ∧ StL K H3 a _)
    have hps3 := hps.imp fun _ _ z => z.fx (Fx.of e3)
    have hsv3 := hsv.fx (Fx.of e3)
    have eH3 := eH.trans e3
    cases hli : st.s.isList with
    | true =>
      refine iteT ⟨_, rfl, _, rfl, _, rfl, z1, fun q hq => ⟨z2, fun r hr => ⟨F, r, fvs, [.ref P, .ref q], rfl, rfl, ?_, upd_same, ?_, ?_⟩⟩⟩
      · have hqF : F ≠ q := ne_of_none hF3 hq
        have hF4 : upd H3 q (.lst [sv]) F = some (.lst fvs) := by rw [upd_ne hqF]; exact hF3
        rw [upd_ne (ne_of_none hF4 hr)]
        exact hF4
      · simp only [List.length_cons, List.length_nil]
        exact sz_of (by omega)
      · have hqF : F ≠ q := ne_of_none hF3 hq
        have hF4 : upd H3 q (.lst [sv]) F = some (.lst fvs) := by rw [upd_ne hqF]; exact hF3
        have e4 : Ex H3 (upd H3 q (.lst [sv])) := Ex.new hq
        have e5 : Ex (upd H3 q (.lst [sv])) (upd (upd H3 q (.lst [sv])) r (.lst [.ref P, .ref q])) := Ex.new hr
        generalize hH5 : upd (upd H3 q (.lst [sv])) r (.lst [.ref P, .ref q]) = H5 at e5
        have e35 := e4.trans e5
        have hF5 : H5 F = some (.lst fvs) := e5 F _ hF4
        have hq5 : H5 q = some (.lst [sv]) := e5 q _ upd_same
        refine ⟨Nat.zero_le _, fun P2 hP2 => ?_⟩
        have k6 : Kp [F] H5 (upd H5 F (.lst (fvs ++ [.ref P, .ref q]))) := (Kp.refl _ _).put (by simp)
        have hP2F : P2 ≠ F := fun z => by rw [z, upd_same] at hP2; cases hP2
        have e7 : Ex (upd H5 F (.lst (fvs ++ [.ref P, .ref q]))) (upd (upd H5 F (.lst (fvs ++ [.ref P, .ref q]))) P2 (.lst [])) := Ex.new hP2
        have f57 : Fx H5 (upd (upd H5 F (.lst (fvs ++ [.ref P, .ref q]))) P2 (.lst [])) := (fxm hF5 k6).trans (Fx.of e7)
        refine ⟨((kk3.trans (Kp.of e35)).trans k6).trans (Kp.of e7), P2, fs ++ [p, [st]], [], some sv, rfl, ⟨fvs ++ [.ref P, .ref q], [], e7 F _ upd_same, ?_, ?_, hP2F, upd_same, trivial⟩, ?_, by simp, ?_⟩
        · refine All2.app (hfs3.imp fun w pl z => ?_) ⟨⟨P, rfl, hP0, hPF, (((StL.of hP3 hps3).ex e35).kp hF5 k6 hPF).ex e7⟩, ⟨q, rfl, fresh_back eH3 hq, hqF.symm, ((StL.of (l := [st]) hq5 ⟨hsv3.fx (Fx.of e35), trivial⟩).kp hF5 k6 hqF.symm).ex e7⟩, trivial⟩
          obtain ⟨a, z1, z2, z3, z4⟩ := z
          exact ⟨a, z1, z2, z3, ((z4.ex e35).kp hF5 k6 z3).ex e7⟩
        · have : H5 P2 = none := k6.none_of hP2
          exact fresh_back (eH3.trans e35) this
        · rw [List.length_append]; simp only [List.length_cons, List.length_nil]; omega
        · rw [hgo, hdr]
          simp [partsGo, hli]
    | false =>
      refine iteF ?_
      refine ⟨_, rfl, _, rfl, z1, fun q hq => ⟨P, q, pvs, [sv], rfl, rfl, ?_, upd_same, ?_, fun P2 hP2 => ?_⟩⟩
      · rw [upd_ne (ne_of_none hP3 hq)]
        exact hP3
      · simp only [List.length_cons, List.length_nil]
        exact sz_of (by omega)
      · have e4 : Ex H3 (upd H3 q (.lst [sv])) := Ex.new hq
        generalize hH4 : upd H3 q (.lst [sv]) = H4 at hP2 e4
        have e5 : Ex H4 (upd H4 P2 (.lst (pvs ++ [sv]))) := Ex.new hP2
        have e35 := e4.trans e5
        generalize hH5 : upd H4 P2 (.lst (pvs ++ [sv])) = H5 at e5 e35
        have hP5 : H5 P2 = some (.lst (pvs ++ [sv])) := by rw [← hH5]; exact upd_same
        have hF5 : H5 F = some (.lst fvs) := e35 F _ hF3
        have hP2F : P2 ≠ F := fun z => by rw [z, e4 F _ hF3] at hP2; cases hP2
        have hP20 : H P2 = none := fresh_back (eH3.trans e4) hP2
        have hps5 : All2 (Stg K H5) (pvs ++ [sv]) (p ++ [st]) := (hps3.imp fun _ _ z => z.fx (Fx.of e35)).snoc (hsv3.fx (Fx.of e35))
        have hfs5 := hfs3.imp fun _ _ (z : ∃ a, _) => (⟨z.choose, z.choose_spec.1, z.choose_spec.2.1, z.choose_spec.2.2.1, z.choose_spec.2.2.2.ex e35⟩ : ∃ a, _ = V.ref a ∧ H a = none ∧ a ≠ F ∧ StL K H5 a _)
        have kk5 : Kp [F] H2 H5 := kk3.trans (Kp.of e35)
        have hnow : Ev (tProp (He.ga K "Stage") (sp_Stage_now K) [] C8.E0 (tVar 3)) [some (.ref fa), some (.ref F), some (.ref P2), some sv, none] H5 (.bl st.now) := ev_now (ev_var rfl) (hsv3.fx (Fx.of e35))
        refine hnow H5 (Ex.refl H5) _ fun H6 e6 => ⟨st.now, rfl, ?_⟩
        have hF6 := e6 F _ hF5
        have kk6 : Kp [F] H2 H6 := kk5.trans (Kp.of e6)
        have hP6 := e6 P2 _ hP5
        have hps6 := hps5.imp fun _ _ z => z.fx (Fx.of e6)
        have hfs6 := hfs5.imp fun _ _ (z : ∃ a, _) => (⟨z.choose, z.choose_spec.1, z.choose_spec.2.1, z.choose_spec.2.2.1, z.choose_spec.2.2.2.ex e6⟩ : ∃ a, _ = V.ref a ∧ H a = none ∧ a ≠ F ∧ StL K H6 a _)
        cases hnw : st.now with
        | true =>
          refine iteT ⟨_, rfl, .inl ⟨rfl, _, sq_of hF6⟩, _, rfl, F, fvs, .ref P2, rfl, rfl, hF6, sz_lt (by omega), ?_⟩
          refine ⟨Nat.zero_le _, fun P3 hP3' => ?_⟩
          have k7 : Kp [F] H6 (upd H6 F (.lst (fvs ++ [.ref P2]))) := (Kp.refl _ _).put (by simp)
          have hP3F : P3 ≠ F := fun z => by rw [z, upd_same] at hP3'; cases hP3'
          have e8 : Ex (upd H6 F (.lst (fvs ++ [.ref P2]))) (upd (upd H6 F (.lst (fvs ++ [.ref P2]))) P3 (.lst [])) := Ex.new hP3'
          refine ⟨(kk6.trans k7).trans (Kp.of e8), P3, fs ++ [p ++ [st]], [], some sv, rfl, ⟨fvs ++ [.ref P2], [], e8 F _ upd_same, ?_, ?_, hP3F, upd_same, trivial⟩, ?_, by simp, ?_⟩
          · refine All2.app (hfs6.imp fun w pl z => ?_) ⟨⟨P2, rfl, hP20, hP2F, ((StL.of hP6 hps6).kp hF6 k7 hP2F).ex e8⟩, trivial⟩
            obtain ⟨a, z1, z2, z3, z4⟩ := z
            exact ⟨a, z1, z2, z3, (z4.kp hF6 k7 z3).ex e8⟩
          · exact fresh_back (eH3.trans (e35.trans e6)) (k7.none_of hP3')
          · rw [List.length_append]; simp only [List.length_cons, List.length_nil]; omega
          · rw [hgo, hdr]
            simp [partsGo, hli, hnw]
        | false =>
          refine iteF ⟨kk6, P2, fs, p ++ [st], some sv, rfl, ⟨fvs, pvs ++ [sv], hF6, hfs6, hP20, hP2F, hP6, hps6⟩, by omega, ?_, ?_⟩
          · rw [List.length_append]; simp only [List.length_cons, List.length_nil]; omega
          · rw [hgo, hdr]
            simp [partsGo, hli, hnw]
  · rintro σ' H' ⟨kk, P, fs, p, o, rfl, ⟨fvs, pvs, hF', hfs, hP0, hPF, hP', hps⟩, hfl, hpl, hgo⟩
    have eH : Ex H H' := fun a o e => kk.keep a o (e12 a o e) (by simp; exact fun z => by rw [z, hF] at e; cases e)
    have hn : svs'.length = l.length := hal'.len
    rw [hn, List.drop_length] at hgo
    have hfl2 := hfs.len
    refine ⟨_, rfl, .inl ⟨rfl, _, sq_of hF'⟩, _, rfl, F, fvs, .ref P, rfl, rfl, hF', sz_lt (by omega), ?_⟩
    have k7 : Kp [F] H' (upd H' F (.lst (fvs ++ [.ref P]))) := (Kp.refl _ _).put (by simp)
    generalize hH7 : upd H' F (.lst (fvs ++ [.ref P])) = H7 at k7
    have hF7 : H7 F = some (.lst (fvs ++ [.ref P])) := by rw [← hH7]; exact upd_same
    have e7 : Ex H H7 := fun a o e => k7.keep a o (eH a o e) (by simp; exact fun z => by rw [z, hF] at e; cases e)
    have hall : All2 (fun v l => ∃ a, v = V.ref a ∧ H a = none ∧ StL K H7 a l) (fvs ++ [.ref P]) (partsGo l []) := by
      rw [hgo]
      refine All2.app (hfs.imp fun w pl z => ?_) ⟨⟨P, rfl, hP0, (StL.of hP' hps).kp hF' k7 hPF⟩, trivial⟩
      obtain ⟨a, z1, z2, z3, z4⟩ := z
      exact ⟨a, z1, z2, z4.kp hF' k7 z3⟩
    refine ⟨_, rfl, F, rfl, ⟨_, sq_of hF7⟩, fun D hD => ?_⟩
    refine lc_list (xs := fvs ++ [.ref P]) (fun i H' => Ex H7 H' ∧ ∃ acc, H' D = some (.lst acc) ∧ acc.length ≤ i ∧ All2 (fun v l => ∃ a, v = V.ref a ∧ H a = none ∧ StL K H7 a l) acc (((partsGo l []).take i).filter fun p => decide (0 < p.length))) ⟨Ex.new hD, [], upd_same, Nat.le_refl _, trivial⟩ (fun i H' _ q => sq_of (q.1 F _ hF7)) ?_ ?_
    · rintro i x H8 hi ⟨e8, acc, hD8, hacc, hal8⟩
      refine ⟨rfl, ?_⟩
      obtain ⟨part, hpart, a, rfl, ha0, pv, ha7, hpv⟩ := hall.at hi
      have hlen := hpv.len
      have hi9 : i < (fvs ++ [V.ref P]).length := (List.getElem?_eq_some_iff.mp hi).1
      rw [List.length_append] at hi9
      simp only [List.length_cons, List.length_nil] at hi9
      refine ⟨_, rfl, _, part.length, rfl, .inl ⟨pv, sq_of (e8 a _ ha7), hlen.symm⟩, _, _, rfl, rfl, decide ((0 : Int) < ((part.length : Nat) : Int)), rfl, ?_⟩
      have hdec : decide ((0 : Int) < ((part.length : Nat) : Int)) = decide (0 < part.length) := decide_eq_decide.mpr (by omega)
      rw [hdec]
      by_cases hpos : 0 < part.length
      · rw [decide_eq_true hpos]
        refine iteT ⟨_, rfl, acc, hD8, sz_lt (by omega), Ex.mut e8 hD, acc ++ [.ref a], upd_same, by rw [List.length_append]; simp; omega, ?_⟩
        have hone : [part].filter (fun p : List (Step Nm) => decide (0 < p.length)) = [part] := List.filter_cons_of_pos (p := fun p : List (Step Nm) => decide (0 < p.length)) (decide_eq_true hpos)
        rw [take_snoc hpart, List.filter_append, hone]
        exact hal8.snoc ⟨a, rfl, ha0, pv, ha7, hpv⟩
      · rw [decide_eq_false hpos]
        refine iteF ⟨e8, acc, hD8, by omega, ?_⟩
        have hone : [part].filter (fun p : List (Step Nm) => decide (0 < p.length)) = [] := List.filter_cons_of_neg (p := fun p : List (Step Nm) => decide (0 < p.length)) (by rw [decide_eq_false hpos]; exact Bool.false_ne_true)
        rw [take_snoc hpart, List.filter_append, hone, List.append_nil]
        exact hal8
    · rintro H8 ⟨e8, acc, hD8, hacc, hal8⟩
      have hn2 : (fvs ++ [V.ref P]).length = (partsGo l []).length := hall.len
      rw [hn2, List.take_length] at hal8
      exact k D H8 (e7.trans e8) ⟨fresh_back e7 hD, acc, hD8, hal8.imp fun w pl ⟨a, z1, z2, z3⟩ => ⟨a, z1, z2, z3.ex e8⟩⟩
end
end CF

/-! text CfPM -/
set_option Elab.async false
set_option linter.all false
set_option maxRecDepth 100000
set_option maxHeartbeats 4000000
/-! the readings answer the promises: atoms, the text of a flow -/
namespace CF
open PySem PySem.Spec PyProof.Rows L2 Evl
section
variable {K : PySem.W.Frag} {mg : Str → Option Value} {vs : List V} {H H' : Hp} {Q : VK} {E : XK} {σ : L2.St}
theorem tV_app (a b : List Nm) : tV (a ++ b) = tV a ++ tV b := List.map_append
theorem cat_words {v1 v2 : V} {w1 w2 : List Nm} (h1 : Wd H v1 w1) (h2 : Wd H v2 w2) (hl : w1.length + w2.length ≤ 100000) (q : ∀ v H', Ex H H' → Wd H' v (w1 ++ w2) → Q v H') : rCatA K v1 v2 H Q := by
  obtain ⟨a, rfl, ha⟩ := h1
  obtain ⟨b, rfl, hb⟩ := h2
  refine ⟨a, b, tV w1, tV w2, rfl, rfl, st_of ha, st_of hb, ?_, fun e => ?_, fun e1 e2 => ?_, fun e1 e2 p hp => ?_⟩
  · unfold tV
    rw [List.length_map, List.length_map]
    exact sz_of hl
  · have : w1 = [] := List.map_eq_nil_iff.mp e
    subst this
    exact q _ H (Ex.refl H) ⟨b, rfl, hb⟩
  · have : w2 = [] := List.map_eq_nil_iff.mp e2
    subst this
    exact q _ H (Ex.refl H) ⟨a, rfl, by rw [List.append_nil]; exact ha⟩
  · exact q _ _ (Ex.new hp) ⟨p, rfl, by rw [upd_same, tV_app]⟩
theorem kinds_test (s : Sg Nm) : inV (.str s.kd) [.str "keep", .str "drop", .str "while", .str "from"] = (tst s).isSome := by
  have go : ∀ x ∈ (["keep", "drop", "while", "from"] : List Str), inV (.str x) [.str "keep", .str "drop", .str "while", .str "from"] = true := by decide +kernel
  have go2 : ∀ x ∈ (["each", "first", "skip", "every", "last", "but last", "turned"] : List Str), inV (.str x) [.str "keep", .str "drop", .str "while", .str "from"] = false := by decide +kernel
  cases s <;> first | exact go _ (by simp [Sg.kd]) | exact go2 _ (by simp [Sg.kd])
theorem det_test {s : Sg Nm} {t : List Nm} {d : V} (h : tst s = some t) (hd : Det H d s) : Wd H d t := by
  cases s <;> simp only [tst, reduceCtorEq, Option.some.injEq] at h <;> subst h <;> exact hd
theorem st_sg {st : Step Nm} (h : stB st = true) : sgB st.s = true := by
  unfold stB at h
  rw [Bool.and_eq_true] at h
  exact h.1
theorem kept_at (TT : Tx K mg) {te : TE} {v : V} {l : List (Step Nm)} (h : Ev te σ H v) (hf : Flw K H v l) : ∃ t svs, Ev (tFld K te "kept") σ H (.ref t) ∧ H t = some (.tup svs) ∧ All2 (Stg K H) svs l := by
  obtain ⟨a, dx, t, svs, rfl, ha, ht, hl⟩ := hf
  exact ⟨t, svs, ev_fld TT.cls_Flow TT.no_Flow_kept h ha lk1, ht, hl⟩
/-- word = detail + word, where the stage is an each -/
theorem p_Flow_atoms (TT : Tx K mg) (h : sp_Flow_atoms K vs H Q E) : r_Flow_atoms K (sp_Stage_kind K) (sp_Stage_detail K) (ends Q) (start ["self", "found", "word", "stage"] vs) H := by
  obtain ⟨v, l, rfl, hf, hst, h8, k⟩ := h
  have z0 : 0 ≤ sizeLine := Nat.zero_le _
  refine ⟨z0, fun p hp => ⟨z0, fun q hq => ⟨by show 2 ≤ sizeLine; decide, fun r hr => ?_⟩⟩⟩
  have e1 : Ex H (upd H p (.tup [])) := Ex.new hp
  have e2 : Ex (upd H p (.tup [])) (upd (upd H p (.tup [])) q (.tup [])) := Ex.new hq
  have e3 : Ex (upd (upd H p (.tup [])) q (.tup [])) (upd (upd (upd H p (.tup [])) q (.tup [])) r (.tup [.ref p, .ref q])) := Ex.new hr
  refine ⟨r, _, rfl, st_of upd_same, rfl, _, _, rfl, _, _, rfl, rfl, ?_⟩
  generalize hH1 : upd (upd (upd H p (.tup [])) q (.tup [])) r (.tup [.ref p, .ref q]) = H1 at e3
  have e13 := e1.trans (e2.trans e3)
  have hp1 : H1 p = some (.tup []) := e3 p _ (e2 p _ upd_same)
  have hq1 : H1 q = some (.tup []) := e3 q _ upd_same
  obtain ⟨t, svs, hev, ht, hal⟩ := kept_at (σ := [some v, some (.ref p), some (.ref q), none]) TT (ev_var (i := 0) rfl) (hf.fx (Fx.of e13))
  show tSeq (tFor (iTup K (tFld K (tVar 0) "kept")) (gName 3) _) _ _ [some v, some (.ref p), some (.ref q), none] H1
  show tFor (iTup K (tFld K (tVar 0) "kept")) (gName 3) _ _ [some v, some (.ref p), some (.ref q), none] H1
  show iTup K (tFld K (tVar 0) "kept") [some v, some (.ref p), some (.ref q), none] H1 _
  show tFld K (tVar 0) "kept" [some v, some (.ref p), some (.ref q), none] H1 _
  refine hev H1 (Ex.refl H1) _ fun H2 e4 => ⟨t, rfl, ⟨svs, st_of (e4 t _ ht)⟩, ?_⟩
  have hlen := hal.len
  refine for_tup (xs := svs) (fun i σ' H' => Ex H2 H' ∧ ∃ (f w : V) (o : Option V) (fs : List (List Nm)) (wd : List Nm), σ' = [some v, some f, some w, o] ∧ Ats H' f fs ∧ Wd H' w wd ∧ fs.length ≤ i ∧ (∀ u ∈ fs, wordB u = true) ∧ wordB wd = true ∧ wd.length ≤ 3 * i ∧ atomsOf l = atomsGo (l.drop i) fs wd) ?_ (fun i σ' H' _ z => st_of (z.1 t _ (e4 t _ ht))) ?_ ?_
  · exact ⟨Ex.refl _, .ref p, .ref q, none, [], [], rfl, ⟨p, [], rfl, .inl (e4 p _ hp1), trivial⟩, ⟨q, rfl, e4 q _ hq1⟩, by simp, by simp, rfl, by simp, rfl⟩
  · rintro i sv σ' H' hi ⟨e, f, w, o, fs, wd, rfl, hats, hwd, hfl, hfw, hww, hwl, hgo⟩
    obtain ⟨st, hs, hs0⟩ := hal.at hi
    have hil : i < l.length := (List.getElem?_eq_some_iff.mp hs).1
    have hsv : Stg K H' sv st := hs0.fx (Fx.of (e4.trans e))
    have hsg := st_sg (hst st (List.mem_of_getElem? hs))
    have hdr : l.drop i = st :: l.drop (i + 1) := by
      rw [List.drop_eq_getElem_cons hil]
      congr 1
      exact (List.getElem?_eq_some_iff.mp hs).2
    rw [hdr] at hgo
    have hel := eachW_len (w := wd) hsg
    have hew := eachW_word hsg hww
    -- the rest of the turn, from a word that has the each in it
    have rest : ∀ {H3 : Hp} {w2 : V}, Ex H' H3 → Wd H3 w2 (eachW st.s wd) → ∀ {D : Ends}, (∀ H4 f4 fs4, Ex H3 H4 → Ats H4 f4 fs4 → fs4.length ≤ i + 1 → (∀ u ∈ fs4, wordB u = true) → atomsOf l = atomsGo (l.drop (i + 1)) fs4 (eachW st.s wd) → D.nx [some v, some f4, some w2, some sv] H4) →
        tIfS (tAnd (tTest (tOp (rIn K false) (tProp (He.ga K "Stage") (sp_Stage_kind K) [] C8.E0 (tVar 3)) (tC (.ref (He.ga K "TESTED"))))) (tTest (tOp (rInDT K true) (tOp (rCatA K) (tProp (He.ga K "Stage") (sp_Stage_detail K) [] C8.E0 (tVar 3)) (tVar 2)) (tVar 1)))) (tAsg (tTup (StX.tStar K (tVar 1) (tCons (tOp (rCatA K) (tProp (He.ga K "Stage") (sp_Stage_detail K) [] C8.E0 (tVar 3)) (tVar 2)) tNil))) (gName 1)) (tNext) D [some v, some f, some w2, some sv] H3 := by
      intro H3 w2 e5 hw2 D kD
      have hat3 := hats.fx (Fx.of e5)
      have hk : EvT (tTest (tOp (rIn K false) (tProp (He.ga K "Stage") (sp_Stage_kind K) [] C8.E0 (tVar 3)) (tC (.ref (He.ga K "TESTED"))))) [some v, some f, some w2, some sv] H3 (tst st.s).isSome :=
        et_is (et_test (ev_op (ev_kind (ev_var rfl) (hsv.fx (Fx.of e5))) ev_c (rv_isT (TT.t_TESTED H3) rfl rfl))) (kinds_test st.s)
      refine hk H3 (Ex.refl H3) _ fun H4 e6 => ?_
      cases htst : tst st.s with
      | none =>
        refine ibF rfl (ibF rfl (kD H4 f fs e6 (hat3.fx (Fx.of e6)) (by omega) hfw ?_))
        rw [hgo]
        simp only [atomsGo, htst]
      | some u =>
        obtain ⟨hu1, hu2⟩ := sg_test hsg htst
        have huw : wordB (u ++ eachW st.s wd) = true := wordB_app hu1 hew
        refine ibT rfl ?_
        refine ev_detail (v := sv) (ev_var rfl) (hsv.fx (Fx.of (e5.trans e6))) H4 (Ex.refl H4) _ fun d H5 e7 hd => ⟨w2, rfl, ?_⟩
        refine cat_words (det_test htst hd) (hw2.fx (Fx.of (e6.trans e7))) (by omega) fun x H6 e8 hx => ?_
        have e36 := e6.trans (e7.trans e8)
        have hat6 := hat3.fx (Fx.of e36)
        obtain ⟨fa, fvs, rfl, hfa, hfal⟩ := id hat6
        refine ⟨_, rfl, rv_notInW (l := fs) hx (dp_tup (.inl hfa) hfal) huw hfw _ ⟨_, rfl, ?_⟩⟩
        by_cases hin : u ++ eachW st.s wd ∈ fs
        · refine ibF (by rw [decide_eq_true hin]; rfl) (kD H6 _ fs e36 hat6 (by omega) hfw ?_)
          rw [hgo]
          simp only [atomsGo, htst, if_pos hin]
        · refine ibT (by rw [decide_eq_false hin]; rfl) ?_
          refine ⟨_, rfl, fa, fvs, rfl, .inl (.inl hfa), ?_⟩
          refine ev_detail (v := sv) (ev_var rfl) (hsv.fx (Fx.of (e5.trans e36))) H6 (Ex.refl H6) _ fun d2 H7 e9 hd2 => ⟨w2, rfl, ?_⟩
          refine cat_words (det_test htst hd2) (hw2.fx (Fx.of (e36.trans e9))) (by omega) fun x2 H8 e10 hx2 => ?_
          have hfn := hfal.len
          refine ⟨?_, fun r hr => ?_⟩
          · rw [List.length_append]
            simp only [List.length_cons, List.length_nil]
            exact sz_of (by omega)
          · have e11 : Ex H8 (upd H8 r (.tup (fvs ++ [x2]))) := Ex.new hr
            refine kD _ (.ref r) (fs ++ [u ++ eachW st.s wd]) ((e36.trans (e9.trans e10)).trans e11) ⟨r, fvs ++ [x2], rfl, .inl upd_same, (hfal.imp fun _ _ z => z.fx (Fx.of ((e9.trans e10).trans e11))).snoc (hx2.fx (Fx.of e11))⟩ ?_ ?_ ?_
            · rw [List.length_append]; simp; omega
            · intro y hy
              rcases List.mem_append.mp hy with h | h
              · exact hfw y h
              · rw [List.mem_singleton] at h; subst h; exact huw
            · rw [hgo]
              simp only [atomsGo, htst, if_neg hin]
    have hk : EvT (tTest (tOp rEq (tProp (He.ga K "Stage") (sp_Stage_kind K) [] C8.E0 (tVar 3)) (tC (.str "each")))) [some v, some f, some w, some sv] H' (decide (V.str st.s.kd = V.str "each")) := et_test (ev_op (ev_kind (ev_var rfl) hsv) ev_c (rv_eq rfl))
    refine hk H' (Ex.refl H') _ fun H3 e5 => ?_
    have fin : ∀ {H3 : Hp} {w2 : V}, Ex H' H3 → Wd H3 w2 (eachW st.s wd) → ∀ H4 f4 fs4, Ex H3 H4 → Ats H4 f4 fs4 → fs4.length ≤ i + 1 → (∀ u ∈ fs4, wordB u = true) → atomsOf l = atomsGo (l.drop (i + 1)) fs4 (eachW st.s wd) → Ex H2 H4 ∧ ∃ (f w : V) (o : Option V) (fs : List (List Nm)) (wd : List Nm), [some v, some f4, some w2, some sv] = [some v, some f, some w, o] ∧ Ats H4 f fs ∧ Wd H4 w wd ∧ fs.length ≤ i + 1 ∧ (∀ u ∈ fs, wordB u = true) ∧ wordB wd = true ∧ wd.length ≤ 3 * (i + 1) ∧ atomsOf l = atomsGo (l.drop (i + 1)) fs wd :=
      fun e5 hw2 H4 f4 fs4 e6 a1 a2 a3 a4 => ⟨(e.trans e5).trans e6, f4, _, some sv, fs4, eachW st.s wd, rfl, a1, hw2.fx (Fx.of e6), a2, a3, hew, by omega, a4⟩
    by_cases hea : st.s.kd = "each"
    · refine ifT (by rw [hea]) ?_
      obtain ⟨ew, hes⟩ : ∃ ew, st.s = .each ew := by
        have ne : ∀ x ∈ (["keep", "drop", "while", "from", "first", "skip", "every", "last", "but last", "turned"] : List Str), x ≠ "each" := by decide +kernel
        cases hc : st.s with
        | each ew => exact ⟨ew, rfl⟩
        | _ => rw [hc] at hea; exact absurd hea (ne _ (by simp [Sg.kd]))
      refine ev_detail (v := sv) (ev_var rfl) (hsv.fx (Fx.of e5)) H3 (Ex.refl H3) _ fun d H4 e6 hd => ⟨w, rfl, ?_⟩
      have hd' : Wd H4 d ew := by rw [hes] at hd; exact hd
      have hel2 : ew.length ≤ 3 := by
        rw [hes] at hsg
        simp only [sgB, Bool.and_eq_true, decide_eq_true_eq] at hsg
        exact hsg.2
      refine cat_words hd' (hwd.fx (Fx.of (e5.trans e6))) (by omega) fun w2 H5 e7 hw2 => ?_
      have e35 := e5.trans (e6.trans e7)
      have hw2' : Wd H5 w2 (eachW st.s wd) := by rw [hes]; exact hw2
      exact rest e35 hw2' (fin e35 hw2')
    · refine ifF (fun z => hea (V.str.inj z)) ?_
      have hsame : eachW st.s wd = wd := by
        cases hc : st.s with
        | each ew => rw [hc] at hea; exact absurd rfl hea
        | _ => rfl
      have hw2' : Wd H3 w (eachW st.s wd) := by rw [hsame]; exact hwd.fx (Fx.of e5)
      exact rest e5 hw2' (fin e5 hw2')
  · rintro σ' H' ⟨e, f, w, o, fs, wd, rfl, hats, hwd, hfl, hfw, hww, hwl, hgo⟩
    rw [hlen, List.drop_length] at hgo
    refine ⟨_, rfl, ?_⟩
    have : atomsOf l = fs := hgo
    exact k f H' (e13.trans (e4.trans e)) (by rw [this]; exact hats)
theorem lineL_len {st : Step Nm} (h : stB st = true) : (lineL st.s st.now).length ≤ 2000 := by
  have hb := st_sg h
  have h1 := compL_len hb
  have h2 := callL_len hb
  obtain ⟨s, now⟩ := st
  cases s <;> cases now <;> simp only [lineL, List.length_append, List.length_cons, List.length_nil, Bool.false_eq_true, if_false, if_true, lenC "rows = [" (n := 8) (by decide +kernel), lenC "]" (n := 1) (by decide +kernel), lenC "rows = (" (n := 8) (by decide +kernel), lenC ")" (n := 1) (by decide +kernel), lenC "rows = list(" (n := 12) (by decide +kernel), lenC "rows = " (n := 7) (by decide +kernel), lenC "rows = list(rows)[::-1]" (n := 23) (by decide +kernel), lenC "rows = list(rows)[-" (n := 19) (by decide +kernel), lenC ":]" (n := 2) (by decide +kernel), lenC "rows = list(rows)[:-" (n := 20) (by decide +kernel)] at h1 h2 ⊢ <;> omega
theorem sum_le {l : List (List Nat)} {b : Nat} (h : ∀ x ∈ l, x.length ≤ b) : ((l.map SX.S).map (·.length)).sum ≤ b * l.length := by
  rw [SX.lens]
  induction l with
  | nil => simp
  | cons x l ih =>
    rw [List.map_cons, List.sum_cons, List.length_cons, Nat.mul_succ]
    have := ih fun y hy => h y (List.mem_cons_of_mem _ hy)
    have := h x (List.mem_cons_self ..)
    omega
theorem p_Flow___str__ (TT : Tx K mg) (h : sp_str_Flow K vs H Q E) : r_Flow___str__ K (sp_str_Stage K) (ends Q) (start ["self", "stage"] vs) H := by
  obtain ⟨v, l, rfl, hf, hst, h8, k⟩ := h
  obtain ⟨t, svs, hev, ht, hal⟩ := kept_at (σ := start ["self", "stage"] [v]) TT (ev_var (i := 0) rfl) hf
  have hlen := hal.len
  have z : EvL (tLc (iTup K (tFld K (tVar 0) "kept")) (gName 1) (tYes) (tCB (rStrOwn (He.ga K "Stage") (sp_str_Stage K) C8.E0) (tCons (tVar 1) tNil)) [1]) (start ["self", "stage"] [v]) H (l.map fun st => nV (lineL st.s st.now)) :=
    el_mapT hev (st_of ht) (by omega) (by simp [hlen]) (fun x => rfl) fun i x y H1 e1 hx hy => by
      obtain ⟨st, hs, hsv⟩ := hal.at hx
      have hsv := hsv.fx (Fx.of e1)
      simp only [List.getElem?_map, hs, Option.map_some, Option.some.injEq] at hy
      subst hy
      intro H2 e2 Q q
      have hsv2 := hsv.fx (Fx.of e2)
      obtain ⟨a, dx, tt, d, rfl, ha, _, _⟩ := id hsv2
      exact ⟨_, rfl, a, dx, _, rfl, ha, _, st, rfl, hsv2, hst st (List.mem_of_getElem? hs), fun H3 e3 => ⟨_, rfl, q H3 e3⟩⟩
  refine ⟨⟨_, rfl⟩, ?_⟩
  show tLst (StX.tStar K (tLc (iTup K (tFld K (tVar 0) "kept")) (gName 1) (tYes) (tCB (rStrOwn (He.ga K "Stage") (sp_str_Stage K) C8.E0) (tCons (tVar 1) tNil)) [1]) _) _ H _
  show StX.tStar K (tLc (iTup K (tFld K (tVar 0) "kept")) (gName 1) (tYes) (tCB (rStrOwn (He.ga K "Stage") (sp_str_Stage K) C8.E0) (tCons (tVar 1) tNil)) [1]) _ _ H _
  show (tLc (iTup K (tFld K (tVar 0) "kept")) (gName 1) (tYes) (tCB (rStrOwn (He.ga K "Stage") (sp_str_Stage K) C8.E0) (tCons (tVar 1) tNil)) [1]) _ H _
  refine z H (Ex.refl H) _ fun p H1 _ e1 hp => ⟨p, _, rfl, .inr (sq_of hp), ?_⟩
  have hL : (l.map (fun st => nV (lineL st.s st.now))) ++ [V.str ("return list(rows)" : Str)] = ((l.map (fun st => lineL st.s st.now) ++ [cd "return list(rows)"]).map SX.S).map V.str := by
    rw [cd_S]
    simp [nV, Function.comp]
  have hlb : ∀ x ∈ l.map (fun st => lineL st.s st.now) ++ [cd "return list(rows)"], x.length ≤ 2000 := by
    intro x hx
    rcases List.mem_append.mp hx with h | h
    · obtain ⟨st, hs, rfl⟩ := List.mem_map.mp h
      exact lineL_len (hst st hs)
    · rw [List.mem_singleton] at h
      subst h
      rw [lenC "return list(rows)" (n := 17) (by decide +kernel)]
      decide
  refine ⟨?_, fun q hq => ?_⟩
  · rw [List.length_append, List.length_map]
    exact sz_of (by simp; omega)
  · have hq2 : ∀ xs, (xs = (l.map (fun st => nV (lineL st.s st.now))) ++ [V.str ("return list(rows)" : Str)]) → upd H1 q (.lst xs) q = some (.lst (((l.map (fun st => lineL st.s st.now) ++ [cd "return list(rows)"]).map SX.S).map V.str)) := fun xs hxs => by rw [upd_same, hxs, hL]
    refine ⟨_, q, (l.map (fun st => lineL st.s st.now) ++ [cd "return list(rows)"]).map SX.S, rfl, rfl, .inl (sq_of (hq2 _ rfl)), ?_, ?_⟩
    · have := sum_le hlb
      rw [List.length_map]
      have e : (l.map (fun st => lineL st.s st.now) ++ [cd "return list(rows)"]).length = l.length + 1 := by simp
      rw [e] at this ⊢
      have e2 : (Str.ofString "\n").length = 1 := by rw [cd_S, lenS]; rfl
      rw [e2]
      omega
    · have e : Txt.join (Str.ofString "\n") ((l.map (fun st => lineL st.s st.now) ++ [cd "return list(rows)"]).map SX.S) = SX.S (flowL l) := by
        rw [cd_S, SX.join_S]
        rfl
      have := k _ (e1.trans (Ex.new (o := .lst ((l.map (fun st => nV (lineL st.s st.now))) ++ [V.str ("return list(rows)" : Str)])) hq))
      rw [show nV (flowL l) = V.str (SX.S (flowL l)) from rfl, ← e] at this
      exact this
end
end CF

/-! text CfQA -/
set_option Elab.async false
set_option linter.all false
set_option maxRecDepth 100000
set_option maxHeartbeats 4000000
/-! the readings answer the promises: what is drawn -/
namespace CF
open PySem PySem.Spec PyProof.Rows L2 Evl
section
variable {K : PySem.W.Frag} {mg : Str → Option Value} {vs : List V} {H H' : Hp} {Q : VK} {E : XK} {σ : L2.St} {ta tb : TE} {i j : Int}
theorem ev_add (ha : Ev ta σ H (.int i)) (hb : Ev tb σ H (.int j)) : Ev (tOp rAddI ta tb) σ H (.int (i + j)) := ev_op ha hb (rv_I0 (g := fun i j => .int (i + j)))
theorem ev_sub (ha : Ev ta σ H (.int i)) (hb : Ev tb σ H (.int j)) : Ev (tOp rSubI ta tb) σ H (.int (i - j)) := ev_op ha hb (rv_I0 (g := fun i j => .int (i - j)))
theorem ev_mul (ha : Ev ta σ H (.int i)) (hb : Ev tb σ H (.int j)) (h : (-(2 ^ 64) < i ∧ i < 2 ^ 64) ∨ (-(2 ^ 64) < j ∧ j < 2 ^ 64)) : Ev (tOp rMulI ta tb) σ H (.int (i * j)) := ev_op ha hb (rv_I (C := CMul) (g := fun i j => .int (i * j)) h)
theorem ev_mod (ha : Ev ta σ H (.int i)) (hb : Ev tb σ H (.int j)) (h : 0 < j) : Ev (tOp rModI ta tb) σ H (.int (i % j)) := ev_op ha hb (rv_I (C := fun _ j => 0 < j) (g := fun i j => .int (i % j)) h)
theorem ev_fdv (ha : Ev ta σ H (.int i)) (hb : Ev tb σ H (.int j)) (h : 0 < j ∧ j < 1073741824) : Ev (tOp rFdvI ta tb) σ H (.int (i / j)) := ev_op ha hb (rv_I (C := CDiv) (g := fun i j => .int (i / j)) h)
theorem ev_int (ha : Ev ta σ H (.int i)) : Ev (tCB cInt (tCons ta tNil)) σ H (.int i) := fun H1 e Q q => ha H1 e _ fun H2 e2 => .inl ⟨i, rfl, q H2 e2⟩
theorem p__law_cell (h : sp__law_cell K vs H Q E) : r__law_cell K (ends Q) (start ["_law_cells", "_law_k", "_law_seed", "_law_cell_here_here"] vs) H := by
  obtain ⟨a, ns, n, rfl, ha, hz, hn, k⟩ := h
  have hlen : (ns.map V.int).length = ns.length := List.length_map ..
  refine ⟨_, rfl, _, rfl, _, _, rfl, .inl ⟨_, ha, rfl⟩, _, _, rfl, rfl, _, rfl, ?_⟩
  rw [hlen]
  by_cases hlt : n < ns.length
  · refine ifT (by omega) ?_
    obtain ⟨r, hr⟩ := getE (xs := ns) (i := n) hlt
    exact ⟨_, rfl, _, rfl, a, _, _, _, rfl, rfl, ha, atI_nat (v := .int r) (by rw [List.getElem?_map, hr]; rfl), k r H (Ex.refl H)⟩
  · refine ifF (by omega) ?_
    have hk : ∀ {H1 : Hp}, Ev (tVar 1) [some (.ref a), some (.int (n : Nat)), none, none] H1 (.int (n : Nat)) := fun {H1} => ev_var rfl
    have hb : ((n : Nat) : Int) * ((n : Nat) : Int) ≤ 10000 := by
      have h1 : n * n ≤ 100 * 100 := Nat.mul_le_mul hn hn
      have h2 : ((n * n : Nat) : Int) = ((n : Nat) : Int) * ((n : Nat) : Int) := Int.natCast_mul n n
      omega
    have hb0 : 0 ≤ ((n : Nat) : Int) * ((n : Nat) : Int) := Int.mul_nonneg (by omega) (by omega)
    have hs : Ev (tOp rModI (tCB cInt (tCons (tOp rMulI (tC (.int 69497)) (tOp rAddI (tOp rAddI (tOp rMulI (tVar 1) (tVar 1)) (tOp rMulI (tC (.int 11)) (tVar 1))) (tC (.int 23)))) tNil)) (tC (.int 2147483399))) [some (.ref a), some (.int (n : Nat)), none, none] H (.int ((69497 * (((n : Nat) : Int) * ((n : Nat) : Int) + 11 * ((n : Nat) : Int) + 23)) % 2147483399)) :=
      ev_mod (ev_int (ev_mul (i := 69497) ev_c (ev_add (ev_add (ev_mul hk hk (.inl ⟨by omega, by omega⟩)) (ev_mul (i := 11) ev_c hk (.inl ⟨by decide, by decide⟩))) (ev_c (v := .int 23))) (.inl ⟨by decide, by decide⟩))) (ev_c (v := .int 2147483399)) (by decide)
    refine q_asg hs fun H1 e1 => ?_
    generalize (69497 * (((n : Nat) : Int) * ((n : Nat) : Int) + 11 * ((n : Nat) : Int) + 23)) % 2147483399 = r0
    refine ⟨_, rfl, _, rfl, a, ns.map V.int, rfl, ex_l e1 ha, fun p hp => ⟨p, rfl, ⟨_, sq_of upd_same⟩, ?_⟩⟩
    have e2 : Ex H1 (upd H1 p (.lst (cutV (ns.map V.int) none (some 3)))) := Ex.new hp
    refine for_list (xs := cutV (ns.map V.int) none (some 3)) (fun i σ' H' => Ex (upd H1 p (.lst (cutV (ns.map V.int) none (some 3)))) H' ∧ ∃ (r : Int) (o : Option V), σ' = [some (.ref a), some (.int (n : Nat)), some (.int r), o]) ⟨Ex.refl _, r0, none, rfl⟩ (fun i σ' H' _ q => sq_of (q.1 p _ upd_same)) ?_ ?_
    · rintro i x σ' H' hi ⟨e, r, o, rfl⟩
      have hx : x ∈ cutV (ns.map V.int) none (some 3) := List.mem_of_getElem? hi
      unfold cutV at hx
      obtain ⟨c, hc, rfl⟩ := List.mem_map.mp (List.mem_of_mem_drop (List.mem_of_mem_take hx))
      refine s_asg (ev_mod (ev_int (ev_add (ev_mul (i := r) (j := 52391) (ev_var rfl) (ev_c (v := .int 52391)) (.inr ⟨by decide, by decide⟩)) (ev_var (v := .int c) rfl))) (ev_c (v := .int 2147483399)) (by decide)) fun H2 e2 => ⟨e.trans e2, _, some (.int c), rfl⟩
    · rintro σ' H' ⟨e, r, o, rfl⟩
      exact ⟨_, rfl, k r H' (e1.trans (e2.trans e))⟩
theorem p__law_purse (h : sp__law_purse vs H Q E) : r__law_purse K (ends Q) (start ["_law_cell_here", "_law_digits"] vs) H := by
  obtain ⟨c, rfl, k⟩ := h
  have hc : ∀ {H1 : Hp} {o : Option V}, Ev (tVar 0) [some (.int c), o] H1 (.int c) := fun {H1 o} => ev_var rfl
  have fin : ∀ {b : Int} {H1 : Hp}, 0 ≤ b → Ex H H1 → tRet (tLst (tCons (tOp rModI (tCB cInt (tCons (tVar 0) tNil)) (tC (.int 2147483399))) (tCons (tVar 1) (tCons (tC (.int 0)) tNil)))) (ends Q) [some (.int c), some (.int b)] H1 := by
    intro b H1 hb e1
    have z : Ev (tOp rModI (tCB cInt (tCons (tVar 0) tNil)) (tC (.int 2147483399))) [some (.int c), some (.int b)] H1 (.int (c % 2147483399)) := ev_mod (ev_int hc) (ev_c (v := .int 2147483399)) (by decide)
    refine s_retL (el_lst (ea_cons z (ea_cons (ev_var rfl) (ea_cons ev_c ea_nil))) (by simp)) fun p H2 hp e2 h2 => ?_
    exact k p H2 (e1.trans e2) (fresh_back e1 hp) ⟨_, b, 0, h2, Int.emod_nonneg _ (by decide), Int.emod_lt_of_pos _ (by decide), hb⟩
  refine q_asg (v := .int (if (decide (c < 0) || decide ((10 : Int) ^ (18 : Int).toNat ≤ c)) = true then (if c < 0 then -c else c) else 0)) ?_ fun H1 e1 => fin ?_ e1
  · have hp : Ev (tOp rPowI (tC (.int 10)) (tC (.int 18))) [some (.int c), none] H (.int ((10 : Int) ^ (18 : Int).toNat)) := ev_op (ev_c (v := .int 10)) (ev_c (v := .int 18)) (rv_I (C := CPow) (g := fun i j => .int (i ^ j.toNat)) ⟨by decide, by decide, by decide⟩)
    refine ev_if (et_or (et_test (ev_op hc (ev_c (v := .int 0)) (rv_I0 (g := fun i j => .bl (decide (i < j)))))) fun _ => et_test (ev_op hc hp (rv_I0 (g := fun i j => .bl (decide (j ≤ i)))))) (fun h => ?_) fun h => ?_
    · rw [if_pos h]
      exact fun H1 e Q q => ⟨_, rfl, c, rfl, q H1 (Ex.refl H1)⟩
    · rw [if_neg (by rw [h]; exact Bool.false_ne_true)]
      exact ev_c
  · split
    · split <;> omega
    · exact Int.le_refl _
theorem p__law_take (h : sp__law_take vs H Q E) : r__law_take K (ends Q) (start ["_law_purse_here", "_law_many", "_law_seed", "_law_grown", "_law_digit"] vs) H := by
  obtain ⟨p, m, rfl, ⟨a, b, c, hp, ha0, ha1, hb⟩, hm1, hm2, k⟩ := h
  have at0 : ∀ {x y z : V} {σ : L2.St} {H1 : Hp}, σ[0]? = some (some (.ref p)) → H1 p = some (.lst [x, y, z]) → Ev (tOp (rIxL K) (tVar 0) (tC (.int 0))) σ H1 x := fun hs h => ev_op (ev_var hs) (ev_c (v := .int ((0 : Nat) : Int))) (rv_ixL (sq_of h) (atI_nat rfl))
  have at1 : ∀ {x y z : V} {σ : L2.St} {H1 : Hp}, σ[0]? = some (some (.ref p)) → H1 p = some (.lst [x, y, z]) → Ev (tOp (rIxL K) (tVar 0) (tC (.int 1))) σ H1 y := fun hs h => ev_op (ev_var hs) (ev_c (v := .int ((1 : Nat) : Int))) (rv_ixL (sq_of h) (atI_nat rfl))
  have at2 : ∀ {x y z : V} {σ : L2.St} {H1 : Hp}, σ[0]? = some (some (.ref p)) → H1 p = some (.lst [x, y, z]) → Ev (tOp (rIxL K) (tVar 0) (tC (.int 2))) σ H1 z := fun hs h => ev_op (ev_var hs) (ev_c (v := .int ((2 : Nat) : Int))) (rv_ixL (sq_of h) (atI_nat rfl))
  -- purse[2] += 1
  refine q_setL (j := 2) hp (ev_add (at2 rfl hp) (ev_c (v := .int 1))) (ev_var rfl) (ev_c (v := .int ((2 : Nat) : Int))) (by simp) fun H1 e1 => ?_
  have k1 : Kp [p] H (upd H1 p (.lst ([V.int a, .int b, .int c].set 2 (.int (c + 1))))) := (Kp.of e1).put (by simp)
  generalize hH2 : upd H1 p (.lst ([V.int a, .int b, .int c].set 2 (.int (c + 1)))) = H2 at k1
  have h2 : H2 p = some (.lst [.int a, .int b, .int (c + 1)]) := by rw [← hH2]; exact upd_same
  refine q_asg (ev_int (at0 rfl h2)) fun H3 e3 => ?_
  have h3 := e3 p _ h2
  have hmod := Int.emod_nonneg a (b := 40009) (by decide)
  have hmod2 := Int.emod_lt_of_pos a (b := 40009) (by decide)
  refine q_asg (ev_mul (i := a) (j := a % 40009 + 28001) (ev_var rfl) (ev_add (ev_mod (ev_int (ev_var rfl)) (ev_c (v := .int 40009)) (by decide)) (ev_c (v := .int 28001))) (.inl ⟨by omega, by omega⟩)) fun H4 e4 => ?_
  have h4 := e4 p _ h3
  generalize a * (a % 40009 + 28001) = g
  have hnew : Ev (tOp rModI (tCB cInt (tCons (tOp rAddI (tOp rAddI (tVar 3) (tOp rMulI (tC (.int 91033)) (tOp (rIxL K) (tVar 0) (tC (.int 2))))) (tC (.int 17))) tNil)) (tC (.int 2147483399))) [some (.ref p), some (.int m), some (.int a), some (.int g), none] H4 (.int ((g + 91033 * (c + 1) + 17) % 2147483399)) :=
    ev_mod (ev_int (ev_add (ev_add (ev_var rfl) (ev_mul (i := 91033) ev_c (at2 rfl h4) (.inl ⟨by decide, by decide⟩))) (ev_c (v := .int 17)))) (ev_c (v := .int 2147483399)) (by decide)
  refine q_setL (j := 0) h4 hnew (ev_var rfl) (ev_c (v := .int ((0 : Nat) : Int))) (by simp) fun H5 e5 => ?_
  have hr0 := Int.emod_nonneg (g + 91033 * (c + 1) + 17) (b := 2147483399) (by decide)
  have hr1 := Int.emod_lt_of_pos (g + 91033 * (c + 1) + 17) (b := 2147483399) (by decide)
  generalize (g + 91033 * (c + 1) + 17) % 2147483399 = r at hr0 hr1
  have k5 : Kp [p] H (upd H5 p (.lst ([V.int a, .int b, .int (c + 1)].set 0 (.int r)))) := (k1.trans (Kp.of (e3.trans (e4.trans e5)))).put (by simp)
  generalize hH6 : upd H5 p (.lst ([V.int a, .int b, .int (c + 1)].set 0 (.int r))) = H6 at k5
  have h6 : H6 p = some (.lst [.int r, .int b, .int (c + 1)]) := by rw [← hH6]; exact upd_same
  have hm0 : (0 : Int) < (m : Int) := by omega
  have hm3 : ((m : Nat) : Int) < 1073741824 := by omega
  refine q_when (b := decide (0 < b)) (et_test (ev_op (at1 rfl h6) (ev_c (v := .int 0)) (rv_I0 (g := fun i j => .bl (decide (j < i)))))) (fun hb1 H7 e7 => ?_) fun hb1 H7 e7 => ?_
  · have h7 := e7 p _ h6
    refine at1 rfl h7 H7 (Ex.refl H7) _ fun H8 e8 => ⟨_, rfl, b, m, rfl, ⟨hm0, PyProof.noPylong_small (by omega)⟩, fun q hq => ?_⟩
    have h8 := e8 p _ h7
    have e9 : Ex H8 (upd H8 q (.tup [.int (b / m), .int (b % m)])) := Ex.new hq
    have h9 := e9 p _ h8
    refine ⟨q, _, rfl, st_of upd_same, rfl, _, _, rfl, ?_⟩
    refine ⟨_, rfl, p, _, ((1 : Nat) : Int), 1, rfl, rfl, h9, rfl, ?_⟩
    refine ⟨_, _, rfl, rfl, _, rfl, ?_⟩
    have hd0 : 0 ≤ b % (m : Int) := Int.emod_nonneg _ (by omega)
    have hd1 : b % (m : Int) < m := Int.emod_lt_of_pos _ hm0
    have hq0 : 0 ≤ b / (m : Int) := Int.ediv_nonneg hb (by omega)
    have := k (b % (m : Int)).toNat (upd (upd H8 q (.tup [.int (b / m), .int (b % m)])) p (.lst ([V.int r, .int b, .int (c + 1)].set 1 (.int (b / m))))) ((k5.trans (Kp.of ((e7.trans e8).trans e9))).put (by simp)) ⟨r, b / m, c + 1, upd_same, hr0, hr1, hq0⟩ (by omega)
    rw [show (((b % (m : Int)).toNat : Nat) : Int) = b % (m : Int) by omega] at this
    exact this
  · have h7 := e7 p _ h6
    have z : Ev (tOp rModI (tCB cInt (tCons (tOp rFdvI (tOp (rIxL K) (tVar 0) (tC (.int 0))) (tC (.int 64))) tNil)) (tVar 1)) [some (.ref p), some (.int m), some (.int a), some (.int g), none] H7 (.int (r / 64 % (m : Int))) := ev_mod (ev_int (ev_fdv (at0 rfl h7) (ev_c (v := .int 64)) ⟨by decide, by decide⟩)) (ev_var rfl) hm0
    refine s_ret z fun H8 e8 => ?_
    have hd0 : 0 ≤ r / 64 % (m : Int) := Int.emod_nonneg _ (by omega)
    have hd1 : r / 64 % (m : Int) < m := Int.emod_lt_of_pos _ hm0
    have := k (r / 64 % (m : Int)).toNat H8 (k5.trans (Kp.of (e7.trans e8))) ⟨r, b, c + 1, e8 p _ h7, hr0, hr1, hb⟩ (by omega)
    rw [show (((r / 64 % (m : Int)).toNat : Nat) : Int) = r / 64 % (m : Int) by omega] at this
    exact this
end
end CF

/-! text CfQB -/
set_option Elab.async false
set_option linter.all false
set_option maxRecDepth 100000
set_option maxHeartbeats 4000000
/-! the readings answer the promises: names, details, steps that are drawn -/
namespace CF
open PySem PySem.Spec PyProof.Rows L2 Evl
section
variable {K : PySem.W.Frag} {mg : Str → Option Value} {vs : List V} {H H' : Hp} {Q : VK} {E : XK} {σ : L2.St} {ta tb : TE} {i j : Int}
theorem tk {m : Nat} {mi : Int} {p : Addr} (e : mi = ((m : Nat) : Int)) (hp : Pur H p) (h1 : 1 ≤ m) (h2 : m ≤ 1000) (q : ∀ (r : Nat) H', Kp [p] H H' → Pur H' p → r < m → Q (.int r) H') : sp__law_take [.ref p, .int mi] H Q E := ⟨p, m, by rw [e], hp, h1, h2, q⟩
theorem Pur.ex {p : Addr} (h : Pur H p) (e : Ex H H') : Pur H' p := by
  obtain ⟨a, b, c, h, r⟩ := h
  exact ⟨a, b, c, e p _ h, r⟩
theorem Pur.ne {p q : Addr} (h : Pur H p) (hq : H q = none) : p ≠ q := by
  obtain ⟨a, b, c, h, r⟩ := h
  exact ne_of_none h hq
theorem Pur.some_ {p : Addr} (h : Pur H p) : H p ≠ none := by
  obtain ⟨a, b, c, h, r⟩ := h
  rw [h]
  exact fun z => nomatch z
theorem Pur.fx {p : Addr} (h : Pur H p) (k : Kp [p] H H') : Fx H H' := by
  obtain ⟨a, b, c, h, r⟩ := h
  exact fxm h k
/-- a list that the purse does not touch -/
theorem Kp.lst {p q : Addr} {xs : List V} (k : Kp [p] H H') (h : H q = some (.lst xs)) (n : q ≠ p) : H' q = some (.lst xs) := k.keep q _ h (by simpa using n)
theorem p__law_labels (h : sp__law_labels vs H Q E) : r__law_labels K (ends Q) (start [] vs) H := by
  obtain ⟨rfl, k⟩ := h
  refine ⟨by show 11 ≤ sizeLine; decide, fun p hp => k p _ (Ex.new hp) hp upd_same⟩
theorem letters_at {r : Nat} (h : r < 25) : ∃ c, letters[r]? = some c ∧ c ∈ letters := by
  have hl : letters.length = 25 := by decide +kernel
  obtain ⟨c, hc⟩ := getE (xs := letters) (i := r) (by omega)
  exact ⟨c, hc, List.mem_of_getElem? hc⟩
theorem digits_at {r : Nat} (h : r < 10) : ∃ c, digits[r]? = some c ∧ c ∈ digits := by
  have hl : digits.length = 10 := by decide +kernel
  obtain ⟨c, hc⟩ := getE (xs := digits) (i := r) (by omega)
  exact ⟨c, hc, List.mem_of_getElem? hc⟩
theorem rix_cd {s : String} {r : Nat} {c : Nat} (hz : (cd s).length ≤ 1000) (h : (cd s)[r]? = some c) (q : Q (nV [c]) H) : rIxS (.str (Str.ofString s)) (.int (r : Nat)) H Q := by
  rw [cd_S]
  exact ⟨_, _, c, rfl, rfl, by rw [lenS]; exact sz_of (by omega), atI_nat h, q⟩
theorem p__law_name (h : sp__law_name vs H Q E) : r__law_name K sp__law_take (ends Q) (start ["_law_purse_here", "_law_letter", "_law_many", "_law_k"] vs) H := by
  obtain ⟨p, rfl, hp, k⟩ := h
  have l25 : (cd "abcdefghijklmnopqrstuvwyz").length ≤ 1000 := by rw [lenC "abcdefghijklmnopqrstuvwyz" (n := 25) (by decide +kernel)]; decide
  have l10 : (cd "0123456789").length ≤ 1000 := by rw [lenC "0123456789" (n := 10) (by decide +kernel)]; decide
  refine ⟨_, rfl, p, 25, rfl, hp, by decide, by decide, fun r H1 k1 hp1 hr => ?_⟩
  obtain ⟨c, hc, hcm⟩ := letters_at hr
  refine rix_cd l25 hc ?_
  refine ⟨_, rfl, p, 2, rfl, hp1, by decide, by decide, fun r2 H2 k2 hp2 hr2 => ⟨rfl, _, rfl, ?_⟩⟩
  refine ite2 (fun _ => ⟨_, rfl, k [c] H2 (k1.trans k2) hp2 ?_⟩) fun _ => ?_
  · show (decide (c ∈ letters) && decide (([] : List Nat).length ≤ 3) && ([] : List Nat).all fun d => decide (d ∈ digits)) = true
    rw [decide_eq_true hcm]
    rfl
  · refine ⟨_, rfl, p, 3, rfl, hp2, by decide, by decide, fun r3 H3 k3 hp3 hr3 => ⟨_, _, rfl, rfl, ?_⟩⟩
    have k13 := (k1.trans k2).trans k3
    refine ⟨_, rfl, ⟨_, rfl⟩, ?_⟩
    have hn : (1 : Int) + (r3 : Int) = ((1 + r3 : Nat) : Int) := by omega
    refine ⟨_, rfl, _, rfl, by omega, by omega, fun D hD => ?_⟩
    have hpD := hp3.ne hD
    refine lc_range (lo := 0) (n := ((1 : Int) + (r3 : Int)).toNat) (fun i H' => Kp [p] H3 H' ∧ Pur H' p ∧ ∃ ds : List Nat, H' D = some (.lst (ds.map fun d => nV [d])) ∧ ds.length = i ∧ ∀ d ∈ ds, d ∈ digits) ⟨Kp.of (Ex.new hD), hp3.ex (Ex.new hD), [], upd_same, rfl, by simp⟩ ?_ ?_
    · rintro i H4 hi ⟨k4, hp4, ds, hd4, hdl, hdm⟩
      refine ⟨rfl, _, rfl, p, 10, rfl, hp4, by decide, by decide, fun r5 H5 k5 hp5 hr5 => ?_⟩
      obtain ⟨d, hd, hdd⟩ := digits_at hr5
      refine rix_cd l10 hd ?_
      have hd5 := k5.lst hd4 hpD.symm
      refine ⟨_, hd5, sz_lt (by rw [List.length_map]; omega), ((k4.trans k5).trans (Kp.refl _ _)).own ?_, ?_, ds ++ [d], ?_, ?_, ?_⟩
      · exact hD
      · obtain ⟨a, b, c, h, r⟩ := hp5
        exact ⟨a, b, c, by rw [upd_ne hpD]; exact h, r⟩
      · rw [upd_same, List.map_append]
        rfl
      · rw [List.length_append, hdl]
        rfl
      · intro x hx
        rcases List.mem_append.mp hx with h | h
        · exact hdm x h
        · rw [List.mem_singleton] at h; subst h; exact hdd
    · rintro H4 ⟨k4, hp4, ds, hd4, hdl, hdm⟩
      have e0 : Str.ofString "" = SX.S [] := by rw [cd_S]; rfl
      have hmap : ds.map (fun d => nV [d]) = ((ds.map fun d => [d]).map SX.S).map V.str := by simp [nV, Function.comp]
      rw [hmap] at hd4
      have hlen : ds.length ≤ 3 := by omega
      refine ⟨Str.ofString "", D, (ds.map fun d => [d]).map SX.S, rfl, rfl, .inl (sq_of hd4), ?_, ?_⟩
      · have := sum_le (l := ds.map fun d => [d]) (b := 1) (by intro x hx; obtain ⟨d, _, rfl⟩ := List.mem_map.mp hx; exact Nat.le_refl _)
        rw [e0, lenS]
        simp only [List.length_map, List.length_nil] at this ⊢
        omega
      · have hj : ∀ l : List Nat, TL.joinL [] (l.map fun d => [d]) = l := by
          intro l
          induction l with
          | nil => rfl
          | cons a l ih =>
            cases l with
            | nil => rfl
            | cons b l => show [a] ++ ([] ++ TL.joinL [] ((b :: l).map fun d => [d])) = _; rw [ih]; rfl
        rw [e0, SX.join_S, hj]
        refine ⟨_, _, rfl, rfl, ?_, ?_⟩
        · rw [lenS, lenS]
          exact sz_of (by simp only [List.length_cons, List.length_nil]; omega)
        · have := k ([c] ++ ds) H4 (k13.trans k4) hp4 (by
            show (decide (c ∈ letters) && decide (ds.length ≤ 3) && ds.all fun d => decide (d ∈ digits)) = true
            rw [decide_eq_true hcm, decide_eq_true hlen, List.all_eq_true.mpr fun d hd => decide_eq_true (hdm d hd)]
            rfl)
          show Q (.str (SX.S [c] ++ SX.S ds)) H4
          rw [SX.S_cat]
          exact this
end
end CF

/-! text CfQC -/
set_option Elab.async false
set_option linter.all false
set_option maxRecDepth 100000
set_option maxHeartbeats 4000000
/-! the readings answer the promises: tags, details, steps that are drawn -/
namespace CF
open PySem PySem.Spec PyProof.Rows L2 Evl
section
variable {K : PySem.W.Frag} {mg : Str → Option Value} {vs : List V} {H H' : Hp} {Q : VK} {E : XK} {σ : L2.St} {ta tb : TE} {i j : Int}
theorem Pur.put {p q : Addr} {o : HO} (h : Pur H p) (n : p ≠ q) : Pur (upd H q o) p := by
  obtain ⟨a, b, c, h, r⟩ := h
  exact ⟨a, b, c, by rw [upd_ne n]; exact h, r⟩
/-- a comprehension over a range that draws from a purse -/
theorem lc_pur {p : Addr} {n iv jv : Nat} {ws : List Nat} {te : TE} (hi : σ[iv]? = some (some (.int (n : Nat)))) (hw : ∀ x, wipe ((wipe σ ws).set jv (some x)) ws = wipe σ ws) (hn : n ≤ 1000) (hp : Pur H p) (A : Nat → List V → Hp → Prop)
    (mono : ∀ i acc H1 H2, Fx H1 H2 → A i acc H1 → A i acc H2) (h0 : ∀ H1, A 0 [] H1)
    (step : ∀ i acc H4 (Q' : VK), i < n → Kp [p] H H4 → Pur H4 p → A i acc H4 → (∀ y H5, Kp [p] H4 H5 → Pur H5 p → A (i + 1) (acc ++ [y]) H5 → Q' y H5) → te ((wipe σ ws).set jv (some (.int (i : Nat)))) H4 Q')
    (hd : ∀ D acc H4, Kp [p] H H4 → Pur H4 p → H D = none → H4 D = some (.lst acc) → acc.length = n → A n acc H4 → Q (.ref D) H4) : tLc (iRng1 (tCons (tVar iv) tNil)) (gName jv) tYes te ws σ H Q := by
  refine ⟨_, hi, n, rfl, by omega, by omega, fun D hD => ?_⟩
  have hpD := hp.ne hD
  refine lc_range (lo := 0) (n := ((n : Nat) : Int).toNat) (fun i H' => Kp [p] H H' ∧ Pur H' p ∧ ∃ acc, H' D = some (.lst acc) ∧ acc.length = i ∧ A i acc H') ⟨Kp.of (Ex.new hD), hp.ex (Ex.new hD), [], upd_same, rfl, h0 _⟩ ?_ ?_
  · rintro i H4 hi4 ⟨k4, hp4, acc, hd4, hal, hA⟩
    refine ⟨hw _, ?_⟩
    have e0 : (0 : Int) + (i : Int) = ((i : Nat) : Int) := Int.zero_add _
    show te ((wipe σ ws).set jv (some (.int ((0 : Int) + (i : Int))))) H4 _
    rw [e0]
    refine step i acc H4 _ (by omega) k4 hp4 hA fun y H5 k5 hp5 hA5 => ?_
    have hd5 := k5.lst hd4 hpD.symm
    have fD : Fx H5 (upd H5 D (.lst (acc ++ [y]))) := fxm hd5 ((Kp.refl _ _).put (by simp))
    exact ⟨acc, hd5, sz_lt (by omega), (k4.trans k5).own hD, hp5.put hpD, acc ++ [y], upd_same, by rw [List.length_append, hal]; rfl, mono _ _ _ _ fD hA5⟩
  · rintro H4 ⟨k4, hp4, acc, hd4, hal, hA⟩
    rw [Int.toNat_natCast] at hal hA
    exact hd D acc H4 k4 hp4 hD hd4 hal hA
theorem p__law_tags (h : sp__law_tags vs H Q E) : r__law_tags K sp__law_take sp__law_name (ends Q) (start ["_law_purse_here", "_law_many", "_law_alike", "_law_tags_here", "_law_k", "_law_tag"] vs) H := by
  obtain ⟨p, rfl, hp, k⟩ := h
  refine ⟨_, rfl, p, 4, rfl, hp, by decide, by decide, fun r1 H1 k1 hp1 hr1 => ⟨_, _, rfl, rfl, _, rfl, p, 3, rfl, hp1, by decide, by decide, fun r2 H2 k2 hp2 hr2 => ⟨rfl, _, _, rfl, ?_⟩⟩⟩
  have hn : (1 : Int) + (r1 : Int) = ((1 + r1 : Nat) : Int) := by omega
  generalize decide (V.int (r2 : Int) = V.int 0) = alike
  show tSeq (tAsg (tLc (iRng1 (tCons (tVar 1) tNil)) (gName 4) (tYes) (tCall sp__law_name [] C8.E0 (tCons (tVar 0) tNil)) [4]) (gName 3)) _ (ends Q) [some (.ref p), some (.int (1 + (r1 : Int))), some (.bl alike), none, none, none] H2
  rw [hn]
  show tAsg (tLc (iRng1 (tCons (tVar 1) tNil)) (gName 4) (tYes) (tCall sp__law_name [] C8.E0 (tCons (tVar 0) tNil)) [4]) (gName 3) _ _ H2
  show (tLc (iRng1 (tCons (tVar 1) tNil)) (gName 4) (tYes) (tCall sp__law_name [] C8.E0 (tCons (tVar 0) tNil)) [4]) [some (.ref p), some (.int ((1 + r1 : Nat) : Int)), some (.bl alike), none, none, none] H2 _
  refine lc_pur (p := p) (n := 1 + r1) (iv := 1) (jv := 4) (σ := [some (.ref p), some (.int ((1 + r1 : Nat) : Int)), some (.bl alike), none, none, none]) rfl (fun x => rfl) (by omega) hp2 (fun i acc _ => ∃ w : List Nm, acc = tV w ∧ wordB w = true) (fun _ _ _ _ _ z => z) (fun _ => ⟨[], rfl, rfl⟩) ?_ ?_
  · rintro i acc H4 Q' hi4 k4 hp4 ⟨w, rfl, hw⟩ q
    refine ⟨_, rfl, p, rfl, hp4, fun n H5 k5 hp5 hn5 => q _ H5 k5 hp5 ⟨w ++ [n], by rw [tV_app]; rfl, wordB_app hw ?_⟩⟩
    show (nameB n && true) = true
    rw [hn5]
    rfl
  · rintro D acc H4 k4 hp4 hD hd4 hal ⟨w, rfl, hw⟩
    have hwl : w.length = 1 + r1 := by rw [← hal]; exact (List.length_map ..).symm
    have hD0 : H D = none := (k1.trans k2).none_of hD
    have k04 := (k1.trans k2).trans k4
    show tIf (tB (tVar 2)) _ _ [some (V.ref p), some (.int ((1 + r1 : Nat) : Int)), some (.bl alike), some (.ref D), none, none] H4 Q
    refine ⟨_, rfl, alike, rfl, ?_⟩
    cases alike with
    | false => exact iteF ⟨_, rfl, k D w H4 k04 hp4 hD0 hd4 hw (by omega) (by omega)⟩
    | true =>
      refine iteT ?_
      have hlen : (tV w).length = w.length := List.length_map ..
      obtain ⟨w0, wr, rfl⟩ : ∃ w0 wr, w = w0 :: wr := by
        cases w with
        | nil => simp at hwl; omega
        | cons a b => exact ⟨a, b, rfl⟩
      have hw0 : nameB w0 = true := List.all_eq_true.mp hw w0 (List.mem_cons_self ..)
      obtain ⟨c, r, rfl, hc, hr3, hrd⟩ := nameB_cons hw0
      let ny : List Nm := ((c :: r) :: wr).map fun n => c :: n.drop 1
      have hnyl : ny.length = ((c :: r) :: wr).length := List.length_map ..
      have hnyw : wordB ny = true := by
        refine List.all_eq_true.mpr fun n hn => ?_
        obtain ⟨m, hm, rfl⟩ := List.mem_map.mp hn
        have hmB := List.all_eq_true.mp hw m hm
        obtain ⟨c2, r2, rfl, hc2, hr2, hrd2⟩ := nameB_cons hmB
        show (decide (c ∈ letters) && decide (r2.length ≤ 3) && r2.all fun d => decide (d ∈ digits)) = true
        rw [decide_eq_true hc, decide_eq_true hr2, List.all_eq_true.mpr fun d hd => decide_eq_true (hrd2 d hd)]
        rfl
      have z : EvL (tLc (iList K (tVar 3)) (gName 5) (tYes) (tOp rAddT (tOp rIxS (tOp (rIxL K) (tVar 3) (tC (.int 0))) (tC (.int 0))) (tSl C8.rSlX (tVar 5) (tPart (tC (.int 1))) tNoPart)) [5]) [some (V.ref p), some (.int ((1 + r1 : Nat) : Int)), some (.bl true), some (.ref D), none, none] H4 (tV ny) :=
        el_mapL (ev_var rfl) (sq_of hd4) (by omega) (by unfold tV; rw [List.length_map, hnyl, List.length_map]) (fun x => rfl) fun i x y H5 e5 hx hy => by
          obtain ⟨n, hn, rfl⟩ := all2_at hx
          have hy2 : (ny.map nV)[i]? = some y := hy
          rw [List.getElem?_map, List.getElem?_map, hn] at hy2
          obtain rfl : nV (c :: n.drop 1) = y := Option.some.inj hy2
          have hnB := List.all_eq_true.mp hw n (List.mem_of_getElem? hn)
          have hnl := nameB_len hnB
          have h1 : Ev (tOp rIxS (tOp (rIxL K) (tVar 3) (tC (.int 0))) (tC (.int 0))) [some (V.ref p), some (.int ((1 + r1 : Nat) : Int)), some (.bl true), some (.ref D), none, some (nV n)] H5 (.str (SX.S [c])) :=
            ev_ixC (w := c :: r) (i := ((0 : Nat) : Int)) (ev_op (ev_var rfl) (ev_c (v := .int ((0 : Nat) : Int))) (rv_ixL (sq_of (e5 D _ hd4)) (atI_nat rfl))) (by simp only [List.length_cons]; omega) (atI_nat rfl)
          have h2 : Ev (tSl C8.rSlX (tVar 5) (tPart (tC (.int 1))) tNoPart) [some (V.ref p), some (.int ((1 + r1 : Nat) : Int)), some (.bl true), some (.ref D), none, some (nV n)] H5 (.str (SX.S (n.drop 1))) :=
            ev_slT (w := n) (ev_var rfl) (eo_some ev_c) eo_none (by omega) (by rw [SX.slice_from (by decide)]; rfl)
          refine ev_op h1 h2 (rv_val fun H6 e6 Q q => ⟨_, _, rfl, rfl, ?_, ?_⟩)
          · rw [lenS, lenS]
            exact sz_of (by simp only [List.length_drop, List.length_cons, List.length_nil]; omega)
          · rw [SX.S_cat]
            exact q
      refine z H4 (Ex.refl H4) _ fun q2 H5 hq2 e5 h5 => k q2 ny H5 (k04.trans (Kp.of e5)) (hp4.ex e5) (k04.none_of hq2) h5 hnyw (by omega) (by omega)
theorem p__law_truths (h : sp__law_truths vs H Q E) : r__law_truths K sp__law_take (ends Q) (start ["_law_purse_here", "_law_many", "_law_k"] vs) H := by
  obtain ⟨p, m, rfl, hp, hm, k⟩ := h
  show tRet (tCB (cTup K) (tCons (tLc (iRng1 (tCons (tVar 1) tNil)) (gName 2) (tYes) (tOp rEq (tCall sp__law_take [] C8.E0 (tCons (tVar 0) (tCons (tC (.int 2)) tNil))) (tC (.int 0))) [2]) tNil)) (ends Q) [some (.ref p), some (.int (m : Nat)), none] H
  show tCB (cTup K) (tCons (tLc (iRng1 (tCons (tVar 1) tNil)) (gName 2) (tYes) (tOp rEq (tCall sp__law_take [] C8.E0 (tCons (tVar 0) (tCons (tC (.int 2)) tNil))) (tC (.int 0))) [2]) tNil) [some (.ref p), some (.int (m : Nat)), none] H Q
  show (tCons (tLc (iRng1 (tCons (tVar 1) tNil)) (gName 2) (tYes) (tOp rEq (tCall sp__law_take [] C8.E0 (tCons (tVar 0) (tCons (tC (.int 2)) tNil))) (tC (.int 0))) [2]) tNil) [some (.ref p), some (.int (m : Nat)), none] H _
  show (tLc (iRng1 (tCons (tVar 1) tNil)) (gName 2) (tYes) (tOp rEq (tCall sp__law_take [] C8.E0 (tCons (tVar 0) (tCons (tC (.int 2)) tNil))) (tC (.int 0))) [2]) [some (.ref p), some (.int (m : Nat)), none] H _
  refine lc_pur (p := p) (n := m) (iv := 1) (jv := 2) (σ := [some (.ref p), some (.int (m : Nat)), none]) rfl (fun x => rfl) (by omega) hp (fun i acc _ => ∃ r : List Bool, acc = bV r) (fun _ _ _ _ _ z => z) (fun _ => ⟨[], rfl⟩) ?_ ?_
  · rintro i acc H4 Q' hi4 k4 hp4 ⟨r, rfl⟩ q
    refine ⟨_, rfl, p, 2, rfl, hp4, by decide, by decide, fun n H5 k5 hp5 hn5 => ⟨rfl, q _ H5 k5 hp5 ⟨r ++ [decide (V.int (n : Int) = V.int 0)], ?_⟩⟩⟩
    unfold bV
    rw [List.map_append]
    rfl
  · rintro D acc H4 k4 hp4 hD hd4 hal ⟨r, rfl⟩
    refine ⟨D, bV r, rfl, .inl ⟨sq_of hd4, fun q hq => ?_⟩⟩
    exact k (.ref q) r _ (k4.new hq) (hp4.ex (Ex.new hq)) ⟨q, rfl, upd_same⟩ (by rw [← hal]; exact (List.length_map ..).symm)
end
end CF

/-! text CfQD -/
set_option Elab.async false
set_option linter.all false
set_option maxRecDepth 100000
set_option maxHeartbeats 4000000
/-! the readings answer the promises: details, steps that are drawn -/
namespace CF
open PySem PySem.Spec PyProof.Rows L2 Evl
section
variable {K : PySem.W.Frag} {mg : Str → Option Value} {vs : List V} {H H' : Hp} {Q : VK} {E : XK} {σ : L2.St} {ta tb : TE} {i j : Int}
theorem take_if {p : Addr} {sm : Bool} {a b : Nat} (h0 : σ[0]? = some (some (.ref p))) (h3 : σ[3]? = some (some (.bl sm))) (hp : Pur H p) (ha : 1 ≤ a) (hab : a ≤ b) (hb : b ≤ 1000) (q : ∀ (r : Nat) H', Kp [p] H H' → Pur H' p → r < b → Q (.int r) H') :
    tCall sp__law_take [] C8.E0 (tCons (tVar 0) (tCons (tIf (tB (tVar 3)) (tC (.int (a : Nat))) (tC (.int (b : Nat)))) tNil)) σ H Q := by
  refine ⟨_, h0, _, h3, sm, rfl, ?_⟩
  cases sm with
  | true => exact iteT ⟨p, a, rfl, hp, ha, by omega, fun r H' k1 k2 k3 => q r H' k1 k2 (by omega)⟩
  | false => exact iteF ⟨p, b, rfl, hp, by omega, hb, fun r H' k1 k2 k3 => q r H' k1 k2 k3⟩
theorem p__law_detail (h : sp__law_detail vs H Q E) : r__law_detail K sp__law_take (ends Q) (start ["_law_purse_here", "_law_tags_here", "_law_label", "_law_small", "_law_by", "_law_many", "_law_k"] vs) H := by
  obtain ⟨p, q, w, lab, rfl, hp, hq, hqp, hw, hw1, hw4, hlab, k⟩ := h
  have z2 : 2 ≤ sizeLine := by decide
  have hwl : (tV w).length = w.length := List.length_map ..
  -- behind the first test: small
  have rest : (lab == "turned") = false → (∀ (sm : Bool) (H1 : Hp), Kp [p] H H1 → Pur H1 p →
      (tSeq (tIfS (tTest (tOp rEq (tVar 2) (tC (.str "every")))) (tSeq (tAsg (tOp rAddI (tC (.int 1)) (tCall sp__law_take [] C8.E0 (tCons (tVar 0) (tCons (tIf (tB (tVar 3)) (tC (.int 3)) (tC (.int 9))) tNil)))) (gName 4)) (tRet (tTup (tCons (tVar 4) (tCons (tCall sp__law_take [] C8.E0 (tCons (tVar 0) (tCons (tIf (tB (tVar 3)) (tC (.int 4)) (tC (.int 10))) tNil))) tNil))))) (tNext)) (tSeq (tIfS (tTest (tOp (rIn K false) (tVar 2) (tLst (tCons (tC (.str "first")) (tCons (tC (.str "skip")) tNil))))) (tRet (tCall sp__law_take [] C8.E0 (tCons (tVar 0) (tCons (tIf (tB (tVar 3)) (tC (.int 4)) (tC (.int 10))) tNil)))) (tNext)) (tSeq (tIfS (tTest (tOp (rIn K false) (tVar 2) (tLst (tCons (tC (.str "last")) (tCons (tC (.str "but last")) tNil))))) (tRet (tOp rAddI (tC (.int 1)) (tCall sp__law_take [] C8.E0 (tCons (tVar 0) (tCons (tIf (tB (tVar 3)) (tC (.int 3)) (tC (.int 9))) tNil))))) (tNext)) (tSeq (tAsg (tOp rAddI (tCall sp__law_take [] C8.E0 (tCons (tVar 0) (tCons (tIf (tB (tVar 3)) (tC (.int 2)) (tC (.int 4))) tNil))) (tCB cInt (tCons (tOp rNe (tVar 2) (tC (.str "each"))) tNil))) (gName 5)) (tRet (tCB (cTup K) (tCons (tLc (iRng1 (tCons (tVar 5) tNil)) (gName 6) (tYes) (tOp (rIxL K) (tVar 1) (tCall sp__law_take [] C8.E0 (tCons (tVar 0) (tCons (tCB (rLen K) (tCons (tVar 1) tNil)) tNil)))) [6]) tNil)))))))
      (ends Q) [some (.ref p), some (.ref q), some (.str lab), some (.bl sm), none, none, none] H1) → r__law_detail K sp__law_take (ends Q) (start ["_law_purse_here", "_law_tags_here", "_law_label", "_law_small", "_law_by", "_law_many", "_law_k"] [.ref p, .ref q, .str lab]) H := by
    intro e1 hr
    refine ⟨_, rfl, rfl, _, rfl, ifF (neS e1) ?_⟩
    exact ⟨_, rfl, p, 3, rfl, hp, by decide, by decide, fun r H1 k1 hp1 hr1 => ⟨_, 0, rfl, rfl, hr _ H1 k1 hp1⟩⟩
  have first_ : (lab == "turned") = false → (lab == "every") = false → inV (.str lab) [.str "first", .str "skip"] = true → (∀ n : Nat, n ≤ 9 → ∃ s : Sg Nm, sgB s = true ∧ Sg.kd s = lab ∧ ∀ H, Det H (.int n) s) → r__law_detail K sp__law_take (ends Q) (start ["_law_purse_here", "_law_tags_here", "_law_label", "_law_small", "_law_by", "_law_many", "_law_k"] [.ref p, .ref q, .str lab]) H := by
    intro e1 e2 e3 mk
    refine rest e1 fun sm H1 k1 hp1 => ?_
    refine ⟨_, rfl, rfl, _, rfl, ifF (neS e2) ?_⟩
    refine ⟨_, rfl, z2, fun x hx => ⟨x, _, rfl, .inl (sq_of upd_same), rfl, rfl, _, rfl, ibT e3 ?_⟩⟩
    refine take_if (a := 4) (b := 10) rfl rfl (hp1.ex (Ex.new hx)) (by decide) (by decide) (by decide) fun r H2 k2 hp2 hr2 => ?_
    obtain ⟨s, h1, h2, h3⟩ := mk r (by omega)
    exact k s _ H2 ((k1.new hx).trans k2) hp2 h1 h2 (h3 H2)
  have last_ : (lab == "turned") = false → (lab == "every") = false → inV (.str lab) [.str "first", .str "skip"] = false → inV (.str lab) [.str "last", .str "but last"] = true → (∀ n : Nat, 1 ≤ n → n ≤ 9 → ∃ s : Sg Nm, sgB s = true ∧ Sg.kd s = lab ∧ ∀ H, Det H (.int n) s) → r__law_detail K sp__law_take (ends Q) (start ["_law_purse_here", "_law_tags_here", "_law_label", "_law_small", "_law_by", "_law_many", "_law_k"] [.ref p, .ref q, .str lab]) H := by
    intro e1 e2 e3 e4 mk
    refine rest e1 fun sm H1 k1 hp1 => ?_
    refine ⟨_, rfl, rfl, _, rfl, ifF (neS e2) ?_⟩
    refine ⟨_, rfl, z2, fun x hx => ⟨x, _, rfl, .inl (sq_of upd_same), rfl, rfl, _, rfl, ibF e3 ?_⟩⟩
    refine ⟨_, rfl, z2, fun y hy => ⟨y, _, rfl, .inl (sq_of upd_same), rfl, rfl, _, rfl, ibT e4 ?_⟩⟩
    refine take_if (a := 3) (b := 9) rfl rfl ((hp1.ex (Ex.new hx)).ex (Ex.new hy)) (by decide) (by decide) (by decide) fun r H2 k2 hp2 hr2 => ⟨1, r, rfl, rfl, ?_⟩
    obtain ⟨s, h1, h2, h3⟩ := mk (1 + r) (by omega) (by omega)
    have := k s _ H2 (((k1.new hx).new hy).trans k2) hp2 h1 h2 (h3 H2)
    rw [show (((1 + r : Nat)) : Int) = 1 + (r : Int) by omega] at this
    exact this
  have word_ : ∀ lo : Nat, lo ≤ 1 → (lab == "turned") = false → (lab == "every") = false → inV (.str lab) [.str "first", .str "skip"] = false → inV (.str lab) [.str "last", .str "but last"] = false → (if (!(lab == "each")) then 1 else 0) = lo → (∀ u : List Nm, wordB u = true → lo ≤ u.length → u.length ≤ 3 + lo → ∃ s : Sg Nm, sgB s = true ∧ Sg.kd s = lab ∧ ∀ H v, Wd H v u → Det H v s) → r__law_detail K sp__law_take (ends Q) (start ["_law_purse_here", "_law_tags_here", "_law_label", "_law_small", "_law_by", "_law_many", "_law_k"] [.ref p, .ref q, .str lab]) H := by
    intro lo hlo e1 e2 e3 e4 e5 mk
    refine rest e1 fun sm H1 k1 hp1 => ?_
    refine ⟨_, rfl, rfl, _, rfl, ifF (neS e2) ?_⟩
    refine ⟨_, rfl, z2, fun x hx => ⟨x, _, rfl, .inl (sq_of upd_same), rfl, rfl, _, rfl, ibF e3 ?_⟩⟩
    refine ⟨_, rfl, z2, fun y hy => ⟨y, _, rfl, .inl (sq_of upd_same), rfl, rfl, _, rfl, ibF e4 ?_⟩⟩
    refine take_if (a := 2) (b := 4) rfl rfl ((hp1.ex (Ex.new hx)).ex (Ex.new hy)) (by decide) (by decide) (by decide) fun r H2 k2 hp2 hr2 => ?_
    have k02 := ((k1.new hx).new hy).trans k2
    refine ⟨_, rfl, rfl, .inr ⟨_, rfl, _, _, rfl, rfl, ?_⟩⟩
    have e6 : (r : Int) + (if (!decide (V.str lab = V.str "each")) = true then 1 else 0) = ((r + lo : Nat) : Int) := by
      rw [← e5]
      cases hl : (lab == "each") with
      | true => rw [decide_eq_true (show V.str lab = V.str "each" by rw [eq_of_beq hl])]; simp
      | false => rw [decide_eq_false (neS hl)]; simp
    show tRet (tCB (cTup K) (tCons (tLc (iRng1 (tCons (tVar 5) tNil)) (gName 6) (tYes) (tOp (rIxL K) (tVar 1) (tCall sp__law_take [] C8.E0 (tCons (tVar 0) (tCons (tCB (rLen K) (tCons (tVar 1) tNil)) tNil)))) [6]) tNil)) (ends Q) [some (.ref p), some (.ref q), some (.str lab), some (.bl sm), none, some (.int ((r : Int) + (if (!decide (V.str lab = V.str "each")) = true then 1 else 0))), none] H2
    rw [e6]
    show tCB (cTup K) (tCons (tLc (iRng1 (tCons (tVar 5) tNil)) (gName 6) (tYes) (tOp (rIxL K) (tVar 1) (tCall sp__law_take [] C8.E0 (tCons (tVar 0) (tCons (tCB (rLen K) (tCons (tVar 1) tNil)) tNil)))) [6]) tNil) [some (.ref p), some (.ref q), some (.str lab), some (.bl sm), none, some (.int ((r + lo : Nat) : Int)), none] H2 Q
    show (tCons (tLc (iRng1 (tCons (tVar 5) tNil)) (gName 6) (tYes) (tOp (rIxL K) (tVar 1) (tCall sp__law_take [] C8.E0 (tCons (tVar 0) (tCons (tCB (rLen K) (tCons (tVar 1) tNil)) tNil)))) [6]) tNil) [some (.ref p), some (.ref q), some (.str lab), some (.bl sm), none, some (.int ((r + lo : Nat) : Int)), none] H2 _
    show tLc (iRng1 (tCons (tVar 5) tNil)) (gName 6) (tYes) (tOp (rIxL K) (tVar 1) (tCall sp__law_take [] C8.E0 (tCons (tVar 0) (tCons (tCB (rLen K) (tCons (tVar 1) tNil)) tNil)))) [6] [some (.ref p), some (.ref q), some (.str lab), some (.bl sm), none, some (.int ((r + lo : Nat) : Int)), none] H2 _
    refine lc_pur (p := p) (n := r + lo) (iv := 5) (jv := 6) (σ := [some (.ref p), some (.ref q), some (.str lab), some (.bl sm), none, some (.int ((r + lo : Nat) : Int)), none]) rfl (fun x => rfl) (by omega) hp2 (fun i acc _ => ∃ u : List Nm, acc = tV u ∧ wordB u = true) (fun _ _ _ _ _ z => z) (fun _ => ⟨[], rfl, rfl⟩) ?_ ?_
    · rintro i acc H4 Q' hi4 k4 hp4 ⟨u, rfl, hu⟩ qq
      have hq4 : H4 q = some (.lst (tV w)) := (k02.trans k4).lst hq hqp
      refine ⟨_, rfl, _, rfl, _, rfl, _, _, rfl, .inl ⟨_, sq_of hq4, rfl⟩, p, w.length, by rw [hwl]; rfl, hp4, hw1, by omega, fun n H5 k5 hp5 hn5 => ?_⟩
      obtain ⟨nm, hnm⟩ := getE (xs := w) (i := n) hn5
      have hnB := List.all_eq_true.mp hw nm (List.mem_of_getElem? hnm)
      refine ⟨q, tV w, (n : Int), nV nm, rfl, rfl, sq_of (k5.lst hq4 hqp), atI_nat (by unfold tV; rw [List.getElem?_map, hnm]; rfl), ?_⟩
      refine qq _ H5 k5 hp5 ⟨u ++ [nm], by rw [tV_app]; rfl, wordB_app hu ?_⟩
      show (nameB nm && true) = true
      rw [hnB]
      rfl
    · rintro D acc H4 k4 hp4 hD hd4 hal ⟨u, rfl, hu⟩
      have hul : u.length = r + lo := by rw [← hal]; exact (List.length_map ..).symm
      refine ⟨D, tV u, rfl, .inl ⟨sq_of hd4, fun x hx => ?_⟩⟩
      obtain ⟨s, h1, h2, h3⟩ := mk u hu (by omega) (by omega)
      exact k s (.ref x) _ ((k02.trans k4).new hx) (hp4.ex (Ex.new hx)) h1 h2 (h3 _ _ ⟨x, rfl, upd_same⟩)
  unfold kinds at hlab
  simp only [List.mem_cons, List.not_mem_nil, or_false] at hlab
  rcases hlab with rfl | rfl | rfl | rfl | rfl | rfl | rfl | rfl | rfl | rfl | rfl
  · exact word_ 0 (by decide) (by decide +kernel) (by decide +kernel) (by decide +kernel) (by decide +kernel) (by decide +kernel) fun u h1 h2 h3 => ⟨.each u, by simp [sgB, h1]; omega, rfl, fun _ _ z => z⟩
  · exact word_ 1 (by decide) (by decide +kernel) (by decide +kernel) (by decide +kernel) (by decide +kernel) (by decide +kernel) fun u h1 h2 h3 => ⟨.keep u, by simp [sgB, h1]; omega, rfl, fun _ _ z => z⟩
  · exact word_ 1 (by decide) (by decide +kernel) (by decide +kernel) (by decide +kernel) (by decide +kernel) (by decide +kernel) fun u h1 h2 h3 => ⟨.drop u, by simp [sgB, h1]; omega, rfl, fun _ _ z => z⟩
  · exact word_ 1 (by decide) (by decide +kernel) (by decide +kernel) (by decide +kernel) (by decide +kernel) (by decide +kernel) fun u h1 h2 h3 => ⟨.whil u, by simp [sgB, h1]; omega, rfl, fun _ _ z => z⟩
  · exact word_ 1 (by decide) (by decide +kernel) (by decide +kernel) (by decide +kernel) (by decide +kernel) (by decide +kernel) fun u h1 h2 h3 => ⟨.from_ u, by simp [sgB, h1]; omega, rfl, fun _ _ z => z⟩
  · exact first_ (by decide +kernel) (by decide +kernel) (by decide +kernel) fun n hn => ⟨.first n, by simp [sgB, hn], rfl, fun _ => rfl⟩
  · exact first_ (by decide +kernel) (by decide +kernel) (by decide +kernel) fun n hn => ⟨.skip n, by simp [sgB, hn], rfl, fun _ => rfl⟩
  · refine rest (by decide +kernel) fun sm H1 k1 hp1 => ?_
    refine ⟨_, rfl, rfl, _, rfl, ifT rfl ?_⟩
    refine take_if (a := 3) (b := 9) rfl rfl hp1 (by decide) (by decide) (by decide) fun r H2 k2 hp2 hr2 => ⟨1, r, rfl, rfl, ?_⟩
    refine ⟨_, rfl, ?_⟩
    refine take_if (a := 4) (b := 10) rfl rfl hp2 (by decide) (by decide) (by decide) fun r2 H3 k3 hp3 hr3 => ⟨z2, fun x hx => ?_⟩
    refine k (.every (1 + r) r2) (.ref x) _ (((k1.trans k2).trans k3).new hx) (hp3.ex (Ex.new hx)) (by simp [sgB]; omega) rfl ⟨x, rfl, ?_⟩
    rw [upd_same]
    rw [show (((1 + r : Nat)) : Int) = 1 + (r : Int) by omega]
  · exact last_ (by decide +kernel) (by decide +kernel) (by decide +kernel) (by decide +kernel) fun n h1 h2 => ⟨.last n, by simp [sgB, h1, h2], rfl, fun _ => rfl⟩
  · exact last_ (by decide +kernel) (by decide +kernel) (by decide +kernel) (by decide +kernel) fun n h1 h2 => ⟨.butl n, by simp [sgB, h1, h2], rfl, fun _ => rfl⟩
  · refine ⟨_, rfl, rfl, _, rfl, ifT rfl ?_⟩
    exact k .turned .non H (Kp.refl _ _) hp rfl rfl rfl
end
end CF

/-! text CfQE -/
set_option Elab.async false
set_option linter.all false
set_option maxRecDepth 100000
set_option maxHeartbeats 4000000
/-! the readings answer the promises: steps that are drawn, stages, flows, atoms of them -/
namespace CF
open PySem PySem.Spec PyProof.Rows L2 Evl
section
variable {K : PySem.W.Frag} {mg : Str → Option Value} {vs : List V} {H H' : Hp} {Q : VK} {E : XK} {σ : L2.St} {ta tb : TE} {i j : Int}
theorem kinds_len : kinds.length = 11 := by decide +kernel
theorem kinds_at {r : Nat} (h : r < 11) : ∃ s, (kinds.map V.str)[r]? = some (.str s) ∧ s ∈ kinds ∧ kinds[r]? = some s := by
  have := kinds_len
  obtain ⟨s, hs⟩ := getE (xs := kinds) (i := r) (by omega)
  exact ⟨s, by rw [List.getElem?_map, hs]; rfl, List.mem_of_getElem? hs, hs⟩
theorem p__law_part (h : sp__law_part vs H Q E) : r__law_part K sp__law_labels sp__law_take sp__law_detail (ends Q) (start ["_law_purse_here", "_law_tags_here", "_law_label", "_law_told"] vs) H := by
  obtain ⟨p, q, w, rfl, hp, hq, hqp, hw, hw1, hw4, k⟩ := h
  have z3 : 3 ≤ sizeLine := by decide
  refine ⟨rfl, fun a H1 e1 ha ha1 => ?_⟩
  have hap : a ≠ p := (hp.ne ha).symm
  refine ⟨_, rfl, p, 11, rfl, hp.ex e1, by decide, by decide, fun r H2 k2 hp2 hr2 => ?_⟩
  obtain ⟨lab, hl1, hl2, hl3⟩ := kinds_at hr2
  refine ⟨a, _, (r : Int), _, rfl, rfl, sq_of (k2.lst ha1 hap), atI_nat hl1, ?_⟩
  have k02 := (Kp.of (S := [p]) e1).trans k2
  refine ⟨_, rfl, _, rfl, _, rfl, p, q, w, lab, rfl, hp2, k02.lst hq hqp, hqp, hw, hw1, hw4, hl2, fun s d H3 k3 hp3 hs1 hs2 hd => ?_⟩
  have k03 := k02.trans k3
  refine ⟨_, rfl, _, rfl, _, rfl, p, 2, rfl, hp3, by decide, by decide, fun r4 H4 k4 hp4 hr4 => ⟨rfl, _, rfl, ?_⟩⟩
  have hd4 := hd.fx (hp3.fx k4)
  have k04 := k03.trans k4
  have fin : ∀ {H5 : Hp} {b : Bool}, Ex H4 H5 → (s.isList = true → b = true) → 3 ≤ sizeLine ∧ ∀ x, H5 x = none → Q (.ref x) (upd H5 x (.tup [.str lab, d, .bl b])) := by
    intro H5 b e5 hb
    refine ⟨z3, fun x hx => ?_⟩
    have e6 : Ex H5 (upd H5 x (.tup [.str lab, d, .bl b])) := Ex.new hx
    refine k ⟨s, b⟩ (.ref x) _ (k04.trans (Kp.of (e5.trans e6))) (hp4.ex (e5.trans e6)) ?_ ⟨x, d, rfl, ?_, hd4.fx (Fx.of (e5.trans e6))⟩
    · unfold stB
      rw [hs1]
      cases hli : s.isList with
      | true => rw [hb hli]; rfl
      | false => rfl
    · rw [upd_same, hs2]
  by_cases hb : V.int (r4 : Int) = V.int 1
  · exact ifT hb (fin (Ex.refl H4) fun _ => rfl)
  · refine ifF hb ⟨_, rfl, z3, fun x hx => ⟨x, _, rfl, .inl (sq_of upd_same), rfl, rfl, ?_⟩⟩
    refine fin (Ex.new hx) fun hli => ?_
    rw [← hs2]
    exact (kinds_list s).trans hli
theorem p__law_asked (h : sp__law_part vs H Q E) : r__law_asked K sp__law_labels sp__law_take sp__law_detail (ends Q) (start ["_law_purse_here", "_law_tags_here", "_law_label", "_law_told"] vs) H := by
  obtain ⟨p, q, w, rfl, hp, hq, hqp, hw, hw1, hw4, k⟩ := h
  have z3 : 3 ≤ sizeLine := by decide
  refine ⟨rfl, fun a H1 e1 ha ha1 => ?_⟩
  have hap : a ≠ p := (hp.ne ha).symm
  refine ⟨_, rfl, p, 8, rfl, hp.ex e1, by decide, by decide, fun r H2 k2 hp2 hr2 => ?_⟩
  obtain ⟨lab, hl1, hl2, hl3⟩ := kinds_at (r := r) (by omega)
  refine ⟨a, _, (r : Int), _, rfl, rfl, sq_of (k2.lst ha1 hap), atI_nat hl1, ?_⟩
  have k02 := (Kp.of (S := [p]) e1).trans k2
  refine ⟨_, rfl, _, rfl, _, rfl, p, q, w, lab, rfl, hp2, k02.lst hq hqp, hqp, hw, hw1, hw4, hl2, fun s d H3 k3 hp3 hs1 hs2 hd => ?_⟩
  have k03 := k02.trans k3
  have hnl : s.isList = false := by
    have hm : lab ∈ kinds.take 8 := by
      have : (kinds.take 8)[r]? = some lab := by rw [List.getElem?_take]; rw [if_pos hr2]; exact hl3
      exact List.mem_of_getElem? this
    have go : ∀ x ∈ kinds.take 8, inV (.str x) [.str "last", .str "but last", .str "turned"] = false := by decide +kernel
    rw [← kinds_list, hs2]
    exact go lab hm
  refine ⟨_, rfl, _, rfl, _, rfl, p, 5, rfl, hp3, by decide, by decide, fun r4 H4 k4 hp4 hr4 => ⟨rfl, z3, fun x hx => ?_⟩⟩
  have hd4 := hd.fx (hp3.fx k4)
  have e6 : Ex H4 (upd H4 x (.tup [.str lab, d, .bl (decide (V.int (r4 : Int) = V.int 0))])) := Ex.new hx
  refine k ⟨s, decide (V.int (r4 : Int) = V.int 0)⟩ (.ref x) _ ((k03.trans k4).trans (Kp.of e6)) (hp4.ex e6) ?_ ⟨x, d, rfl, ?_, hd4.fx (Fx.of e6)⟩
  · unfold stB
    rw [hs1, hnl]
    rfl
  · rw [upd_same, hs2]
theorem part_ix {i : Nat} {v u : V} {st : Step Nm} {n : Nat} {te : TE} (h : Ev te σ H v) (hp : ∃ a d, v = .ref a ∧ H a = some (.tup [.str st.s.kd, d, .bl st.now]) ∧ [V.str st.s.kd, d, .bl st.now][n]? = some u) : Ev (tOp (rIxT K) te (tC (.int (n : Nat)))) σ H u := by
  obtain ⟨a, d, rfl, ha, hn⟩ := hp
  exact ev_op h (ev_c (v := .int (n : Nat))) (rv_ixT (st_of ha) (atI_nat hn))
theorem p__law_stage {gv : List V → List V → List V} (hgv : ∀ a b c d, gv [a, b, c] [d] = [a, b, c, d]) (h : sp__law_stage K vs H Q E) : r__law_stage K (sp_Stage K) gv (ends Q) (start ["_law_part_here"] vs) H := by
  obtain ⟨v, st, rfl, ⟨a, d, rfl, ha, hd⟩, hst, k⟩ := h
  have i0 : ∀ {n : Nat} {u : V}, [V.str st.s.kd, d, .bl st.now][n]? = some u → ∃ p xs, ∃ i : Int, ∃ v : V, V.ref a = .ref p ∧ V.int (n : Nat) = .int i ∧ SqT K H p xs ∧ atI xs i = some v ∧ u = v := fun hn => ⟨a, _, _, _, rfl, rfl, st_of ha, atI_nat hn, rfl⟩
  refine ⟨_, rfl, a, _, ((0 : Nat) : Int), _, rfl, rfl, st_of ha, atI_nat rfl, ?_⟩
  refine ⟨_, rfl, a, _, ((1 : Nat) : Int), _, rfl, rfl, st_of ha, atI_nat rfl, ?_⟩
  refine ⟨_, rfl, a, _, ((2 : Nat) : Int), _, rfl, rfl, st_of ha, atI_nat rfl, rfl, rfl, fun x dx hx hdx hne => ?_⟩
  rw [hgv]
  have eM := mk_fx (o := .own x) (o' := .ins (He.ga K "Stage") dx []) hx hdx
  refine ⟨x, dx, d, st.s, st.now, rfl, upd_same, hd.fx (Fx.of eM), st_sg hst, fun H' kk hs => ⟨rfl, k (.ref x) H' (mk_ex hx hdx kk) ?_⟩⟩
  have hb : (st.now || st.s.isList) = st.now := by
    unfold stB at hst
    rw [Bool.and_eq_true] at hst
    cases h1 : st.now <;> cases h2 : st.s.isList <;> simp_all
  rw [hb] at hs
  exact hs
theorem p__law_flow (h : sp__law_flow K vs H Q E) : r__law_flow K (sp_Flow_of K) (sp__law_stage K) (ends Q) (start ["_law_steps", "_law_part_here"] vs) H := by
  obtain ⟨q, l, rfl, ⟨svs, hq, hal⟩, hst, h8, k⟩ := h
  have hlen := hal.len
  refine ⟨rfl, ?_⟩
  show tCB (cTup K) (tCons (tLc (iList K (tVar 0)) (gName 1) (tYes) (tCall (sp__law_stage K) [] C8.E0 (tCons (tVar 1) tNil)) [1]) tNil) [some (.ref q), none] H _
  show (tCons (tLc (iList K (tVar 0)) (gName 1) (tYes) (tCall (sp__law_stage K) [] C8.E0 (tCons (tVar 1) tNil)) [1]) tNil) [some (.ref q), none] H _
  show tLc (iList K (tVar 0)) (gName 1) (tYes) (tCall (sp__law_stage K) [] C8.E0 (tCons (tVar 1) tNil)) [1] [some (.ref q), none] H _
  refine ⟨_, rfl, q, rfl, ⟨svs, sq_of hq⟩, fun D hD => ?_⟩
  refine lc_list (xs := svs) (fun i H' => Ex H H' ∧ ∃ acc, H' D = some (.lst acc) ∧ All2 (Stg K H') acc (l.take i)) ⟨Ex.new hD, [], upd_same, trivial⟩ (fun i H' _ z => sq_of (z.1 q _ hq)) ?_ ?_
  · rintro i x H' hi ⟨e, acc, hacc, haal⟩
    obtain ⟨st, hs, hx⟩ := hal.at hi
    have hn := haal.len
    rw [List.length_take] at hn
    refine ⟨rfl, _, rfl, x, st, rfl, hx.fx (Fx.of e), hst st (List.mem_of_getElem? hs), fun v H2 e2 hv => ⟨acc, e2 D _ hacc, sz_lt (by omega), Ex.mut (e.trans e2) hD, acc ++ [v], upd_same, ?_⟩⟩
    have fD : Fx H2 (upd H2 D (.lst (acc ++ [v]))) := fxm (e2 D _ hacc) ((Kp.refl _ _).put (by simp))
    rw [take_snoc hs]
    exact (haal.imp fun _ _ z => z.fx ((Fx.of e2).trans fD)).snoc (hv.fx fD)
  · rintro H' ⟨e, acc, hacc, haal⟩
    rw [hlen, List.take_length] at haal
    refine ⟨D, acc, rfl, .inl ⟨sq_of hacc, fun t ht => ?_⟩⟩
    have eT : Ex H' (upd H' t (.tup acc)) := Ex.new ht
    exact ⟨t, acc, l, rfl, upd_same, haal.imp fun _ _ z => z.fx (Fx.of eT), h8, fun a H2 e2 hf => k (.ref a) H2 (e.trans (eT.trans e2)) hf⟩
theorem PaL.ex {q : Addr} {l : List (Step Nm)} (h : PaL H q l) (e : Ex H H') : PaL H' q l := by
  obtain ⟨vs, h1, h2⟩ := h
  exact ⟨vs, e q _ h1, h2.imp fun _ _ z => z.fx (Fx.of e)⟩
theorem atomsGo_len : ∀ (l : List (Step Nm)) (fs : List (List Nm)) (w : List Nm), (atomsGo l fs w).length ≤ fs.length + l.length
  | [], _, _ => Nat.le_refl _
  | st :: r, fs, w => by
    simp only [atomsGo, List.length_cons]
    split
    · split
      · have := atomsGo_len r fs (eachW st.s w); omega
      · rename_i t _ _
        have := atomsGo_len r (fs ++ [t ++ eachW st.s w]) (eachW st.s w)
        rw [List.length_append] at this; simp only [List.length_cons, List.length_nil] at this; omega
    · have := atomsGo_len r fs (eachW st.s w); omega
theorem p__law_few (h : sp__law_few vs H Q E) : r__law_few K sp__law_atoms (ends Q) (start ["_law_steps"] vs) H := by
  obtain ⟨q, l, rfl, hq, hst, h8, k⟩ := h
  refine ⟨fun m σ' H' => Ex H H' ∧ ∃ q l', σ' = [some (.ref q)] ∧ PaL H' q l' ∧ (∀ st ∈ l', stB st = true) ∧ l'.length = m ∧ m ≤ 8, ⟨l.length, Ex.refl H, q, l, rfl, hq, hst, rfl, h8⟩, ?_⟩
  rintro m σ' H' ⟨e, q, l', rfl, hq, hst, hm, hm8⟩
  refine ⟨_, rfl, q, l', rfl, hq, hst, by omega, fun a H1 e1 ⟨o, avs, ha, hc, hd, hal⟩ => ?_⟩
  have hlen := hal.len
  refine ⟨_, (atomsOf l').length, rfl, .inr ⟨avs, .inl (.inr ⟨o, ha⟩), hlen.symm⟩, _, 6, rfl, rfl, _, rfl, ?_⟩
  have hq1 := hq.ex e1
  obtain ⟨svs, hsv, hsal⟩ := id hq1
  have hsl := hsal.len
  refine ite2 (fun hlt => ?_) (fun hlt => ?_)
  · have hlt := of_decide_eq_true hlt
    have hl0 : (atomsOf l').length ≤ l'.length := by have := atomsGo_len l' [] []; simp only [List.length_nil] at this; unfold atomsOf; omega
    refine ⟨fun σ2 H2 => Ex H H2 ∧ ∃ q2 l2, σ2 = [some (.ref q2)] ∧ PaL H2 q2 l2 ∧ (∀ st ∈ l2, stB st = true) ∧ l2.length = m - 1 ∧ m - 1 ≤ 8, fun σ2 H2 ⟨x1, x2⟩ => ⟨m - 1, by omega, x1, x2⟩, ?_⟩
    refine ⟨_, rfl, 1, rfl, -1, rfl, q, svs, rfl, sq_of hsv, fun p hp => ?_⟩
    have ep : Ex H1 (upd H1 p (.lst (cutV svs none (some (-1))))) := Ex.new hp
    have hcut : cutV svs none (some (-1)) = svs.take (svs.length - 1) := by
      unfold cutV
      rw [HT.sIx_none]
      have : HT.sIx svs.length svs.length (some (-1)) = svs.length - 1 := by
        show (if (-1 : Int) < 0 then ((-1 : Int) + (svs.length : Int)).toNat else min (-1 : Int).toNat svs.length) = svs.length - 1
        rw [if_pos (by decide)]
        omega
      rw [this]
      simp
    refine ⟨(e.trans e1).trans ep, p, l'.take (l'.length - 1), rfl, ⟨svs.take (svs.length - 1), by rw [upd_same, hcut], ?_⟩, fun st h => hst st (List.mem_of_mem_take h), by rw [List.length_take]; omega, by omega⟩
    rw [hsl]
    exact (hsal.take _).imp fun _ _ z => z.fx (Fx.of ep)
  · have hlt : ¬ ((6 : Int) < (((atomsOf l').length : Nat) : Int)) := fun z => hlt (decide_eq_true z)
    exact ⟨_, rfl, k q l' H1 (e.trans e1) hq1 hst (by omega) (by omega)⟩
end
end CF

/-! text CfQF -/
set_option Elab.async false
set_option linter.all false
set_option maxRecDepth 100000
set_option maxHeartbeats 4000000
/-! the readings answer the promises: what a flow of told steps asks -/
namespace CF
open PySem PySem.Spec PyProof.Rows L2 Evl
section
variable {K : PySem.W.Frag} {mg : Str → Option Value} {vs : List V} {H H' : Hp} {Q : VK} {E : XK} {σ : L2.St} {ta tb : TE} {i j : Int}
theorem p__law_atoms (h : sp__law_atoms vs H Q E) : r__law_atoms K (ends Q) (start ["_law_steps", "_law_found", "_law_names_here", "_law_part_here"] vs) H := by
  obtain ⟨q, l, rfl, hq, hst, h8, k⟩ := h
  obtain ⟨svs, hsv, hal⟩ := hq
  have z0 : 0 ≤ sizeLine := Nat.zero_le _
  refine ⟨z0, fun F hF => ⟨z0, fun p hp => ⟨_, _, rfl, ?_⟩⟩⟩
  have e1 : Ex H (upd H F (.lst [])) := Ex.new hF
  have e2 : Ex (upd H F (.lst [])) (upd (upd H F (.lst [])) p (.tup [])) := Ex.new hp
  generalize hH1 : upd (upd H F (.lst [])) p (.tup []) = H1 at e2
  have e13 := e1.trans e2
  have hp1 : H1 p = some (.tup []) := by rw [← hH1]; exact upd_same
  have hF1 : H1 F = some (.lst []) := e2 F _ upd_same
  show tSeq (tFor (iList K (tVar 0)) (gName 3) _) _ _ [some (.ref q), some (.ref F), some (.ref p), none] H1
  show tFor (iList K (tVar 0)) (gName 3) _ _ [some (.ref q), some (.ref F), some (.ref p), none] H1
  show iList K (tVar 0) [some (.ref q), some (.ref F), some (.ref p), none] H1 _
  refine ⟨_, rfl, q, rfl, ⟨svs, sq_of (e13 q _ hsv)⟩, ?_⟩
  have hlen := hal.len
  refine for_list (xs := svs) (fun i σ' H' => Ex H H' ∧ ∃ (w : V) (o : Option V) (fvs : List V) (fs : List (List Nm)) (wd : List Nm), σ' = [some (.ref q), some (.ref F), some w, o] ∧ H' F = some (.lst fvs) ∧ All2 (Wd H') fvs fs ∧ Wd H' w wd ∧ fs.length ≤ i ∧ (∀ u ∈ fs, wordB u = true) ∧ wordB wd = true ∧ wd.length ≤ 3 * i ∧ atomsOf l = atomsGo (l.drop i) fs wd) ?_ (fun i σ' H' _ z => sq_of (z.1 q _ hsv)) ?_ ?_
  · exact ⟨e13, .ref p, none, [], [], [], rfl, hF1, trivial, ⟨p, rfl, hp1⟩, by simp, by simp, rfl, by simp, rfl⟩
  · rintro i sv σ' H' hi ⟨e, w, o, fvs, fs, wd, rfl, hfv, hfal, hwd, hfl, hfw, hww, hwl, hgo⟩
    obtain ⟨st, hs, hs0⟩ := hal.at hi
    have hil : i < l.length := (List.getElem?_eq_some_iff.mp hs).1
    obtain ⟨a, d, rfl, ha, hd⟩ := hs0.fx (Fx.of e)
    have hsg := st_sg (hst st (List.mem_of_getElem? hs))
    have hdr : l.drop i = st :: l.drop (i + 1) := by
      rw [List.drop_eq_getElem_cons hil]
      congr 1
      exact (List.getElem?_eq_some_iff.mp hs).2
    rw [hdr] at hgo
    have hel := eachW_len (w := wd) hsg
    have hew := eachW_word hsg hww
    have at0 : ∀ {σ : L2.St} {H3 : Hp}, Ex H' H3 → σ[3]? = some (some (.ref a)) → Ev (tOp (rIxT K) (tVar 3) (tC (.int 0))) σ H3 (.str st.s.kd) := fun e3 hσ => part_ix (i := 0) (n := 0) (ev_var hσ) ⟨a, d, rfl, e3 a _ ha, rfl⟩
    have at1 : ∀ {σ : L2.St} {H3 : Hp}, Ex H' H3 → σ[3]? = some (some (.ref a)) → Ev (tOp (rIxT K) (tVar 3) (tC (.int 1))) σ H3 d := fun e3 hσ => part_ix (i := 0) (n := 1) (ev_var hσ) ⟨a, d, rfl, e3 a _ ha, rfl⟩
    have rest : ∀ {H3 : Hp} {w2 : V}, Ex H' H3 → Wd H3 w2 (eachW st.s wd) → ∀ {D : Ends}, (∀ H4 fvs4 fs4, Ex H H4 → Fx H3 H4 → H4 F = some (.lst fvs4) → All2 (Wd H4) fvs4 fs4 → fs4.length ≤ i + 1 → (∀ u ∈ fs4, wordB u = true) → atomsOf l = atomsGo (l.drop (i + 1)) fs4 (eachW st.s wd) → D.nx [some (.ref q), some (.ref F), some w2, some (.ref a)] H4) →
        tIfS (tAnd (tTest (tOp (rIn K false) (tOp (rIxT K) (tVar 3) (tC (.int 0))) (tLst (tCons (tC (.str "keep")) (tCons (tC (.str "drop")) (tCons (tC (.str "while")) (tCons (tC (.str "from")) tNil))))))) (tTest (tOp (rNotInD K) (tOp (rCatA K) (tOp (rIxT K) (tVar 3) (tC (.int 1))) (tVar 2)) (tVar 1)))) (tDrop (tBM K "list" rAppend (tVar 1) (tCons (tOp (rCatA K) (tOp (rIxT K) (tVar 3) (tC (.int 1))) (tVar 2)) tNil))) (tNext) D [some (.ref q), some (.ref F), some w2, some (.ref a)] H3 := by
      intro H3 w2 e5 hw2 D kD
      have hf3 := e5 F _ hfv
      have hfa3 := hfal.imp fun _ _ z => z.fx (Fx.of e5)
      refine at0 e5 rfl H3 (Ex.refl H3) _ fun H4 e6 => ⟨by show 4 ≤ sizeLine; decide, fun x hx => ⟨x, _, rfl, .inl (sq_of upd_same), rfl, rfl, _, rfl, ?_⟩⟩
      have e7 : Ex H4 (upd H4 x (.lst [.str "keep", .str "drop", .str "while", .str "from"])) := Ex.new hx
      generalize upd H4 x (.lst [.str "keep", .str "drop", .str "while", .str "from"]) = H5 at e7
      have e35 := e6.trans e7
      rw [kinds_test]
      cases htst : tst st.s with
      | none =>
        refine ibF rfl (ibF rfl (kD H5 fvs fs (e.trans (e5.trans e35)) (Fx.of e35) (e35 F _ hf3) (hfa3.imp fun _ _ z => z.fx (Fx.of e35)) (by omega) hfw ?_))
        rw [hgo]
        simp only [atomsGo, htst]
      | some u =>
        obtain ⟨hu1, hu2⟩ := sg_test hsg htst
        have huw : wordB (u ++ eachW st.s wd) = true := wordB_app hu1 hew
        refine ibT rfl ?_
        refine at1 (e5.trans e35) rfl H5 (Ex.refl H5) _ fun H6 e8 => ⟨_, rfl, ?_⟩
        have hdw : Wd H6 d u := det_test htst (hd.fx (Fx.of (e5.trans (e35.trans e8))))
        refine cat_words hdw (hw2.fx (Fx.of (e35.trans e8))) (by omega) fun y H7 e9 hy => ?_
        have e37 := e35.trans (e8.trans e9)
        have hf7 := e37 F _ hf3
        have hfa7 := hfa3.imp fun _ _ z => z.fx (Fx.of e37)
        refine ⟨_, rfl, dW (u ++ eachW st.s wd), fs.map dW, dp_Wd hy, dp_lst (sq_of hf7) hfa7, shaped_dW huw, shaped_all hfw, _, rfl, ?_⟩
        rw [any_dW]
        by_cases hin : u ++ eachW st.s wd ∈ fs
        · refine ibF (by rw [decide_eq_true hin]; rfl) (kD H7 fvs fs (e.trans (e5.trans e37)) (Fx.of e37) hf7 hfa7 (by omega) hfw ?_)
          rw [hgo]
          simp only [atomsGo, htst, if_pos hin]
        · refine ibT (by rw [decide_eq_false hin]; rfl) ?_
          refine ⟨_, rfl, .inl ⟨rfl, fvs, sq_of hf7⟩, ?_⟩
          refine at1 (e5.trans e37) rfl H7 (Ex.refl H7) _ fun H8 e10 => ⟨_, rfl, ?_⟩
          refine cat_words (hdw.fx (Fx.of (e9.trans e10))) (hw2.fx (Fx.of (e37.trans e10))) (by omega) fun y2 H9 e11 hy2 => ?_
          have e79 := e10.trans e11
          have hf9 := e79 F _ hf7
          have hfn := hfal.len
          refine ⟨F, fvs, y2, rfl, rfl, hf9, sz_lt (by omega), ?_⟩
          have fD : Fx H9 (upd H9 F (.lst (fvs ++ [y2]))) := fxm hf9 ((Kp.refl _ _).put (by simp))
          refine kD _ (fvs ++ [y2]) (fs ++ [u ++ eachW st.s wd]) (Ex.mut (e.trans (e5.trans (e37.trans e79))) hF) ((Fx.of (e37.trans e79)).trans fD) upd_same ((hfa7.imp fun _ _ z => (z.fx (Fx.of e79)).fx fD).snoc (hy2.fx fD)) ?_ ?_ ?_
          · rw [List.length_append]; simp; omega
          · intro y hy
            rcases List.mem_append.mp hy with h | h
            · exact hfw y h
            · rw [List.mem_singleton] at h; subst h; exact huw
          · rw [hgo]
            simp only [atomsGo, htst, if_neg hin]
    refine at0 (σ := [some (.ref q), some (.ref F), some w, some (.ref a)]) (Ex.refl H') rfl H' (Ex.refl H') _ fun H3 e5 => ⟨rfl, _, rfl, ?_⟩
    have fin : ∀ {H3 : Hp} {w2 : V}, Wd H3 w2 (eachW st.s wd) → ∀ H4 fvs4 fs4, Ex H H4 → Fx H3 H4 → H4 F = some (.lst fvs4) → All2 (Wd H4) fvs4 fs4 → fs4.length ≤ i + 1 → (∀ u ∈ fs4, wordB u = true) → atomsOf l = atomsGo (l.drop (i + 1)) fs4 (eachW st.s wd) → Ex H H4 ∧ ∃ (w : V) (o : Option V) (fvs : List V) (fs : List (List Nm)) (wd : List Nm), [some (.ref q), some (.ref F), some w2, some (.ref a)] = [some (.ref q), some (.ref F), some w, o] ∧ H4 F = some (.lst fvs) ∧ All2 (Wd H4) fvs fs ∧ Wd H4 w wd ∧ fs.length ≤ i + 1 ∧ (∀ u ∈ fs, wordB u = true) ∧ wordB wd = true ∧ wd.length ≤ 3 * (i + 1) ∧ atomsOf l = atomsGo (l.drop (i + 1)) fs wd :=
      fun hw2 H4 fvs4 fs4 e6 f6 a0 a1 a2 a3 a4 => ⟨e6, _, _, fvs4, fs4, eachW st.s wd, rfl, a0, a1, hw2.fx f6, a2, a3, hew, by omega, a4⟩
    by_cases hea : st.s.kd = "each"
    · refine ifT (by rw [hea]) ?_
      obtain ⟨ew, hes⟩ : ∃ ew, st.s = .each ew := by
        have ne : ∀ x ∈ (["keep", "drop", "while", "from", "first", "skip", "every", "last", "but last", "turned"] : List Str), x ≠ "each" := by decide +kernel
        cases hc : st.s with
        | each ew => exact ⟨ew, rfl⟩
        | _ => rw [hc] at hea; exact absurd hea (ne _ (by simp [Sg.kd]))
      refine at1 (σ := [some (.ref q), some (.ref F), some w, some (.ref a)]) e5 rfl H3 (Ex.refl H3) _ fun H4 e6 => ⟨w, rfl, ?_⟩
      have hd' : Wd H4 d ew := by have := hd.fx (Fx.of (e5.trans e6)); rw [hes] at this; exact this
      have hel2 : ew.length ≤ 3 := by
        rw [hes] at hsg
        simp only [sgB, Bool.and_eq_true, decide_eq_true_eq] at hsg
        exact hsg.2
      refine cat_words hd' (hwd.fx (Fx.of (e5.trans e6))) (by omega) fun w2 H5 e7 hw2 => ?_
      have e35 := e5.trans (e6.trans e7)
      have hw2' : Wd H5 w2 (eachW st.s wd) := by rw [hes]; exact hw2
      exact rest e35 hw2' (fin hw2')
    · refine ifF (fun z => hea (V.str.inj z)) ?_
      have hsame : eachW st.s wd = wd := by
        cases hc : st.s with
        | each ew => rw [hc] at hea; exact absurd rfl hea
        | _ => rfl
      have hw2' : Wd H3 w (eachW st.s wd) := by rw [hsame]; exact hwd.fx (Fx.of e5)
      exact rest e5 hw2' (fin hw2')
  · rintro σ' H' ⟨e, w, o, fvs, fs, wd, rfl, hfv, hfal, hwd, hfl, hfw, hww, hwl, hgo⟩
    rw [hlen, List.drop_length] at hgo
    have : atomsOf l = fs := hgo
    refine ⟨_, rfl, F, fvs, rfl, sq_of hfv, fun x o hx ho1 ho2 => ?_⟩
    have e3 : Ex H' (upd H' x (.frz o (.tup fvs))) := Ex.new hx
    refine k x _ (e.trans e3) ⟨o, fvs, upd_same, ho1, ho2, ?_⟩
    rw [this]
    exact hfal.imp fun _ _ z => z.fx (Fx.of e3)
end
end CF

/-! text CfQG -/
set_option Elab.async false
set_option linter.all false
set_option maxRecDepth 100000
set_option maxHeartbeats 4000000
/-! the readings answer the promises: a flow that can be played -/
namespace CF
open PySem PySem.Spec PyProof.Rows L2 Evl
section
variable {K : PySem.W.Frag} {mg : Str → Option Value} {vs : List V} {H H' : Hp} {Q : VK} {E : XK} {σ : L2.St} {ta tb : TE} {i j : Int}
theorem PaL.ne {q p : Addr} {l : List (Step Nm)} (h : PaL H q l) (hp : Pur H p) : q ≠ p := fun e => by
  obtain ⟨vs, h1, h2⟩ := h
  obtain ⟨a, b, c, h3, _⟩ := hp
  rw [e, h3] at h1
  cases h1
  cases l with
  | nil => exact h2
  | cons x r =>
    obtain ⟨a, d, z, _⟩ := h2.1
    cases z
theorem p__law_playable (h : sp__law_playable vs H Q E) : r__law_playable K sp__law_take sp__law_tags sp__law_few sp__law_part sp__law_part (ends Q) (start ["_law_purse_here", "_law_tags_here", "_law_many", "_law_k"] vs) H := by
  obtain ⟨p, rfl, hp, k⟩ := h
  refine ⟨_, rfl, p, rfl, hp, fun q w H1 k1 hp1 hq0 hq1 hw hw1 hw4 => ⟨_, rfl, p, 9, rfl, hp1, by decide, by decide, fun r H2 k2 hp2 hr2 => ⟨by show 2 ≤ sizeLine; decide, fun t ht => ⟨t, _, rfl, st_of upd_same, rfl, _, _, rfl, _, _, rfl, rfl, ?_⟩⟩⟩⟩
  have e3 : Ex H2 (upd H2 t (.tup [.ref q, .int (r : Nat)])) := Ex.new ht
  generalize hH3 : upd H2 t (.tup [.ref q, .int (r : Nat)]) = H3 at e3
  have hqp : q ≠ p := (hp.ne hq0).symm
  have hq3 : H3 q = some (.lst (tV w)) := e3 q _ (k2.lst hq1 hqp)
  have hp3 := hp2.ex e3
  have k03 : Kp [p] H H3 := (k1.trans k2).trans (Kp.of e3)
  refine ⟨_, rfl, p, 2, rfl, hp3, by decide, by decide, fun r4 H4 k4 hp4 hr4 => ⟨rfl, _, rfl, ?_⟩⟩
  have hq4 : H4 q = some (.lst (tV w)) := k4.lst hq3 hqp
  have go : tLc (iRng1 (tCons (tVar 2) tNil)) (gName 3) tYes (tCall sp__law_part [] C8.E0 (tCons (tVar 0) (tCons (tVar 1) tNil))) [3] [some (.ref p), some (.ref q), some (.int (r : Nat)), none] H4 fun x H5 => sp__law_few [x] H5 Q E := by
    refine lc_pur (p := p) (n := r) (iv := 2) (jv := 3) (σ := [some (.ref p), some (.ref q), some (.int (r : Nat)), none]) rfl (fun x => rfl) (by omega) hp4 (fun i acc H' => ∃ l, All2 (Part H') acc l ∧ (∀ st ∈ l, stB st = true) ∧ acc.length = i) (fun i acc H1 H2 f ⟨l, z1, z2, z3⟩ => ⟨l, z1.imp fun _ _ z => z.fx f, z2, z3⟩) (fun _ => ⟨[], trivial, by simp, rfl⟩) ?_ ?_
    · rintro i acc H5 Q' hi k5 hp5 ⟨l, hal, hst, hai⟩ qq
      refine ⟨_, rfl, _, rfl, p, q, w, rfl, hp5, k5.lst hq4 hqp, hqp, hw, hw1, hw4, fun st v H6 k6 hp6 hst6 hv6 => qq v H6 k6 hp6 ⟨l ++ [st], (hal.imp fun _ _ z => z.fx (hp5.fx k6)).snoc hv6, ?_, by rw [List.length_append, hai]; rfl⟩⟩
      intro y hy
      rcases List.mem_append.mp hy with h | h
      · exact hst y h
      · rw [List.mem_singleton] at h; subst h; exact hst6
    · rintro D acc H5 k5 hp5 hD hd5 hal5 ⟨l, hal, hst, hai⟩
      have hll := hal.len
      refine ⟨D, l, rfl, ⟨acc, hd5, hal⟩, hst, by omega, fun q' l' H6 e6 hq6 hst6 h8 ha6 => ?_⟩
      have hp6 := hp5.ex e6
      exact k q' l' H6 (((k03.trans k4).trans k5).trans (Kp.of e6)) hp6 hq6 (hq6.ne hp6) hst6 h8 ha6
  by_cases hb : V.int (r4 : Int) = V.int 0
  · exact ifT hb go
  · exact ifF hb go
end
end CF

/-! text CfQH -/
set_option Elab.async false
set_option linter.all false
set_option maxRecDepth 100000
set_option maxHeartbeats 4000000
/-! terms as texts: cut at each bracket -/
namespace CF
open PySem PySem.Spec PyProof.Rows L2 Evl
theorem name_free {n : Nm} (h : nameB n = true) : ∀ c ∈ n, 48 ≤ c ∧ c ≤ 122 ∧ c ≠ 120 := by
  match n, h with
  | c :: r, h =>
    have h : (decide (c ∈ letters) && decide (r.length ≤ 3) && r.all fun d => decide (d ∈ digits)) = true := h
    simp only [Bool.and_eq_true, decide_eq_true_eq, List.all_eq_true] at h
    have l1 : ∀ c ∈ letters, 48 ≤ c ∧ c ≤ 122 ∧ c ≠ 120 := by decide +kernel
    have l2 : ∀ c ∈ digits, 48 ≤ c ∧ c ≤ 122 ∧ c ≠ 120 := by decide +kernel
    intro d hd
    rcases List.mem_cons.mp hd with rfl | hd
    · exact l1 _ h.1.1
    · exact l2 _ (h.2 d hd)
theorem word_free {w : List Nm} (h : wordB w = true) : ∀ n ∈ w, ∀ c ∈ n, 48 ≤ c ∧ c ≤ 122 ∧ c ≠ 120 := fun n hn => name_free (List.all_eq_true.mp h n hn)
theorem applL_join : ∀ (w : List Nm) (y R : List Nat), applL w y ++ R = TL.joinL [40] (w ++ [y ++ (List.replicate w.length 41 ++ R)])
  | [], y, R => rfl
  | n :: w, y, R => by
    have ih := applL_join w y ([41] ++ R)
    have e : applL (n :: w) y ++ R = n ++ ([40] ++ (applL w y ++ ([41] ++ R))) := by
      show (n ++ ([40] ++ (applL w y ++ [41]))) ++ R = _
      simp [List.append_assoc]
    have e2 : List.replicate w.length 41 ++ ([41] ++ R) = List.replicate (n :: w).length 41 ++ R := by
      rw [← List.append_assoc, List.length_cons, List.replicate_succ']
    rw [e, ih, e2]
    cases w with
    | nil => rfl
    | cons m r => rfl
theorem appl_spl {w : List Nm} {y R : List Nat} (h : wordB w = true) (hy : 40 ∉ y) (hR : 40 ∉ R) : TL.spl [40] 0 [] (applL w y ++ R) = w ++ [y ++ (List.replicate w.length 41 ++ R)] := by
  rw [applL_join]
  refine TL.spl_join (by simp) fun p hp => ?_
  rcases List.mem_append.mp hp with hp | hp
  · intro h4
    have := word_free h p hp 40 h4
    omega
  · rw [List.mem_singleton] at hp
    subst hp
    intro h4
    rcases List.mem_append.mp h4 with h4 | h4
    · exact hy h4
    · rcases List.mem_append.mp h4 with h4 | h4
      · have := (List.mem_replicate.mp h4).2
        omega
      · exact hR h4
theorem term_spl {i : Nat} {w : List Nm} (h : wordB w = true) (hi : i ≤ 9) : Txt.split (SX.S (termL (i, w))) "(" = (w ++ [[120, 48 + i] ++ List.replicate w.length 41]).map SX.S := by
  have e : ("(" : Str) = SX.S [40] := by decide +kernel
  rw [e, SX.split_S (by simp) (by decide +kernel)]
  have := appl_spl (R := []) (y := [120, 48 + i]) h (by simp; omega) (by simp)
  rw [List.append_nil, List.append_nil] at this
  rw [show termL (i, w) = applL w [120, 48 + i] from rfl, this]
theorem repl_rep : ∀ k : Nat, StrLaws.replL [41] [] (List.replicate k 41) = []
  | 0 => StrLaws.replL_nil
  | k + 1 => by
    rw [List.replicate_succ, StrLaws.replL_hit (by simp) rfl]
    exact repl_rep k
theorem last_num {i k : Nat} (hi : i ≤ 9) : Txt.replace (SX.S ([120, 48 + i] ++ List.replicate k 41)) ")" "" = SX.S [120, 48 + i] := by
  refine TL.ext_tl ?_
  show (Txt.replace _ _ _).cps.toList = _
  rw [StrLaws.replace_list (by decide +kernel)]
  show StrLaws.replL [41] [] (120 :: (48 + i) :: List.replicate k 41) = [120, 48 + i]
  rw [StrLaws.replL_miss (by simp), StrLaws.replL_miss (by simp; omega), repl_rep]
theorem int_one {i : Nat} (hi : i ≤ 9) : intText? (SX.S [48 + i]) = some ((i : Nat) : Int) := by
  rw [SX.int_S (by simp; omega) (by simp) (by simp)]
  have : i = 0 ∨ i = 1 ∨ i = 2 ∨ i = 3 ∨ i = 4 ∨ i = 5 ∨ i = 6 ∨ i = 7 ∨ i = 8 ∨ i = 9 := by omega
  rcases this with rfl | rfl | rfl | rfl | rfl | rfl | rfl | rfl | rfl | rfl <;> decide +kernel
theorem term_code : ∀ {w : List Nm} {y : List Nat}, wordB w = true → (∀ c ∈ y, c < 128) → ∀ c ∈ applL w y, c < 128
  | [], y, _, hy => hy
  | n :: w, y, h, hy => by
    have h' : (nameB n && wordB w) = true := h
    rw [Bool.and_eq_true] at h'
    intro c hc
    rw [applL_cons] at hc
    simp only [List.mem_append, List.mem_singleton] at hc
    rcases hc with hc | hc | hc | hc
    · have := name_free h'.1 c hc; omega
    · omega
    · exact term_code h'.2 hy c hc
    · omega
end CF

/-! text CfSpD -/
set_option Elab.async false
set_option linter.all false
set_option maxRecDepth 100000
set_option maxHeartbeats 2000000
/-! what the law's own defs promise: a text carried out -/
namespace CF
open PySem PySem.Spec PyProof.Rows L2 Evl
/-- the list of what a play is told: calls, atoms, rows -/
def LPl (H : Hp) (pl c : Addr) (ats : List (List Nm)) (rows : List (List Bool)) : Prop := ∃ a rv, H pl = some (.lst [.ref c, .ref a, rv]) ∧ AtF H a ats ∧ Rws H rv rows ∧ pl ≠ c
/-- conditions: names, what is wanted -/
def Tst (H : Hp) (v : V) (l : List (List Nm × Bool)) : Prop := ∃ a vs, v = .ref a ∧ H a = some (.lst vs) ∧ All2 (fun v (p : List Nm × Bool) => ∃ t nv, v = V.ref t ∧ H t = some (.tup [nv, .bl p.2]) ∧ Wd H nv p.1) vs l
/-- a source over another -/
inductive Nd where
  | isl (stop : Option Nat) (step cnt nxt : Nat)
  | tak (u : List Nm)
  | drp (u : List Nm) (op : Bool)
  | row (cd : Option (List Nm × Bool)) (w : List Nm)
def optV : Option Nat → V
  | none => .non
  | some n => .int n
def Nd.vals (src tv nv : V) : Nd → List V
  | .isl stop step cnt nxt => [.str "islice", src, .int cnt, .int nxt, optV stop, .int step]
  | .tak _ => [.str "takewhile", src, tv, .bl false]
  | .drp _ op => [.str "dropwhile", src, tv, .bl op]
  | .row _ _ => [.str "rows", src, tv, nv]
def Nd.tr (T : Nat → List Nm → Bool) : Nd → Tr Nm → Tr Nm
  | .isl stop step cnt nxt, t => islT stop step cnt nxt t.1 t.2
  | .tak u, t => takT T u t.1 t.2
  | .drp u op, t => if op = true then t else drpT T u t.1 t.2
  | .row cd w, t => rowT T cd w t.1 t.2
def Nd.word (wd : List Nm) : Nd → List Nm
  | .row _ w => w ++ wd
  | _ => wd
def uOk (ats : List (List Nm)) (wd u : List Nm) : Prop := wordB u = true ∧ 1 ≤ u.length ∧ u.length ≤ 4 ∧ u ++ wd ∈ ats
def Nd.Ok (B : Hp) (ats : List (List Nm)) (wd : List Nm) (tv nv : V) : Nd → Prop
  | .isl _ _ _ _ => True
  | .tak u => Tst B tv [(u, true)] ∧ uOk ats wd u
  | .drp u _ => Tst B tv [(u, true)] ∧ uOk ats wd u
  | .row cd w => Tst B tv cd.toList ∧ Wd B nv w ∧ wordB w = true ∧ w.length ≤ 3 ∧ (∀ p, cd = some p → uOk ats wd p.1 ∧ w = [])
/-- what a source at a, over the sources at ps, will still give: a trace; at most n values, b calls; the values' word -/
def RepS (B H : Hp) (ats : List (List Nm)) (rows : List (List Bool)) : Addr → List Addr → Tr Nm → Nat → Nat → List Nm → Prop
  | a, [], t, n, _, wd => ∃ L xs, ∃ pos : Nat, H a = some (.lst [.str "list", .ref L, .int pos]) ∧ B L = some (.lst (cV xs)) ∧ t = ofVals (xs.drop pos) ∧ xs.length - pos ≤ n ∧ ∀ x ∈ xs, x.2 = wd ∧ x.1 < rows.length
  | a, p :: ps, t, n, b, wd => ∃ (nd : Nd) (tv nv : V) (t0 : Tr Nm) (n0 b0 : Nat) (wd0 : List Nm), RepS B H ats rows p ps t0 n0 b0 wd0 ∧ H a = some (.lst (nd.vals (.ref p) tv nv)) ∧ t = nd.tr (truthOf ats rows) t0 ∧ nd.Ok B ats wd0 tv nv ∧ n0 ≤ n ∧ b0 + 4 * n0 ≤ b ∧ wd = nd.word wd0
/-- a source in its play: what holds at a call -/
structure Src (B H : Hp) (pl c : Addr) (ats : List (List Nm)) (rows : List (List Bool)) (a : Addr) (ps : List Addr) (t : Tr Nm) (n b : Nat) (wd : List Nm) (cs : List (Tm Nm)) : Prop where
  play : LPl B pl c ats rows
  wb : WB ats rows
  ex : Ex B H
  out : ∀ x ∈ c :: a :: ps, B x = none
  nd : (c :: a :: ps).Nodup
  rep : RepS B H ats rows a ps t n b wd
  calls : H c = some (.lst (cV cs))
  few : cs.length + b ≤ 40000
  word : wordB wd = true
  len : wd.length ≤ 30
/-- an answer with one value -/
def Gives (B H H' : Hp) (c : Addr) (ats : List (List Nm)) (rows : List (List Bool)) (a : Addr) (ps : List Addr) (n b : Nat) (wd : List Nm) (cs cl : List (Tm Nm)) (x : Tm Nm) (t' : Tr Nm) (r : Addr) : Prop :=
  ∃ n' b', Kp (c :: a :: ps) H H' ∧ H r = none ∧ H' r = some (.lst [nV (termL x)]) ∧ H' c = some (.lst (cV (cs ++ cl))) ∧ RepS B H' ats rows a ps t' n' b' wd ∧ n' + 1 ≤ n ∧ b' + cl.length ≤ b ∧ x.2 = wd ∧ x.1 < rows.length
/-- an answer with none -/
def Ends0 (H H' : Hp) (c a : Addr) (ps : List Addr) (b : Nat) (cs tl : List (Tm Nm)) (r : Addr) : Prop :=
  Kp (c :: a :: ps) H H' ∧ H r = none ∧ H' r = some (.lst []) ∧ H' c = some (.lst (cV (cs ++ tl))) ∧ tl.length ≤ b
section
variable (K : PySem.W.Frag)
def sp__law_answer : Sp := fun vs H Q _ => ∃ pl c ats rows n t cs, vs = [.ref pl, nV n, nV t] ∧ LPl H pl c ats rows ∧ n.length ≤ 4 ∧ t.length ≤ 1000 ∧ H c = some (.lst (cs.map nV)) ∧ cs.length ≤ 50000 ∧
  ∀ H', Kp [c] H H' → H' c = some (.lst ((cs ++ [n ++ ([40] ++ (t ++ [41]))]).map nV)) → Q (nV (n ++ ([40] ++ (t ++ [41])))) H'
def sp__law_apply : Sp := fun vs H Q _ => ∃ pl c ats rows nv ns x cs, vs = [.ref pl, nv, nV (termL x)] ∧ LPl H pl c ats rows ∧ Wd H nv ns ∧ wordB ns = true ∧ ns.length ≤ 4 ∧ wordB x.2 = true ∧ x.2.length ≤ 60 ∧ H c = some (.lst (cV cs)) ∧ cs.length ≤ 40500 ∧
  ∀ H', Kp [c] H H' → H' c = some (.lst (cV (cs ++ behC x.1 ns x.2))) → Q (nV (termL (x.1, ns ++ x.2))) H'
def sp__law_truth : Sp := fun vs H Q _ => ∃ pl c ats rows i w, vs = [.ref pl, nV (termL (i, w))] ∧ LPl H pl c ats rows ∧ WB ats rows ∧ w ∈ ats ∧ i < rows.length ∧ ∀ H', Ex H H' → Q (.bl (truthOf ats rows i w)) H'
/-- one condition at most: what it calls, what it answers -/
def cdC (x : Tm Nm) : Option (List Nm × Bool) → List (Tm Nm)
  | none => []
  | some p => behC x.1 p.1 x.2
def cdB (T : Nat → List Nm → Bool) (x : Tm Nm) : Option (List Nm × Bool) → Bool
  | none => true
  | some p => decide (T x.1 (p.1 ++ x.2) = p.2)
def sp__law_passes : Sp := fun vs H Q _ => ∃ pl c ats rows tv cd x cs, vs = [.ref pl, tv, nV (termL x)] ∧ LPl H pl c ats rows ∧ WB ats rows ∧ Tst H tv (Option.toList cd) ∧ (∀ p, cd = some p → uOk ats x.2 p.1) ∧ wordB x.2 = true ∧ x.2.length ≤ 30 ∧ x.1 < rows.length ∧ H c = some (.lst (cV cs)) ∧ cs.length ≤ 40500 ∧
  ∀ H', Kp [c] H H' → H' c = some (.lst (cV (cs ++ cdC x cd))) → Q (.bl (cdB (truthOf ats rows) x cd)) H'
def sp__law_pull (d : Nat) : Sp := fun vs H Q _ => ∃ B pl c ats rows a ps t n b wd cs, vs = [.ref pl, .ref a] ∧ Src B H pl c ats rows a ps t n b wd cs ∧ ps.length < d ∧
  (∀ cl x ev, t.1 = (cl, x) :: ev → ∀ r H', Gives B H H' c ats rows a ps n b wd cs cl x (ev, t.2) r → Q (.ref r) H') ∧ (t.1 = [] → ∀ r H', Ends0 H H' c a ps b cs t.2 r → Q (.ref r) H')
/-- .. of an islice -/
def sp__law_pull_slice (d : Nat) : Sp := fun vs H Q _ => ∃ B pl c ats rows a ps t n b wd cs, vs = [.ref pl, .ref a] ∧ Src B H pl c ats rows a ps t n b wd cs ∧ ps.length < d ∧
  (∃ src stop cnt nxt step, H a = some (.lst [.str "islice", src, .int (cnt : Nat), .int (nxt : Nat), optV stop, .int (step : Nat)])) ∧
  (∀ cl x ev, t.1 = (cl, x) :: ev → ∀ r H', Gives B H H' c ats rows a ps n b wd cs cl x (ev, t.2) r → Q (.ref r) H') ∧ (t.1 = [] → ∀ r H', Ends0 H H' c a ps b cs t.2 r → Q (.ref r) H')
/-- all that a source gives -/
def sp__law_all (d : Nat) : Sp := fun vs H Q _ => ∃ B pl c ats rows a ps t n b wd cs, vs = [.ref pl, .ref a] ∧ Src B H pl c ats rows a ps t n b wd cs ∧ ps.length < d ∧ n ≤ 1000 ∧
  ∀ q H', Kp (c :: a :: ps) H H' → H q = none → H' q = some (.lst (cV (flat t).1)) → H' c = some (.lst (cV (cs ++ (flat t).2))) → (flat t).1.length ≤ n → (flat t).2.length ≤ b → (∀ x ∈ (flat t).1, x.2 = wd ∧ x.1 < rows.length) → Q (.ref q) H'
end
end CF

/-! text CfQI -/
set_option Elab.async false
set_option linter.all false
set_option maxRecDepth 100000
set_option maxHeartbeats 4000000
/-! the readings answer the promises: what a play is told and tells -/
namespace CF
open PySem PySem.Spec PyProof.Rows L2 Evl
section
variable {K : PySem.W.Frag} {mg : Str → Option Value} {vs : List V} {H H' : Hp} {Q : VK} {E : XK} {σ : L2.St} {ta tb : TE}
theorem AtF.fx {a : Addr} {l : List (List Nm)} (h : AtF H a l) (e : Fx H H') : AtF H' a l := by
  obtain ⟨o, vs, h1, h2, h3, h4⟩ := h
  exact ⟨o, vs, e a _ h1 rfl, h2, h3, h4.imp fun _ _ z => z.fx e⟩
theorem LPl.ex {pl c : Addr} {ats : List (List Nm)} {rows : List (List Bool)} (h : LPl H pl c ats rows) (e : Ex H H') : LPl H' pl c ats rows := by
  obtain ⟨a, rv, h1, h2, h3, h4⟩ := h
  exact ⟨a, rv, e pl _ h1, h2.fx (Fx.of e), h3.fx (Fx.of e), h4⟩
theorem LPl.kp {pl c : Addr} {ats : List (List Nm)} {rows : List (List Bool)} {xs : List V} (h : LPl H pl c ats rows) (hc : H c = some (.lst xs)) (k : Kp [c] H H') : LPl H' pl c ats rows := by
  obtain ⟨a, rv, h1, h2, h3, h4⟩ := h
  have f := fxm hc k
  exact ⟨a, rv, k.keep pl _ h1 (by simpa using h4), h2.fx f, h3.fx f, h4⟩
theorem ev_cat {a b : List Nat} (ha : Ev ta σ H (.str (SX.S a))) (hb : Ev tb σ H (.str (SX.S b))) (hl : a.length + b.length ≤ 100000) : Ev (tOp rAddT ta tb) σ H (.str (SX.S (a ++ b))) :=
  ev_op ha hb (rv_val fun H6 e6 Q q => ⟨_, _, rfl, rfl, by rw [lenS, lenS]; exact sz_of hl, by rw [SX.S_cat]; exact q⟩)
theorem ev_call_text {n t : List Nat} (h1 : σ[1]? = some (some (nV n))) (h2 : σ[2]? = some (some (nV t))) (hn : n.length ≤ 4) (ht : t.length ≤ 1000) :
    Ev (tOp rAddT (tOp rAddT (tOp rAddT (tVar 1) (tC (.str "("))) (tVar 2)) (tC (.str ")"))) σ H (nV (n ++ ([40] ++ (t ++ [41])))) := by
  have e : n ++ ([40] ++ (t ++ [41])) = ((n ++ [40]) ++ t) ++ [41] := by simp
  rw [e]
  have c1 : ("(" : Str) = SX.S [40] := by decide +kernel
  have c2 : (")" : Str) = SX.S [41] := by decide +kernel
  rw [c1, c2]
  exact ev_cat (ev_cat (ev_cat (ev_var h1) ev_c (by simp; omega)) (ev_var h2) (by simp; omega)) ev_c (by simp; omega)
theorem p__law_answer (h : sp__law_answer vs H Q E) : r__law_answer K (ends Q) (start ["_law_play_here", "_law_tag", "_law_thing"] vs) H := by
  obtain ⟨pl, c, ats, rows, n, t, cs, rfl, hpl, hn, ht, hc, hcs, k⟩ := h
  obtain ⟨a, rv, h1, h2, h3, h4⟩ := hpl
  refine ⟨_, rfl, pl, _, ((0 : Nat) : Int), _, rfl, rfl, sq_of h1, atI_nat rfl, .inl ⟨rfl, _, sq_of hc⟩, ?_⟩
  refine ev_call_text (σ := [some (.ref pl), some (nV n), some (nV t)]) rfl rfl hn ht H (Ex.refl H) _ fun H1 e1 => ⟨c, cs.map nV, _, rfl, rfl, e1 c _ hc, by rw [List.length_map]; exact sz_lt (by omega), ?_⟩
  refine ev_call_text (σ := [some (.ref pl), some (nV n), some (nV t)]) rfl rfl hn ht _ (Ex.refl _) _ fun H2 e2 => ?_
  refine k H2 (((Kp.of e1).put (by simp)).trans (Kp.of e2)) (e2 c _ ?_)
  rw [upd_same, List.map_append]
  rfl
theorem term_len {t : Tm Nm} {n : Nat} (h : wordB t.2 = true) (hn : t.2.length ≤ n) : (termL t).length ≤ 6 * n + 2 := by
  have := applL_len [120, 48 + t.1] h
  unfold termL
  simp only [List.length_cons, List.length_nil] at this
  omega
theorem nameB_len4 {n : Nm} (h : nameB n = true) : n.length ≤ 4 := nameB_len h
theorem cV_app (a b : List (Tm Nm)) : cV (a ++ b) = cV a ++ cV b := List.map_append
theorem map_snoc_term (cs : List (Tm Nm)) (y : List Nat) : (cs.map termL ++ [y]).map nV = cV cs ++ [nV y] := by
  rw [List.map_append, List.map_map]
  rfl
theorem cut_but1 (xs : List V) : cutV xs none (some (-1)) = xs.take (xs.length - 1) := by
  unfold cutV
  rw [HT.sIx_none]
  have : HT.sIx xs.length xs.length (some (-1)) = xs.length - 1 := by
    show (if (-1 : Int) < 0 then ((-1 : Int) + (xs.length : Int)).toNat else min (-1 : Int).toNat xs.length) = xs.length - 1
    rw [if_pos (by decide)]
    omega
  rw [this]
  simp
theorem cut_snoc (xs : List V) (y : V) : cutV (xs ++ [y]) none (some (-1)) = xs := by
  rw [cut_but1, List.length_append]
  exact List.take_left
theorem p__law_apply (h : sp__law_apply vs H Q E) : r__law_apply K sp__law_answer (ends Q) (start ["_law_play_here", "_law_names_here", "_law_thing", "_law_tag"] vs) H := by
  obtain ⟨pl, c, ats, rows, nv, ns, x, cs, rfl, hpl, hnv, hns, hn4, hxw, hxl, hc, hcs, k⟩ := h
  obtain ⟨na, rfl, hna⟩ := hnv
  have hln : (tV ns).length = ns.length := List.length_map ..
  refine ⟨_, rfl, na, _, rfl, st_of hna, fun r hr => ⟨r, rfl, ⟨_, st_of upd_same⟩, ?_⟩⟩
  have e1 : Ex H (upd H r (.tup (tV ns).reverse)) := Ex.new hr
  generalize hH1 : upd H r (.tup (tV ns).reverse) = H1 at e1
  have hr1 : H1 r = some (.tup (tV ns).reverse) := by rw [← hH1]; exact upd_same
  refine for_tup (xs := (tV ns).reverse) (fun i σ' H' => Kp [c] H1 H' ∧ H' c = some (.lst (cV (cs ++ behC x.1 (ns.drop (ns.length - i)) x.2))) ∧ ∃ o, σ' = [some (.ref pl), some (.ref na), some (nV (termL (x.1, ns.drop (ns.length - i) ++ x.2))), o]) ?_ ?_ ?_ ?_
  · refine ⟨Kp.refl _ _, ?_, none, ?_⟩
    · rw [show ns.length - 0 = ns.length from rfl, List.drop_length]
      show H1 c = some (.lst (cV (cs ++ [])))
      rw [List.append_nil]
      exact e1 c _ hc
    · rw [show ns.length - 0 = ns.length from rfl, List.drop_length]
      rfl
  · rintro i σ' H' _ ⟨k1, h1, _⟩
    exact st_of ((fxm (e1 c _ hc) k1) r _ hr1 rfl)
  · rintro i y σ' H' hi ⟨k1, h1, o, rfl⟩
    have hil : i < ns.length := by
      have := (List.getElem?_eq_some_iff.mp hi).1
      rw [List.length_reverse, hln] at this
      exact this
    rw [List.getElem?_reverse (by rw [hln]; exact hil), hln] at hi
    have hj : ns.length - (i + 1) = ns.length - 1 - i := by omega
    obtain ⟨n, hn⟩ := getE (xs := ns) (i := ns.length - 1 - i) (by omega)
    have hy : (tV ns)[ns.length - 1 - i]? = some (nV n) := by
      unfold tV
      rw [List.getElem?_map, hn]
      rfl
    rw [hy] at hi
    obtain rfl : nV n = y := Option.some.inj hi
    have hdr : ns.drop (ns.length - (i + 1)) = n :: ns.drop (ns.length - i) := by
      rw [hj, List.drop_eq_getElem_cons (by omega), (List.getElem?_eq_some_iff.mp hn).2]
      congr 2
      omega
    have hnB := List.all_eq_true.mp hns n (List.mem_of_getElem? hn)
    have hdl : (ns.drop (ns.length - i)).length ≤ ns.length := by rw [List.length_drop]; omega
    have hdw : wordB (ns.drop (ns.length - i)) = true := List.all_eq_true.mpr fun m hm => List.all_eq_true.mp hns m (List.mem_of_mem_drop hm)
    have htl : (termL (x.1, ns.drop (ns.length - i) ++ x.2)).length ≤ 1000 := by
      have := term_len (t := (x.1, ns.drop (ns.length - i) ++ x.2)) (n := 64) (wordB_app hdw hxw) (by show (ns.drop (ns.length - i) ++ x.2).length ≤ 64; rw [List.length_append]; omega)
      omega
    have hbl := behC_len x.1 (ns.drop (ns.length - i)) x.2
    have hc1 := e1 c _ hc
    refine ⟨_, rfl, _, rfl, _, rfl, pl, c, ats, rows, n, _, (cs ++ behC x.1 (ns.drop (ns.length - i)) x.2).map termL, rfl, (hpl.ex e1).kp hc1 k1, nameB_len4 hnB, htl, by rw [h1]; unfold cV; rw [List.map_map]; rfl, by rw [List.length_map, List.length_append]; omega, fun H2 k2 h2 => ?_⟩
    refine ⟨k1.trans k2, ?_, some (nV n), ?_⟩
    · have e5 : behC x.1 (ns.drop (ns.length - (i + 1))) x.2 = behC x.1 (ns.drop (ns.length - i)) x.2 ++ [(x.1, n :: (ns.drop (ns.length - i) ++ x.2))] := by rw [hdr]; rfl
      rw [h2, e5, ← List.append_assoc cs, cV_app, map_snoc_term]
      rfl
    · rw [hdr]
      rfl
  · rintro σ' H' ⟨k1, h1, o, rfl⟩
    rw [List.length_reverse, hln, Nat.sub_self, List.drop_zero] at h1
    refine ⟨_, rfl, ?_⟩
    rw [List.length_reverse, hln, Nat.sub_self, List.drop_zero]
    exact k H' ((Kp.of e1).trans k1) h1
theorem bit_at {ats : List (List Nm)} {rows : List (List Bool)} {row : List Bool} {i : Nat} {w : List Nm} (hrow : rows[i]? = some row) (hl : row.length = ats.length) (hin : w ∈ ats) : (bV row)[ats.idxOf w]? = some (.bl (truthOf ats rows i w)) := by
  have hid : ats.idxOf w < ats.length := List.idxOf_lt_length_of_mem hin
  unfold bV
  rw [List.getElem?_map]
  have h0 : row[ats.idxOf w]? = some (row[ats.idxOf w]'(by omega)) := List.getElem?_eq_getElem (by omega)
  unfold truthOf
  rw [List.getD_eq_getElem?_getD, List.getD_eq_getElem?_getD, hrow, Option.getD_some, h0]
  rfl
theorem idx_dW {ats : List (List Nm)} {w : List Nm} (hin : w ∈ ats) : (∃ z, (ats.map dW)[ats.idxOf w]? = some z ∧ PyData.eqv z (dW w) = true) ∧ ∀ (m : Nat) (z : PyData), m < ats.idxOf w → (ats.map dW)[m]? = some z → PyData.eqv z (dW w) = false := by
  have hid : ats.idxOf w < ats.length := List.idxOf_lt_length_of_mem hin
  constructor
  · refine ⟨dW w, ?_, by rw [eqv_dW]; exact decide_eq_true rfl⟩
    rw [List.getElem?_map, List.getElem?_eq_getElem hid, List.getElem_idxOf]
    rfl
  · intro m z hm hz
    rw [List.getElem?_map] at hz
    obtain ⟨u, hu⟩ := getE (xs := ats) (i := m) (by omega)
    rw [hu] at hz
    obtain rfl : dW u = z := Option.some.inj hz
    rw [eqv_dW]
    refine decide_eq_false fun e => ?_
    subst e
    obtain ⟨hm2, hu2⟩ := List.getElem?_eq_some_iff.mp hu
    have := List.not_of_lt_findIdx (p := (· == u)) hm
    rw [hu2] at this
    simp at this
theorem p__law_truth (h : sp__law_truth vs H Q E) : r__law_truth K (ends Q) (start ["_law_play_here", "_law_told_here", "_law_pieces", "_law_entry"] vs) H := by
  obtain ⟨pl, c, ats, rows, i, w, rfl, hpl, wb, hin, hi, k⟩ := h
  obtain ⟨a, rv, h1, h2, h3, h4⟩ := hpl
  obtain ⟨hw, hw1, hw30⟩ := wb.word w hin
  have hi9 : i ≤ 9 := by have := wb.many; omega
  have htl := term_len (t := (i, w)) (n := 30) hw hw30
  have hb1 : ("(" : Str).length = 1 := by decide +kernel
  refine ⟨_, rfl, ⟨_, rfl⟩, ⟨_, _, rfl, rfl, by rw [hb1]; rfl, ?_, ?_⟩⟩
  · rw [lenS]
    exact sz_of (by omega)
  rw [term_spl hw hi9]
  intro p hp
  have e1 : Ex H (upd H p (.lst (((w ++ [[120, 48 + i] ++ List.replicate w.length 41]).map SX.S).map V.str))) := Ex.new hp
  have hls : ((w ++ [[120, 48 + i] ++ List.replicate w.length 41]).map SX.S).map V.str = tV w ++ [nV ([120, 48 + i] ++ List.replicate w.length 41)] := by
    rw [List.map_map, List.map_append]
    rfl
  rw [hls] at e1 ⊢
  generalize hH1 : upd H p (.lst (tV w ++ [nV ([120, 48 + i] ++ List.replicate w.length 41)])) = H1 at e1
  have hp1 : H1 p = some (.lst (tV w ++ [nV ([120, 48 + i] ++ List.replicate w.length 41)])) := by rw [← hH1]; exact upd_same
  have hlt : (tV w).length = w.length := List.length_map ..
  have hlast : atI (tV w ++ [nV ([120, 48 + i] ++ List.replicate w.length 41)]) (-1) = some (nV ([120, 48 + i] ++ List.replicate w.length 41)) := atI_last _ _
  have hll : ([120, 48 + i] ++ List.replicate w.length 41).length ≤ 32 := by rw [List.length_append, List.length_replicate]; simp; omega
  refine ⟨_, rfl, 1, rfl, p, _, -1, _, rfl, rfl, sq_of hp1, hlast, _, rfl, ?_, 1, rfl, ?_⟩
  · have : ("" : Str).length = 0 := by decide +kernel
    rw [this, lenS]
    omega
  rw [last_num hi9]
  refine ⟨_, rfl, by rw [lenS]; exact sz_of (by simp), ?_⟩
  rw [SX.slice_from (by decide)]
  refine ⟨_, _, rfl, int_one hi9, by rw [lenS]; simp, ?_⟩
  -- the row
  obtain ⟨ra, rvs, rfl, hra, hral⟩ := h3.fx (Fx.of e1)
  have hrl := hral.len
  obtain ⟨rwv, hrw⟩ := getE (xs := rvs) (i := i) (by omega)
  obtain ⟨row, hrow, rwa, rfl, hrwa⟩ := hral.at hrw
  have hrlen := wb.row row (List.mem_of_getElem? hrow)
  have hpl1 := e1 pl _ h1
  obtain ⟨o, avs, ha1, ha2, ha3, haal⟩ := h2.fx (Fx.of e1)
  refine ⟨_, rfl, pl, _, ((2 : Nat) : Int), _, rfl, rfl, sq_of hpl1, atI_nat rfl, _, rfl, ra, rvs, (i : Int), _, rfl, rfl, st_of hra, atI_nat hrw, ?_⟩
  refine ⟨_, rfl, pl, _, ((1 : Nat) : Int), _, rfl, rfl, sq_of hpl1, atI_nat rfl, ⟨a, o, avs, rfl, ha1, ha2, ha3⟩, ?_⟩
  refine ⟨_, rfl, 1, rfl, -1, rfl, p, _, rfl, sq_of hp1, fun q hq => ?_⟩
  rw [cut_snoc]
  have e2 : Ex H1 (upd H1 q (.lst (tV w))) := Ex.new hq
  refine ⟨q, tV w, rfl, .inl ⟨sq_of upd_same, fun r hr => ?_⟩⟩
  have e3 : Ex (upd H1 q (.lst (tV w))) (upd (upd H1 q (.lst (tV w))) r (.tup (tV w))) := Ex.new hr
  generalize hH3 : upd (upd H1 q (.lst (tV w))) r (.tup (tV w)) = H3 at e3
  have hr3 : H3 r = some (.tup (tV w)) := by rw [← hH3]; exact upd_same
  have e13 := e2.trans e3
  obtain ⟨⟨z, hz1, hz2⟩, hz3⟩ := idx_dW hin
  refine ⟨a, .ref r, dW w, ats.map dW, ats.idxOf w, z, rfl, rfl, dp_tup (.inl (.inr ⟨o, e13 a _ ha1⟩)) (haal.imp fun _ _ y => y.fx (Fx.of e13)), dp_Wd ⟨r, rfl, hr3⟩, shaped_all fun u hu => (wb.word u hu).1, shaped_dW hw, hz1, hz2, hz3, ?_⟩
  exact ⟨rwa, bV row, _, _, rfl, rfl, st_of (e13 rwa _ hrwa), atI_nat (bit_at hrow hrlen hin), k H3 (e1.trans e13)⟩
theorem p__law_passes (h : sp__law_passes vs H Q E) : r__law_passes K sp__law_truth sp__law_apply (ends Q) (start ["_law_play_here", "_law_conditions", "_law_thing", "_law_names_here", "_law_wanted"] vs) H := by
  obtain ⟨pl, c, ats, rows, tv, cd, x, cs, rfl, hpl, wb, htst, hcd, hxw, hxl, hx, hc, hcs, k⟩ := h
  obtain ⟨ta, tvs, rfl, hta, htal⟩ := htst
  refine ⟨_, rfl, ta, rfl, ⟨tvs, sq_of hta⟩, ?_⟩
  cases cd with
  | none =>
    cases tvs with
    | cons a b => exact htal.elim
    | nil =>
      refine for_list (xs := []) (fun i σ' H' => H' = H) rfl (fun i σ' H' _ z => by rw [z]; exact sq_of hta) (fun i y σ' H' hi _ => by simp at hi) ?_
      intro σ' H' z
      subst z
      refine k H' (Kp.refl _ _) ?_
      rw [hc]
      show some (HO.lst (cV cs)) = some (HO.lst (cV (cs ++ [])))
      rw [List.append_nil]
  | some p =>
    obtain ⟨u, b⟩ := p
    obtain ⟨hu1, hu2, hu3, hu4⟩ := hcd _ rfl
    cases tvs with
    | nil => exact htal.elim
    | cons tv tvr =>
      cases tvr with
      | cons a b => exact htal.2.elim
      | nil =>
        obtain ⟨⟨t, nv, rfl, ht, hnv⟩, _⟩ := htal
        have hta0 : ta ≠ c := fun e => by
          rw [e, hc] at hta
          cases cs with
          | nil => cases hta
          | cons y r => cases hta
        refine for_list (xs := [V.ref t]) (fun i σ' H' => (i = 0 ∧ σ' = [some (.ref pl), some (.ref ta), some (nV (termL x)), none, none] ∧ H' = H) ∨ (i = 1 ∧ Kp [c] H H' ∧ H' c = some (.lst (cV (cs ++ behC x.1 u x.2))) ∧ truthOf ats rows x.1 (u ++ x.2) = b)) (.inl ⟨rfl, rfl, rfl⟩) ?_ ?_ ?_
        · rintro i σ' H' _ (⟨_, _, rfl⟩ | ⟨_, k1, _, _⟩)
          · exact sq_of hta
          · exact sq_of (k1.lst hta (by simpa using hta0))
        · rintro i y σ' H' hi (⟨rfl, rfl, rfl⟩ | ⟨rfl, _⟩)
          · obtain rfl : V.ref t = y := Option.some.inj hi
            refine ⟨t, _, rfl, st_of ht, rfl, _, _, rfl, _, _, rfl, rfl, ?_⟩
            refine ⟨_, rfl, _, rfl, _, rfl, _, rfl, pl, c, ats, rows, nv, u, x, cs, rfl, hpl, hnv, hu1, by omega, hxw, by omega, hc, hcs, fun H1 k1 h1 => ?_⟩
            refine ⟨pl, c, ats, rows, x.1, u ++ x.2, rfl, hpl.kp hc k1, wb, hu4, hx, fun H2 e2 => ⟨_, rfl, rfl, _, rfl, ?_⟩⟩
            have k2 := k1.trans (Kp.of e2)
            have h2 := e2 c _ h1
            by_cases hb : truthOf ats rows x.1 (u ++ x.2) = b
            · exact ibF (by rw [hb]; simp) (.inr ⟨rfl, k2, h2, hb⟩)
            · refine ibT (by simpa using hb) ?_
              have := k H2 k2 h2
              rw [show cdB (truthOf ats rows) x (some (u, b)) = decide (truthOf ats rows x.1 (u ++ x.2) = b) from rfl, decide_eq_false hb] at this
              exact this
          · simp at hi
        · rintro σ' H' (⟨hh, _⟩ | ⟨_, k1, h1, hb⟩)
          · simp at hh
          · have := k H' k1 h1
            rw [show cdB (truthOf ats rows) x (some (u, b)) = decide (truthOf ats rows x.1 (u ++ x.2) = b) from rfl, decide_eq_true hb] at this
            exact this
end
end CF

/-! text CfQJ -/
set_option Elab.async false
set_option linter.all false
set_option maxRecDepth 100000
set_option maxHeartbeats 4000000
/-! sources: what stays when others go on -/
namespace CF
open PySem PySem.Spec PyProof.Rows L2 Evl
section
variable {K : PySem.W.Frag} {mg : Str → Option Value} {vs : List V} {B H H1 H2 H' : Hp} {Q : VK} {E : XK} {σ : L2.St} {ta tb : TE} {ats : List (List Nm)} {rows : List (List Bool)}
theorem ex_kp {S : List Addr} (e : Ex B H) (k : Kp S H H') (h : ∀ x ∈ S, B x = none) : Ex B H' := fun a o ha => k.keep a o (e a o ha) fun m => by
  rw [h a m] at ha
  cases ha
theorem Tst.ex {v : V} {l : List (List Nm × Bool)} (h : Tst H v l) (e : Ex H H') : Tst H' v l := by
  obtain ⟨a, vs, rfl, ha, hl⟩ := h
  refine ⟨a, vs, rfl, e a _ ha, hl.imp fun v p ⟨t, nv, h1, h2, h3⟩ => ⟨t, nv, h1, e t _ h2, h3.fx (Fx.of e)⟩⟩
theorem Nd.Ok.ex {wd : List Nm} {tv nv : V} {nd : Nd} (h : nd.Ok B ats wd tv nv) (e : Ex B H) : nd.Ok H ats wd tv nv := by
  cases nd with
  | isl stop step cnt nxt => trivial
  | tak u => exact ⟨h.1.ex e, h.2⟩
  | drp u op => exact ⟨h.1.ex e, h.2⟩
  | row cd w => exact ⟨h.1.ex e, h.2.1.fx (Fx.of e), h.2.2⟩
theorem RepS.kp {S : List Addr} : ∀ {ps : List Addr} {a : Addr} {t : Tr Nm} {n b : Nat} {wd : List Nm}, RepS B H ats rows a ps t n b wd → Kp S H H' → (∀ x ∈ a :: ps, x ∉ S) → RepS B H' ats rows a ps t n b wd
  | [], a, t, n, b, wd, ⟨L, xs, pos, h1, h⟩, k, hs => ⟨L, xs, pos, k.keep a _ h1 (hs a (List.mem_cons_self ..)), h⟩
  | p :: ps, a, t, n, b, wd, ⟨nd, tv, nv, t0, n0, b0, wd0, h0, h1, h⟩, k, hs => ⟨nd, tv, nv, t0, n0, b0, wd0, h0.kp k fun x hx => hs x (List.mem_cons_of_mem _ hx), k.keep a _ h1 (hs a (List.mem_cons_self ..)), h⟩
theorem RepS.base {B' : Hp} : ∀ {ps : List Addr} {a : Addr} {t : Tr Nm} {n b : Nat} {wd : List Nm}, RepS B H ats rows a ps t n b wd → Ex B B' → RepS B' H ats rows a ps t n b wd
  | [], a, t, n, b, wd, ⟨L, xs, pos, h1, h2, h⟩, e => ⟨L, xs, pos, h1, e L _ h2, h⟩
  | p :: ps, a, t, n, b, wd, ⟨nd, tv, nv, t0, n0, b0, wd0, h0, h1, h2, h3, h⟩, e => ⟨nd, tv, nv, t0, n0, b0, wd0, h0.base e, h1, h2, h3.ex e, h⟩
theorem RepS.some : ∀ {ps : List Addr} {a : Addr} {t : Tr Nm} {n b : Nat} {wd : List Nm}, RepS B H ats rows a ps t n b wd → ∀ x ∈ a :: ps, H x ≠ none
  | [], a, t, n, b, wd, ⟨L, xs, pos, h1, _⟩, x, hx => by
    rw [List.mem_singleton] at hx
    rw [hx, h1]
    simp
  | p :: ps, a, t, n, b, wd, ⟨nd, tv, nv, t0, n0, b0, wd0, h0, h1, _⟩, x, hx => by
    rcases List.mem_cons.mp hx with rfl | hx
    · rw [h1]; simp
    · exact h0.some x hx
/-- the answer of a pull -/
def Nx (B H' : Hp) (ats : List (List Nm)) (rows : List (List Bool)) (a : Addr) (ps : List Addr) (t : Tr Nm) (n b : Nat) (wd : List Nm) : Option (Tm Nm) → List (Tm Nm) → Prop
  | none, cl => t.1 = [] ∧ cl = t.2 ∧ cl.length ≤ b
  | .some x, cl => ∃ ev n' b', t.1 = (cl, x) :: ev ∧ RepS B H' ats rows a ps (ev, t.2) n' b' wd ∧ n' + 1 ≤ n ∧ b' + cl.length ≤ b ∧ x.2 = wd ∧ x.1 < rows.length
theorem pull_in {pl c p : Addr} {ps : List Addr} {t : Tr Nm} {n b d : Nat} {wd : List Nm} {cs : List (Tm Nm)} (h : Src B H pl c ats rows p ps t n b wd cs) (hd : ps.length < d)
    (k : ∀ g o cl H2, Kp (c :: p :: ps) H H2 → H g = none → H2 g = some (.lst (cV (Option.toList o))) → H2 c = some (.lst (cV (cs ++ cl))) → Nx B H2 ats rows p ps t n b wd o cl → Q (.ref g) H2) : sp__law_pull d [.ref pl, .ref p] H Q E := by
  refine ⟨B, pl, c, ats, rows, p, ps, t, n, b, wd, cs, rfl, h, hd, fun cl x ev he r H2 ⟨n', b', g1, g2, g3, g4, g5, g6, g7, g8, g9⟩ => ?_, fun he r H2 ⟨g1, g2, g3, g4, g5⟩ => ?_⟩
  · exact k r (.some x) cl H2 g1 g2 g3 g4 ⟨ev, n', b', he, g5, g6, g7, g8, g9⟩
  · exact k r none t.2 H2 g1 g2 g3 g4 ⟨he, rfl, g5⟩
theorem Src.inner {pl c a p : Addr} {ps : List Addr} {t : Tr Nm} {n b : Nat} {wd : List Nm} {cs : List (Tm Nm)} (h : Src B H pl c ats rows a (p :: ps) t n b wd cs) :
    ∃ (nd : Nd) (tv nv : V) (t0 : Tr Nm) (n0 b0 : Nat) (wd0 : List Nm), Src B H pl c ats rows p ps t0 n0 b0 wd0 cs ∧ H a = some (.lst (nd.vals (.ref p) tv nv)) ∧ t = nd.tr (truthOf ats rows) t0 ∧ nd.Ok B ats wd0 tv nv ∧ n0 ≤ n ∧ b0 + 4 * n0 ≤ b ∧ wd = nd.word wd0 := by
  obtain ⟨nd, tv, nv, t0, n0, b0, wd0, h0, h1, h2, h3, h4, h5, h6⟩ := h.rep
  have hw := h.word
  have hl := h.len
  have hwd : wordB wd0 = true ∧ wd0.length ≤ 30 := by
    rw [h6] at hw hl
    cases nd with
    | isl stop step cnt nxt => exact ⟨hw, hl⟩
    | tak u => exact ⟨hw, hl⟩
    | drp u op => exact ⟨hw, hl⟩
    | row cd w =>
      have hw : wordB (w ++ wd0) = true := hw
      have hl : (w ++ wd0).length ≤ 30 := hl
      rw [List.length_append] at hl
      exact ⟨List.all_eq_true.mpr fun m hm => List.all_eq_true.mp hw m (List.mem_append_right _ hm), by omega⟩
  have hout := h.out
  have hnd := h.nd
  have hfew := h.few
  refine ⟨nd, tv, nv, t0, n0, b0, wd0, ⟨h.play, h.wb, h.ex, fun x hx => hout x ?_, ?_, h0, h.calls, by omega, hwd.1, hwd.2⟩, h1, h2, h3, h4, h5, h6⟩
  · rcases List.mem_cons.mp hx with rfl | hx
    · exact List.mem_cons_self ..
    · exact List.mem_cons_of_mem _ (List.mem_cons_of_mem _ hx)
  · simp only [List.nodup_cons, List.mem_cons, not_or] at hnd ⊢
    exact ⟨⟨hnd.1.2.1, hnd.1.2.2⟩, hnd.2.2⟩
theorem dpO {g : Addr} {o : Option (Tm Nm)} (hg : H g = some (.lst (cV (Option.toList o)))) : Dp K H (.ref g) (.list ((Option.toList o).map fun x => dS (termL x))) := by
  cases o with
  | none => exact .lst (sq_of hg) .nil
  | some x => exact .lst (sq_of hg) (.cons (.str _) .nil)
theorem shapedO {o : Option (Tm Nm)} (h : ∀ x, o = some x → wordB x.2 = true ∧ x.1 ≤ 9) : SeqAt.shaped (.list ((Option.toList o).map fun x => dS (termL x))) = true := by
  cases o with
  | none => decide +kernel
  | some x =>
    obtain ⟨h1, h2⟩ := h x rfl
    show (PyData.canLayAll0 ([termL x].map dS) && decide (PyData.depthAll ([termL x].map dS) + 1 ≤ 64)) = true
    rw [lay_str (fun n hn c hc => by
      rw [List.mem_singleton] at hn
      subst hn
      exact term_code h1 (fun c hc => by simp at hc; omega) c hc), dep_str]
    rfl
theorem rv_ne0 {g e : Addr} {o : Option (Tm Nm)} (hg : H g = some (.lst (cV (Option.toList o)))) (he : H e = some (.lst [])) (h : ∀ x, o = some x → wordB x.2 = true ∧ x.1 ≤ 9) (q : Q (.bl o.isSome) H) : rNeD K (.ref g) (.ref e) H Q := by
  refine ⟨_, .list [], dpO hg, .lst (sq_of he) .nil, shapedO h, by decide +kernel, ?_⟩
  cases o with
  | none => exact q
  | some x => exact q
theorem rv_eq0 {g e : Addr} {o : Option (Tm Nm)} (hg : H g = some (.lst (cV (Option.toList o)))) (he : H e = some (.lst [])) (h : ∀ x, o = some x → wordB x.2 = true ∧ x.1 ≤ 9) (q : Q (.bl o.isNone) H) : rEqD K (.ref g) (.ref e) H Q := by
  refine ⟨_, .list [], dpO hg, .lst (sq_of he) .nil, shapedO h, by decide +kernel, ?_⟩
  cases o with
  | none => exact q
  | some x => exact q
/-- got != [] -/
theorem ev_ne0 {g : Addr} {o : Option (Tm Nm)} {j : Nat} (hσ : σ[j]? = some (some (.ref g))) (hg : H g = some (.lst (cV (Option.toList o)))) (h : ∀ x, o = some x → wordB x.2 = true ∧ x.1 ≤ 9) : Ev (tOp (rNeD K) (tVar j) (tLst tNil)) σ H (.bl o.isSome) := fun H1 e Q q =>
  ⟨_, hσ, Nat.zero_le _, fun p hp => rv_ne0 ((e.trans (Ex.new hp)) g _ hg) upd_same h (q _ (Ex.new hp))⟩
/-- source[k] -/
theorem ev_src {a : Addr} {xs : List V} {k : Nat} {v : V} (hσ : σ[1]? = some (some (.ref a))) (ha : H a = some (.lst xs)) (hk : xs[k]? = some v) : Ev (tOp (rIxL K) (tVar 1) (tC (.int (k : Nat)))) σ H v :=
  ev_op (ev_var hσ) (ev_c (v := .int ((k : Nat) : Int))) (rv_ixL (sq_of ha) (atI_nat hk))
theorem ev_got {g : Addr} {x : Tm Nm} (hσ : σ[3]? = some (some (.ref g))) (hg : H g = some (.lst (cV [x]))) : Ev (tOp (rIxL K) (tVar 3) (tC (.int 0))) σ H (nV (termL x)) :=
  ev_op (ev_var hσ) (ev_c (v := .int ((0 : Nat) : Int))) (rv_ixL (sq_of hg) (atI_nat rfl))
end
end CF

/-! text CfQK -/
set_option Elab.async false
set_option linter.all false
set_option maxRecDepth 100000
set_option maxHeartbeats 4000000
/-! one value pulled from a source -/
namespace CF
open PySem PySem.Spec PyProof.Rows L2 Evl
section
variable {T : Nat → List Nm → Bool} {cd : Option (List Nm × Bool)} {w u : List Nm} {c a : List (Tm Nm)} {x : Tm Nm} {ev : List (List (Tm Nm) × Tm Nm)} {tl : List (Tm Nm)}
theorem row_hit (h : cdB T x cd = true) : rowT T cd w ((c, x) :: ev) tl = ((c ++ cdC x cd ++ behC x.1 w x.2, (x.1, w ++ x.2)) :: (rowT T cd w ev tl).1, (rowT T cd w ev tl).2) := by
  cases cd with
  | none => simp [rowT, cdC]
  | some p =>
    obtain ⟨t, b⟩ := p
    have h : T x.1 (t ++ x.2) = b := of_decide_eq_true h
    simp [rowT, cdC, h]
theorem row_miss (h : cdB T x cd = false) : rowT T cd w ((c, x) :: ev) tl = pre (c ++ cdC x cd) (rowT T cd w ev tl) := by
  cases cd with
  | none => cases h
  | some p =>
    obtain ⟨t, b⟩ := p
    have h : ¬ T x.1 (t ++ x.2) = b := of_decide_eq_false h
    simp [rowT, cdC, h]
theorem row_pre : pre a (rowT T cd w ((c, x) :: ev) tl) = rowT T cd w ((a ++ c, x) :: ev) tl := by
  cases h : cdB T x cd with
  | true => rw [row_hit h, row_hit h]; simp [pre, List.append_assoc]
  | false => rw [row_miss h, row_miss h, pre_pre, List.append_assoc]
theorem drp_hit (h : T x.1 (u ++ x.2) = true) : drpT T u ((c, x) :: ev) tl = pre (c ++ behC x.1 u x.2) (drpT T u ev tl) := by simp [drpT, h]
theorem drp_miss (h : T x.1 (u ++ x.2) = false) : drpT T u ((c, x) :: ev) tl = ((c ++ behC x.1 u x.2, x) :: ev, tl) := by simp [drpT, h]
theorem drp_pre : pre a (drpT T u ((c, x) :: ev) tl) = drpT T u ((a ++ c, x) :: ev) tl := by
  cases h : T x.1 (u ++ x.2) with
  | true => rw [drp_hit h, drp_hit h, pre_pre, List.append_assoc]
  | false => rw [drp_miss h, drp_miss h]; simp [pre, List.append_assoc]
theorem tak_hit (h : T x.1 (u ++ x.2) = true) : takT T u ((c, x) :: ev) tl = ((c ++ behC x.1 u x.2, x) :: (takT T u ev tl).1, (takT T u ev tl).2) := by simp [takT, h]
theorem tak_miss (h : T x.1 (u ++ x.2) = false) : takT T u ((c, x) :: ev) tl = ([], c ++ behC x.1 u x.2) := by simp [takT, h]
end
section
variable {K : PySem.W.Frag} {mg : Str → Option Value} {vs : List V} {B H H1 H2 H' : Hp} {Q : VK} {E : XK} {σ : L2.St} {ta tb : TE} {ats : List (List Nm)} {rows : List (List Bool)}
/-- a pull of the source at a under way: acc was called, the inner source at p gave o -/
structure Pst (B H H' : Hp) (c : Addr) (ats : List (List Nm)) (rows : List (List Bool)) (a p : Addr) (ps : List Addr) (n0 b : Nat) (wd0 : List Nm) (cs acc : List (Tm Nm)) (vals : List V) (g : Addr) (o : Option (Tm Nm)) (t' : Tr Nm) (n' b' e : Nat) : Prop where
  kp : Kp (c :: a :: p :: ps) H H'
  g0 : H g = none
  g1 : H' g = some (.lst (cV (Option.toList o)))
  calls : H' c = some (.lst (cV (cs ++ acc)))
  at_ : H' a = some (.lst vals)
  few : acc.length ≤ b
  hold : ∀ x, o = some x → RepS B H' ats rows p ps t' n' b' wd0 ∧ x.2 = wd0 ∧ x.1 < rows.length ∧ n' + 1 ≤ n0 ∧ acc.length + b' + 4 * n' + e ≤ b
section
variable {pl c a p : Addr} {ps : List Addr} {t t0 t1 : Tr Nm} {n b n0 b0 d n1 b1 : Nat} {wd wd0 : List Nm} {cs acc : List (Tm Nm)} {vals : List V}
theorem nd4 {l : List Addr} (h : (c :: a :: p :: l).Nodup) : a ≠ c ∧ a ∉ p :: l ∧ c ∉ p :: l := by
  simp only [List.nodup_cons, List.mem_cons, not_or] at h ⊢
  exact ⟨fun e => h.1.1 e.symm, ⟨h.2.1.1, h.2.1.2⟩, h.1.2.1, h.1.2.2⟩
theorem pull_again (hS : Src B H pl c ats rows a (p :: ps) t n b wd cs) (hI : Src B H pl c ats rows p ps t0 n0 b0 wd0 cs) (hd : ps.length < d) (hk : Kp (c :: a :: p :: ps) H H1) (hc : H1 c = some (.lst (cV (cs ++ acc)))) (ha : H1 a = some (.lst vals))
    (hr : RepS B H1 ats rows p ps t1 n1 b1 wd0) (hn : n1 ≤ n0) (hb : acc.length + b1 + 4 * n1 ≤ b)
    (k : ∀ g o cl H2 t' n' b', Pst B H H2 c ats rows a p ps n0 b wd0 cs (acc ++ cl) vals g o t' n' b' 4 → (o = none → t1.1 = [] ∧ cl = t1.2) → (∀ x, o = some x → t1.1 = (cl, x) :: t'.1 ∧ t'.2 = t1.2 ∧ n' + 1 ≤ n1) → Kp (c :: p :: ps) H1 H2 → H1 g = none → Q (.ref g) H2) : sp__law_pull d [.ref pl, .ref p] H1 Q E := by
  have hnd := hS.nd
  obtain ⟨z1, z2, z3⟩ := nd4 hnd
  have hfew := hS.few
  have hsrc : Src B H1 pl c ats rows p ps t1 n1 b1 wd0 (cs ++ acc) := ⟨hI.play, hI.wb, ex_kp hS.ex hk hS.out, hI.out, hI.nd, hr, hc, by rw [List.length_append]; omega, hI.word, hI.len⟩
  refine pull_in hsrc hd fun g o cl H2 k2 g0 g1 hc2 nx => ?_
  have hk2 : Kp (c :: a :: p :: ps) H H2 := hk.trans (k2.mono fun x hx => by
    rcases List.mem_cons.mp hx with rfl | hx
    · exact List.mem_cons_self ..
    · exact List.mem_cons_of_mem _ (List.mem_cons_of_mem _ hx))
  have ha2 : H2 a = some (.lst vals) := k2.keep a _ ha (by
    intro h
    rcases List.mem_cons.mp h with h | h
    · exact z1 h
    · exact z2 h)
  rw [List.append_assoc] at hc2
  cases o with
  | none =>
    obtain ⟨x1, x2, x3⟩ := nx
    refine k g none cl H2 t1 n1 b1 ⟨hk2, hk.none_of g0, g1, hc2, ha2, by rw [List.length_append]; omega, fun x hx => by cases hx⟩ (fun _ => ⟨x1, x2⟩) (fun x hx => by cases hx) k2 g0
  | some x =>
    obtain ⟨ev, n', b', x1, x2, x3, x4, x5, x6⟩ := nx
    refine k g (some x) cl H2 (ev, t1.2) n' b' ⟨hk2, hk.none_of g0, g1, hc2, ha2, by rw [List.length_append]; omega, fun y hy => ?_⟩ (fun h => by cases h) (fun y hy => ?_) k2 g0
    · cases hy
      exact ⟨x2, x5, x6, by omega, by rw [List.length_append]; omega⟩
    · cases hy
      exact ⟨x1, rfl, x3⟩
/-- the conditions of the node on the value that is held -/
theorem pass_in {g : Addr} {x : Tm Nm} {t' : Tr Nm} {n' b' : Nat} {tv : V} {cd : Option (List Nm × Bool)} (hS : Src B H pl c ats rows a (p :: ps) t n b wd cs) (hI : Src B H pl c ats rows p ps t0 n0 b0 wd0 cs) (s : Pst B H H1 c ats rows a p ps n0 b wd0 cs acc vals g (some x) t' n' b' 4)
    (htv : Tst B tv (Option.toList cd)) (hcd : ∀ q, cd = some q → uOk ats wd0 q.1)
    (k : ∀ H2, Kp [c] H1 H2 → Pst B H H2 c ats rows a p ps n0 b wd0 cs (acc ++ cdC x cd) vals g (some x) t' n' b' (4 - (cdC x cd).length) → Q (.bl (cdB (truthOf ats rows) x cd)) H2) : sp__law_passes [.ref pl, tv, nV (termL x)] H1 Q E := by
  obtain ⟨h1, h2, h3, h4, h5⟩ := s.hold x rfl
  have hB := ex_kp hS.ex s.kp hS.out
  have hfew := hS.few
  obtain ⟨z1, z2, z3⟩ := nd4 hS.nd
  have hu : ∀ q, cd = some q → uOk ats x.2 q.1 := fun q hq => by rw [h2]; exact hcd q hq
  have hl : (cdC x cd).length ≤ 4 := by
    cases cd with
    | none => exact Nat.zero_le _
    | some q =>
      show (behC x.1 q.1 x.2).length ≤ 4
      rw [behC_len]
      exact (hcd q rfl).2.2.1
  refine ⟨pl, c, ats, rows, tv, cd, x, cs ++ acc, rfl, hI.play.ex hB, hI.wb, htv.ex hB, hu, by rw [h2]; exact hI.word, by rw [h2]; exact hI.len, h3, s.calls, by rw [List.length_append]; omega, fun H2 k2 hc2 => k H2 k2 ?_⟩
  have hg : g ≠ c := fun e => by
    have := s.g0
    rw [e, hS.calls] at this
    cases this
  rw [List.append_assoc] at hc2
  refine ⟨s.kp.trans (k2.mono fun y hy => by rw [List.mem_singleton] at hy; subst hy; exact List.mem_cons_self ..), s.g0, k2.lst s.g1 (by simpa using hg), hc2, k2.lst s.at_ (by simpa using z1), by rw [List.length_append]; omega, fun y hy => ?_⟩
  cases hy
  exact ⟨h1.kp k2 fun y hy hh => by rw [List.mem_singleton] at hh; subst hh; exact z3 hy, h2, h3, h4, by rw [List.length_append]; omega⟩
/-- the answer is what is held -/
theorem Pst.gives {g : Addr} {x : Tm Nm} {t' : Tr Nm} {n' b' e : Nat} {tv nv : V} {nd : Nd} (hS : Src B H pl c ats rows a (p :: ps) t n b wd cs) (s : Pst B H H1 c ats rows a p ps n0 b wd0 cs acc (nd.vals (.ref p) tv nv) g (some x) t' n' b' e) (hn : n0 ≤ n)
    (hok : nd.Ok B ats wd0 tv nv) (hw : wd = nd.word wd0) (hx : wd = wd0) {tr : Tr Nm} (ht : tr = nd.tr (truthOf ats rows) t') : Gives B H H1 c ats rows a (p :: ps) n b wd cs acc x tr g := by
  obtain ⟨h1, h2, h3, h4, h5⟩ := s.hold x rfl
  exact ⟨n', b' + 4 * n', s.kp, s.g0, s.g1, s.calls, ⟨nd, tv, nv, t', n', b', wd0, h1, s.at_, ht, hok, Nat.le_refl _, Nat.le_refl _, hw⟩, by omega, by omega, by rw [hx]; exact h2, h3⟩
theorem Pst.ends {g : Addr} {t' : Tr Nm} {n' b' e : Nat} (s : Pst B H H1 c ats rows a p ps n0 b wd0 cs acc vals g none t' n' b' e) {tl : List (Tm Nm)} (ht : tl = acc) : Ends0 H H1 c a (p :: ps) b cs tl g := by
  subst ht
  exact ⟨s.kp, s.g0, s.g1, s.calls, s.few⟩
/-- source[j] = v -/
theorem Pst.set {g : Addr} {o : Option (Tm Nm)} {t' : Tr Nm} {n' b' e : Nat} {vals' : List V} (hS : Src B H pl c ats rows a (p :: ps) t n b wd cs) (s : Pst B H H1 c ats rows a p ps n0 b wd0 cs acc vals g o t' n' b' e) : Pst B H (upd H1 a (.lst vals')) c ats rows a p ps n0 b wd0 cs acc vals' g o t' n' b' e := by
  obtain ⟨z1, z2, z3⟩ := nd4 hS.nd
  have hg : g ≠ a := fun e => by
    have h0 := s.g0
    rw [e] at h0
    exact hS.rep.some a (List.mem_cons_self ..) h0
  refine ⟨s.kp.put (by simp), s.g0, by rw [upd_ne hg]; exact s.g1, by rw [upd_ne (fun e => z1 e.symm)]; exact s.calls, upd_same, s.few, fun x hx => ?_⟩
  obtain ⟨h1, h2⟩ := s.hold x hx
  exact ⟨h1.kp ((Kp.refl [a] H1).put (by simp)) fun y hy hh => by rw [List.mem_singleton] at hh; subst hh; exact z2 hy, h2⟩
theorem Pst.ex {g : Addr} {o : Option (Tm Nm)} {t' : Tr Nm} {n' b' e : Nat} (s : Pst B H H1 c ats rows a p ps n0 b wd0 cs acc vals g o t' n' b' e) (h : Ex H1 H2) : Pst B H H2 c ats rows a p ps n0 b wd0 cs acc vals g o t' n' b' e := by
  refine ⟨s.kp.trans (Kp.of h), s.g0, h g _ s.g1, h c _ s.calls, h a _ s.at_, s.few, fun x hx => ?_⟩
  obtain ⟨h1, h2⟩ := s.hold x hx
  exact ⟨h1.kp (Kp.of (S := []) h) fun _ _ => by simp, h2⟩
end
end
end CF

/-! text CfQL -/
set_option Elab.async false
set_option linter.all false
set_option maxRecDepth 100000
set_option maxHeartbeats 4000000
/-! one value pulled from a source: the reading -/
namespace CF
open PySem PySem.Spec PyProof.Rows L2 Evl
theorem cut_at (ys : List V) (pos : Nat) : cutV ys (some (pos : Int)) (some ((pos : Int) + 1)) = (ys.drop pos).take 1 := by
  unfold cutV
  have h1 : HT.sIx ys.length 0 (some (pos : Int)) = min pos ys.length := by
    show (if (pos : Int) < 0 then ((pos : Int) + (ys.length : Int)).toNat else min (pos : Int).toNat ys.length) = _
    rw [if_neg (by omega)]
    rfl
  have h2 : HT.sIx ys.length ys.length (some ((pos : Int) + 1)) = min (pos + 1) ys.length := by
    show (if (pos : Int) + 1 < 0 then ((pos : Int) + 1 + (ys.length : Int)).toNat else min ((pos : Int) + 1).toNat ys.length) = _
    rw [if_neg (by omega)]
    rfl
  rw [h1, h2]
  by_cases h : pos < ys.length
  · rw [Nat.min_eq_left (by omega), Nat.min_eq_left (by omega)]
    congr 1
    omega
  · rw [Nat.min_eq_right (by omega), Nat.min_eq_right (by omega), List.drop_length, List.drop_eq_nil_of_le (by omega)]
    simp
section
variable {K : PySem.W.Frag} {mg : Str → Option Value} {vs : List V} {B H H1 H2 H' : Hp} {Q : VK} {E : XK} {σ : L2.St} {ta tb : TE} {ats : List (List Nm)} {rows : List (List Bool)}
theorem nil_in {Q : List V → Hp → Prop} (h : Q [] H) : tNil σ H Q := h
theorem ev_addI {i j : Int} (ha : Ev ta σ H (.int i)) (hb : Ev tb σ H (.int j)) : Ev (tOp rAddI ta tb) σ H (.int (i + j)) := ev_op ha hb (rv_val fun H1 e Q q => ⟨i, j, rfl, rfl, q⟩)
theorem p__law_pull (d : Nat) (h : sp__law_pull (d + 1) vs H Q E) : r__law_pull K (sp__law_pull_slice (d + 1)) (sp__law_pull d) sp__law_passes sp__law_apply (ends Q) (start ["_law_play_here", "_law_source", "_law_sort_here", "_law_got"] vs) H := by
  obtain ⟨B, pl, c, ats, rows, a, ps, t, n, b, wd, cs, rfl, hS, hd, k1, k2⟩ := h
  cases ps with
  | nil =>
    obtain ⟨L, xs, pos, ha, hL, rfl, hn, hx⟩ := hS.rep
    refine ⟨_, rfl, a, _, ((0 : Nat) : Int), _, rfl, rfl, sq_of ha, atI_nat rfl, ?_⟩
    refine ⟨_, rfl, rfl, _, rfl, ?_⟩
    refine ifT rfl ?_
    refine q_setL (j := 2) ha (ev_addI (ev_src rfl ha rfl) (ev_c (v := .int 1))) (ev_var rfl) (ev_c (v := .int ((2 : Nat) : Int))) (by simp) fun H1 e1 => ?_
    have k01 : Kp [c, a] H (upd H1 a (.lst ([V.str "list", .ref L, .int pos].set 2 (.int ((pos : Int) + 1))))) := (Kp.of e1).put (by simp)
    have hnd := hS.nd
    have hca : c ≠ a := by
      simp only [List.nodup_cons, List.mem_cons, not_or] at hnd
      exact hnd.1.1
    have hLn : L ≠ a := fun e => by
      have := hS.out a (by simp)
      rw [← e, hL] at this
      cases this
    have hLx : (upd H1 a (.lst ([V.str "list", .ref L, .int pos].set 2 (.int ((pos : Int) + 1))))) L = some (.lst (cV xs)) := by
      rw [upd_ne hLn]
      exact e1 L _ (hS.ex L _ hL)
    have hcx : (upd H1 a (.lst ([V.str "list", .ref L, .int pos].set 2 (.int ((pos : Int) + 1))))) c = some (.lst (cV cs)) := by
      rw [upd_ne hca]
      exact e1 c _ hS.calls
    have hax : (upd H1 a (.lst ([V.str "list", .ref L, .int pos].set 2 (.int ((pos : Int) + 1))))) a = some (.lst [V.str "list", .ref L, .int ((pos + 1 : Nat) : Int)]) := upd_same
    generalize upd H1 a (.lst ([V.str "list", .ref L, .int pos].set 2 (.int ((pos : Int) + 1)))) = H2 at k01 hLx hcx hax
    refine ⟨_, rfl, a, _, ((1 : Nat) : Int), _, rfl, rfl, sq_of hax, atI_nat rfl, ?_⟩
    refine ⟨_, rfl, a, _, ((2 : Nat) : Int), _, rfl, rfl, sq_of hax, atI_nat rfl, _, _, rfl, rfl, _, rfl, ?_⟩
    refine ⟨_, rfl, a, _, ((2 : Nat) : Int), _, rfl, rfl, sq_of hax, atI_nat rfl, _, rfl, ?_⟩
    refine ⟨L, cV xs, rfl, sq_of hLx, fun r hr => ?_⟩
    have e3 : (((pos + 1 : Nat) : Int) - 1) = (pos : Int) := by omega
    have e4 : ((pos + 1 : Nat) : Int) = (pos : Int) + 1 := by omega
    rw [e3, e4, cut_at]
    have hr0 : H r = none := k01.none_of hr
    have hdr : (cV xs).drop pos = cV (xs.drop pos) := List.map_drop.symm
    rw [hdr]
    have hcr : c ≠ r := fun e => by rw [e, hr] at hcx; cases hcx
    have har : a ≠ r := fun e => by rw [e, hr] at hax; cases hax
    cases hxs : xs.drop pos with
    | nil =>
      refine k2 (by rw [hxs]; rfl) r _ ⟨k01.new hr, hr0, upd_same, ?_, Nat.zero_le _⟩
      rw [upd_ne hcr, hcx]
      show _ = some (HO.lst (cV (cs ++ [])))
      rw [List.append_nil]
    | cons x rest =>
      have hpl : pos < xs.length := by
        have := congrArg List.length hxs
        rw [List.length_drop, List.length_cons] at this
        omega
      have hrest : rest = xs.drop (pos + 1) := by
        have := congrArg List.tail hxs
        rw [List.tail_drop] at this
        exact this.symm
      have hxm : x ∈ xs := List.mem_of_mem_drop (i := pos) (by rw [hxs]; exact List.mem_cons_self ..)
      refine k1 [] x (ofVals rest).1 (by rw [hxs]; rfl) r _ ⟨xs.length - (pos + 1), b, k01.new hr, hr0, upd_same, ?_, ?_, by omega, by simp, (hx x hxm).1, (hx x hxm).2⟩
      · rw [upd_ne hcr, hcx, List.append_nil]
      · refine ⟨L, xs, pos + 1, by rw [upd_ne har]; exact hax, hL, ?_, Nat.le_refl _, hx⟩
        rw [← hrest]
        rfl
  | cons p ps =>
    obtain ⟨nd, tv, nv, t0, n0, b0, wd0, hI, ha, ht, hok, hn, hb, hw⟩ := hS.inner
    have hd' : ps.length < d := by simp only [List.length_cons] at hd; omega
    have hO : ∀ {H' : Hp} {acc : List (Tm Nm)} {vals : List V} {g : Addr} {o : Option (Tm Nm)} {t' : Tr Nm} {n' b' e : Nat}, Pst B H H' c ats rows a p ps n0 b wd0 cs acc vals g o t' n' b' e → ∀ x, o = some x → wordB x.2 = true ∧ x.1 ≤ 9 := fun s x hx => by
      obtain ⟨_, z1, z2, _⟩ := s.hold x hx
      have := hI.wb.many
      exact ⟨by rw [z1]; exact hI.word, by omega⟩
    cases nd with
    | isl stop step cnt nxt =>
      refine ⟨_, rfl, a, _, ((0 : Nat) : Int), _, rfl, rfl, sq_of ha, atI_nat rfl, ?_⟩
      refine ⟨_, rfl, rfl, _, rfl, ?_⟩
      refine ifF (neS (by decide +kernel)) ?_
      refine ⟨_, rfl, rfl, _, rfl, ?_⟩
      refine ifT rfl ?_
      exact ⟨_, rfl, _, rfl, B, pl, c, ats, rows, a, p :: ps, t, n, b, wd, cs, rfl, hS, hd, ⟨_, stop, cnt, nxt, step, ha⟩, k1, k2⟩
    | tak u =>
      obtain ⟨hok1, hok2⟩ := hok
      refine ⟨_, rfl, a, _, ((0 : Nat) : Int), _, rfl, rfl, sq_of ha, atI_nat rfl, ?_⟩
      refine ⟨_, rfl, rfl, _, rfl, ?_⟩
      refine ifF (neS (by decide +kernel)) ?_
      refine ⟨_, rfl, rfl, _, rfl, ?_⟩
      refine ifF (neS (by decide +kernel)) ?_
      refine ⟨_, rfl, rfl, _, rfl, ?_⟩
      refine ifT rfl ?_
      refine ⟨_, rfl, a, _, ((3 : Nat) : Int), _, rfl, rfl, sq_of ha, atI_nat rfl, _, rfl, ?_⟩
      refine ibF rfl ?_
      refine ⟨_, rfl, _, rfl, a, _, ((1 : Nat) : Int), _, rfl, rfl, sq_of ha, atI_nat rfl, ?_⟩
      refine nil_in ?_
      refine pull_again (acc := []) hS hI hd' (Kp.refl _ _) (by rw [List.append_nil]; exact hS.calls) ha hI.rep (Nat.le_refl _) (by simp only [List.length_nil]; omega) fun g o cl H2 t' n' b' s so sx _ _ => ?_
      rw [List.nil_append] at s
      refine ⟨_, rfl, rfl, _, rfl, ?_⟩
      refine ifT rfl ?_
      refine ev_ne0 (σ := [some (.ref pl), some (.ref a), some (.str "takewhile"), some (.ref g)]) rfl s.g1 (hO s) H2 (Ex.refl _) _ fun H3 e3 => ⟨_, rfl, ?_⟩
      have s3 := s.ex e3
      cases o with
      | none =>
        obtain ⟨x1, x2⟩ := so rfl
        refine ibF rfl ?_
        refine ⟨_, rfl, a, _, ((3 : Nat) : Int), 3, rfl, rfl, s3.at_, rfl, ?_⟩
        have s4 := s3.set (vals' := [V.str "takewhile", .ref p, tv, .bl false]) hS
        refine ⟨_, rfl, a, _, ((3 : Nat) : Int), _, rfl, rfl, sq_of upd_same, atI_nat rfl, _, rfl, ?_⟩
        have htt : t = ([], cl) := by
          rw [ht]
          show takT _ u t0.1 t0.2 = _
          rw [x1, x2]
          rfl
        exact ibF rfl ⟨_, rfl, k2 (by rw [htt]) g _ (s4.ends (by rw [htt]))⟩
      | some x =>
        obtain ⟨x1, x2, x3⟩ := sx x rfl
        refine ibT rfl ?_
        refine ⟨_, rfl, _, rfl, a, _, ((2 : Nat) : Int), _, rfl, rfl, sq_of s3.at_, atI_nat rfl, ?_⟩
        refine ⟨_, rfl, g, _, ((0 : Nat) : Int), _, rfl, rfl, sq_of s3.g1, atI_nat rfl, ?_⟩
        refine nil_in ?_
        refine pass_in (cd := some (u, true)) hS hI s3 hok1 (fun q hq => by cases hq; exact hok2) fun H4 k4 s4 => ⟨_, rfl, ?_⟩
        have hcd : cdB (truthOf ats rows) x (some (u, true)) = truthOf ats rows x.1 (u ++ x.2) := by
          show decide (_ = true) = _
          cases truthOf ats rows x.1 (u ++ x.2) <;> rfl
        rw [hcd]
        refine ⟨_, rfl, a, _, ((3 : Nat) : Int), 3, rfl, rfl, s4.at_, rfl, ?_⟩
        have s5 := s4.set (vals' := [V.str "takewhile", .ref p, tv, .bl (!truthOf ats rows x.1 (u ++ x.2))]) hS
        refine ⟨_, rfl, a, _, ((3 : Nat) : Int), _, rfl, rfl, sq_of upd_same, atI_nat rfl, _, rfl, ?_⟩
        have htt : t = takT (truthOf ats rows) u ((cl, x) :: t'.1) t'.2 := by
          rw [ht]
          show takT _ u t0.1 t0.2 = _
          rw [x1, x2]
        cases hT : truthOf ats rows x.1 (u ++ x.2) with
        | true =>
          rw [tak_hit hT] at htt
          rw [hT] at s5
          refine ibF rfl ⟨_, rfl, ?_⟩
          refine k1 (cl ++ behC x.1 u x.2) x _ (by rw [htt]) g _ (Pst.gives (nd := .tak u) (nv := nv) hS s5 hn ⟨hok1, hok2⟩ hw hw ?_)
          rw [htt]
          rfl
        | false =>
          rw [tak_miss hT] at htt
          rw [hT] at s5
          refine ibT rfl ⟨Nat.zero_le _, fun r hr => ?_⟩
          have hr : (upd H4 a (.lst [V.str "takewhile", .ref p, tv, .bl (!false)])) r = none := hr
          refine k2 (by rw [htt]) r _ ⟨s5.kp.new hr, s5.kp.none_of hr, upd_same, ?_, ?_⟩
          · rw [upd_ne (fun e => by rw [← e, s5.calls] at hr; cases hr), htt]
            exact s5.calls
          · rw [htt]
            exact s5.few
    | drp u op =>
      obtain ⟨hok1, hok2⟩ := hok
      refine ⟨_, rfl, a, _, ((0 : Nat) : Int), _, rfl, rfl, sq_of ha, atI_nat rfl, ?_⟩
      refine ⟨_, rfl, rfl, _, rfl, ?_⟩
      refine ifF (neS (by decide +kernel)) ?_
      refine ⟨_, rfl, rfl, _, rfl, ?_⟩
      refine ifF (neS (by decide +kernel)) ?_
      refine ⟨_, rfl, rfl, _, rfl, ?_⟩
      refine ifF (neS (by decide +kernel)) ?_
      refine ibF rfl ?_
      refine ⟨_, rfl, _, rfl, a, _, ((1 : Nat) : Int), _, rfl, rfl, sq_of ha, atI_nat rfl, ?_⟩
      refine nil_in ?_
      refine pull_again (acc := []) hS hI hd' (Kp.refl _ _) (by rw [List.append_nil]; exact hS.calls) ha hI.rep (Nat.le_refl _) (by simp only [List.length_nil]; omega) fun g o cl H2 t' n' b' s so sx _ _ => ?_
      rw [List.nil_append] at s
      refine ⟨_, rfl, rfl, _, rfl, ?_⟩
      refine ifF (neS (by decide +kernel)) ?_
      refine ⟨_, rfl, rfl, _, rfl, ?_⟩
      refine ifT rfl ?_
      refine ⟨fun m σ' H' => ∃ g o t' n' b' e acc op, σ' = [some (.ref pl), some (.ref a), some (.str "dropwhile"), some (.ref g)] ∧ Pst B H H' c ats rows a p ps n0 b wd0 cs acc ((Nd.drp u op).vals (.ref p) tv nv) g o t' n' b' e ∧ (o = none → t = ([], acc)) ∧
        (∀ x, o = some x → op = false → e = 4 ∧ t = drpT (truthOf ats rows) u ((acc, x) :: t'.1) t'.2) ∧ (∀ x, o = some x → op = true → t = ((acc, x) :: t'.1, t'.2)) ∧ m = (if o.isSome = true then (if op = true then 0 else n' + 1) else 0), ⟨_, g, o, t', n', b', 4, cl, op, rfl, s, ?_, ?_, ?_, rfl⟩, ?_⟩
      · intro ho
        obtain ⟨x1, x2⟩ := so ho
        rw [ht]
        show (if op = true then t0 else drpT _ u t0.1 t0.2) = _
        cases op with
        | true =>
          rw [if_pos rfl, x2, ← x1]
        | false =>
          rw [if_neg (by simp), x1, x2]
          rfl
      · intro x ho hop
        obtain ⟨x1, x2, x3⟩ := sx x ho
        refine ⟨rfl, ?_⟩
        rw [ht]
        show (if op = true then t0 else drpT _ u t0.1 t0.2) = _
        rw [hop, if_neg (by simp), x1, x2]
      · intro x ho hop
        obtain ⟨x1, x2, x3⟩ := sx x ho
        rw [ht]
        show (if op = true then t0 else drpT _ u t0.1 t0.2) = _
        rw [hop, if_pos rfl, x2, ← x1]
      · rintro m σ' H' ⟨g, o, t', n', b', e, acc, op, rfl, s, t1, t2, t3, rfl⟩
        refine ev_ne0 (σ := [some (.ref pl), some (.ref a), some (.str "dropwhile"), some (.ref g)]) rfl s.g1 (hO s) H' (Ex.refl _) _ fun H3 e3 => ⟨_, rfl, ?_⟩
        have s3 := s.ex e3
        cases o with
        | none =>
          refine ibF rfl (ibF rfl ⟨_, rfl, ?_⟩)
          have htt := t1 rfl
          exact k2 (by rw [htt]) g _ (s3.ends (by rw [htt]))
        | some x =>
          refine ibT rfl ?_
          refine ⟨_, rfl, a, _, ((3 : Nat) : Int), _, rfl, rfl, sq_of s3.at_, atI_nat rfl, op, rfl, ?_⟩
          cases op with
          | true =>
            refine ibF rfl ⟨_, rfl, ?_⟩
            have htt := t3 x rfl rfl
            exact k1 acc x t'.1 (by rw [htt]) g _ (Pst.gives (nd := .drp u true) (nv := nv) hS s3 hn ⟨hok1, hok2⟩ hw hw (by rw [htt]; rfl))
          | false =>
            obtain ⟨he4, htt⟩ := t2 x rfl rfl
            subst he4
            refine ibT rfl ⟨fun σ2 H2 => ∃ m', m' < n' + 1 ∧ ∃ g o t' n' b' e acc op, σ2 = [some (.ref pl), some (.ref a), some (.str "dropwhile"), some (.ref g)] ∧ Pst B H H2 c ats rows a p ps n0 b wd0 cs acc ((Nd.drp u op).vals (.ref p) tv nv) g o t' n' b' e ∧ (o = none → t = ([], acc)) ∧
              (∀ x, o = some x → op = false → e = 4 ∧ t = drpT (truthOf ats rows) u ((acc, x) :: t'.1) t'.2) ∧ (∀ x, o = some x → op = true → t = ((acc, x) :: t'.1, t'.2)) ∧ m' = (if o.isSome = true then (if op = true then 0 else n' + 1) else 0), fun σ2 H2 h => h, ?_⟩
            refine ⟨_, rfl, _, rfl, a, _, ((2 : Nat) : Int), _, rfl, rfl, sq_of s3.at_, atI_nat rfl, ?_⟩
            refine ⟨_, rfl, g, _, ((0 : Nat) : Int), _, rfl, rfl, sq_of s3.g1, atI_nat rfl, ?_⟩
            refine nil_in ?_
            refine pass_in (cd := some (u, true)) hS hI s3 hok1 (fun q hq => by cases hq; exact hok2) fun H4 k4 s4 => ⟨_, rfl, ?_⟩
            have hcd : cdB (truthOf ats rows) x (some (u, true)) = truthOf ats rows x.1 (u ++ x.2) := by
              show decide (_ = true) = _
              cases truthOf ats rows x.1 (u ++ x.2) <;> rfl
            rw [hcd]
            refine ⟨_, rfl, a, _, ((3 : Nat) : Int), 3, rfl, rfl, s4.at_, rfl, ?_⟩
            have s5 := s4.set (vals' := [V.str "dropwhile", .ref p, tv, .bl (!truthOf ats rows x.1 (u ++ x.2))]) hS
            have hat := s5.at_
            refine ⟨_, rfl, a, _, ((3 : Nat) : Int), _, rfl, rfl, sq_of hat, atI_nat rfl, _, rfl, ?_⟩
            cases hT : truthOf ats rows x.1 (u ++ x.2) with
            | false =>
              rw [drp_miss hT] at htt
              rw [hT] at s5
              refine ibT rfl ⟨_, rfl, 0, by omega, g, some x, t', n', b', _, _, true, rfl, s5, fun h => (by cases h), fun y _ h => (by cases h), fun y hy _ => ?_, rfl⟩
              cases hy
              exact htt
            | true =>
              rw [drp_hit hT] at htt
              rw [hT] at s5
              refine ibF rfl ?_
              obtain ⟨r1, r2, r3, r4, r5⟩ := s5.hold x rfl
              have hat := s5.at_
              refine ⟨_, rfl, _, rfl, a, _, ((1 : Nat) : Int), _, rfl, rfl, sq_of s5.at_, atI_nat rfl, ?_⟩
              refine nil_in ?_
              refine pull_again hS hI hd' s5.kp s5.calls s5.at_ r1 (by omega) (by omega) fun g2 o2 cl2 H6 t2' n2 b2 s6 so2 sx2 _ _ => ?_
              refine ⟨_, ?_, g2, o2, t2', n2, b2, 4, _, false, rfl, s6, ?_, ?_, fun _ _ h => (by cases h), rfl⟩
              · cases o2 with
                | none => exact Nat.succ_pos _
                | some y =>
                  obtain ⟨y1, y2, y3⟩ := sx2 y rfl
                  show n2 + 1 < n' + 1
                  omega
              · intro ho
                obtain ⟨y1, y2⟩ := so2 ho
                rw [htt, y1, y2]
                rfl
              · intro y ho _
                obtain ⟨y1, y2, y3⟩ := sx2 y ho
                refine ⟨rfl, ?_⟩
                rw [htt, y1, drp_pre, y2]
                rfl
    | row cd w =>
      obtain ⟨hok1, hok2, hok3, hok4, hok5⟩ := hok
      refine ⟨_, rfl, a, _, ((0 : Nat) : Int), _, rfl, rfl, sq_of ha, atI_nat rfl, ?_⟩
      refine ⟨_, rfl, rfl, _, rfl, ?_⟩
      refine ifF (neS (by decide +kernel)) ?_
      refine ⟨_, rfl, rfl, _, rfl, ?_⟩
      refine ifF (neS (by decide +kernel)) ?_
      refine ⟨_, rfl, rfl, _, rfl, ?_⟩
      refine ifF (neS (by decide +kernel)) ?_
      refine ibF rfl ?_
      refine ⟨_, rfl, _, rfl, a, _, ((1 : Nat) : Int), _, rfl, rfl, sq_of ha, atI_nat rfl, ?_⟩
      refine nil_in ?_
      refine pull_again (acc := []) hS hI hd' (Kp.refl _ _) (by rw [List.append_nil]; exact hS.calls) ha hI.rep (Nat.le_refl _) (by simp only [List.length_nil]; omega) fun g o cl H2 t' n' b' s so sx _ _ => ?_
      rw [List.nil_append] at s
      refine ⟨_, rfl, rfl, _, rfl, ?_⟩
      refine ifF (neS (by decide +kernel)) ?_
      refine ⟨_, rfl, rfl, _, rfl, ?_⟩
      refine ifF (neS (by decide +kernel)) ?_
      refine ⟨fun m σ' H' => ∃ g o t' n' b' acc, σ' = [some (.ref pl), some (.ref a), some (.str "rows"), some (.ref g)] ∧ Pst B H H' c ats rows a p ps n0 b wd0 cs acc ((Nd.row cd w).vals (.ref p) tv nv) g o t' n' b' 4 ∧ (o = none → t = ([], acc)) ∧
        (∀ x, o = some x → t = rowT (truthOf ats rows) cd w ((acc, x) :: t'.1) t'.2) ∧ m = (if o.isSome = true then n' + 1 else 0), ⟨_, g, o, t', n', b', cl, rfl, s, ?_, ?_, rfl⟩, ?_⟩
      · intro ho
        obtain ⟨x1, x2⟩ := so ho
        rw [ht]
        show rowT _ cd w t0.1 t0.2 = _
        rw [x1, x2]
        rfl
      · intro x ho
        obtain ⟨x1, x2, x3⟩ := sx x ho
        rw [ht]
        show rowT _ cd w t0.1 t0.2 = _
        rw [x1, x2]
      · rintro m σ' H' ⟨g, o, t', n', b', acc, rfl, s, t1, t2, rfl⟩
        refine ev_ne0 (σ := [some (.ref pl), some (.ref a), some (.str "rows"), some (.ref g)]) rfl s.g1 (hO s) H' (Ex.refl _) _ fun H3 e3 => ⟨_, rfl, ?_⟩
        have s3 := s.ex e3
        cases o with
        | none =>
          refine ibF rfl (ibF rfl ?_)
          have htt := t1 rfl
          refine ev_ne0 (σ := [some (.ref pl), some (.ref a), some (.str "rows"), some (.ref g)]) rfl s3.g1 (hO s3) H3 (Ex.refl _) _ fun H4 e4 => ⟨_, rfl, ?_⟩
          have s4 := s3.ex e4
          refine ibF rfl ⟨Nat.zero_le _, fun r hr => ?_⟩
          refine k2 (by rw [htt]) r _ ⟨s4.kp.new hr, s4.kp.none_of hr, upd_same, ?_, ?_⟩
          · rw [upd_ne (fun e => by rw [← e, s4.calls] at hr; cases hr), htt]
            exact s4.calls
          · rw [htt]
            exact s4.few
        | some x =>
          have htt := t2 x rfl
          refine ibT rfl ?_
          refine ⟨_, rfl, _, rfl, a, _, ((2 : Nat) : Int), _, rfl, rfl, sq_of s3.at_, atI_nat rfl, ?_⟩
          refine ⟨_, rfl, g, _, ((0 : Nat) : Int), _, rfl, rfl, sq_of s3.g1, atI_nat rfl, ?_⟩
          refine nil_in ?_
          refine pass_in (cd := cd) hS hI s3 hok1 (fun q hq => (hok5 q hq).1) fun H4 k4 s4 => ⟨_, rfl, ?_⟩
          obtain ⟨r1, r2, r3, r4, r5⟩ := s4.hold x rfl
          cases hcd : cdB (truthOf ats rows) x cd with
          | true =>
            rw [row_hit hcd] at htt
            refine ibF rfl ?_
            refine ev_ne0 (σ := [some (.ref pl), some (.ref a), some (.str "rows"), some (.ref g)]) rfl s4.g1 (hO s4) H4 (Ex.refl _) _ fun H5 e5 => ⟨_, rfl, ?_⟩
            have s5 := s4.ex e5
            obtain ⟨r1, r2, r3, r4, r5⟩ := s5.hold x rfl
            have hB5 := ex_kp hS.ex s5.kp hS.out
            have hfew := hS.few
            have hs5 := s5.few
            have hwl := hI.len
            have hcl : (cdC x cd).length + w.length ≤ 4 := by
              cases cd with
              | none =>
                show 0 + w.length ≤ 4
                omega
              | some q =>
                obtain ⟨z1, z2⟩ := hok5 q rfl
                rw [z2]
                show (behC x.1 q.1 x.2).length + 0 ≤ 4
                rw [behC_len]
                have := z1.2.2.1
                omega
            refine ibT rfl ?_
            refine ⟨_, rfl, _, rfl, a, _, ((3 : Nat) : Int), _, rfl, rfl, sq_of s5.at_, atI_nat rfl, ?_⟩
            refine ⟨_, rfl, g, _, ((0 : Nat) : Int), _, rfl, rfl, sq_of s5.g1, atI_nat rfl, ?_⟩
            refine nil_in ?_
            refine ⟨pl, c, ats, rows, nv, w, x, _, rfl, hI.play.ex hB5, hok2.fx (Fx.of hB5), hok3, by omega, by rw [r2]; exact hI.word, by rw [r2]; omega, s5.calls, by rw [List.length_append]; omega, fun H6 k6 hc6 => ?_⟩
            refine nil_in ⟨by show 1 ≤ sizeLine; decide, fun r hr => ?_⟩
            have hb6 := behC_len x.1 w x.2
            have k06 : Kp (c :: a :: p :: ps) H H6 := s5.kp.trans (k6.mono fun y hy => by rw [List.mem_singleton] at hy; subst hy; exact List.mem_cons_self ..)
            have hz := nd4 hS.nd
            have ha6 : H6 a = some (.lst ((Nd.row cd w).vals (.ref p) tv nv)) := k6.lst s5.at_ (by simpa using hz.1)
            have r6 : RepS B H6 ats rows p ps t' n' b' wd0 := r1.kp k6 fun y hy hh => by rw [List.mem_singleton] at hh; subst hh; exact hz.2.2 hy
            have hr1 : ∀ y ∈ p :: ps, y ≠ r := fun y hy e => r6.some y hy (by rw [e]; exact hr)
            have hca : c ≠ r := fun e => by rw [← e, hc6] at hr; cases hr
            have haa : a ≠ r := fun e => by rw [← e, ha6] at hr; cases hr
            refine k1 (acc ++ cdC x cd ++ behC x.1 w x.2) (x.1, w ++ x.2) _ (by rw [htt]) r _ ⟨n', b' + 4 * n', k06.new hr, k06.none_of hr, upd_same, ?_, ?_, by omega, ?_, ?_, r3⟩
            · rw [upd_ne hca, hc6]
              simp only [List.append_assoc]
            · refine ⟨.row cd w, tv, nv, t', n', b', wd0, ?_, by rw [upd_ne haa]; exact ha6, ?_, ⟨hok1, hok2, hok3, hok4, hok5⟩, Nat.le_refl _, Nat.le_refl _, hw⟩
              · exact r6.kp (Kp.of (S := []) (Ex.new hr)) fun _ _ => by simp
              · rw [htt]
                rfl
            · rw [List.length_append, List.length_append, hb6]
              obtain ⟨_, _, _, _, r7⟩ := s3.hold x rfl
              omega
            · rw [hw, r2]
              rfl
          | false =>
            rw [row_miss hcd] at htt
            refine ibT rfl ⟨fun σ2 H2 => ∃ m', m' < n' + 1 ∧ ∃ g o t' n' b' acc, σ2 = [some (.ref pl), some (.ref a), some (.str "rows"), some (.ref g)] ∧ Pst B H H2 c ats rows a p ps n0 b wd0 cs acc ((Nd.row cd w).vals (.ref p) tv nv) g o t' n' b' 4 ∧ (o = none → t = ([], acc)) ∧
              (∀ x, o = some x → t = rowT (truthOf ats rows) cd w ((acc, x) :: t'.1) t'.2) ∧ m' = (if o.isSome = true then n' + 1 else 0), fun σ2 H2 h => h, ?_⟩
            refine ⟨_, rfl, _, rfl, a, _, ((1 : Nat) : Int), _, rfl, rfl, sq_of s4.at_, atI_nat rfl, ?_⟩
            refine nil_in ?_
            refine pull_again hS hI hd' s4.kp s4.calls s4.at_ r1 (by omega) (by omega) fun g2 o2 cl2 H6 t2' n2 b2 s6 so2 sx2 _ _ => ?_
            refine ⟨_, ?_, g2, o2, t2', n2, b2, _, rfl, s6, ?_, ?_, rfl⟩
            · cases o2 with
              | none => exact Nat.succ_pos _
              | some y =>
                obtain ⟨y1, y2, y3⟩ := sx2 y rfl
                show n2 + 1 < n' + 1
                omega
            · intro ho
              obtain ⟨y1, y2⟩ := so2 ho
              rw [htt, y1, y2]
              rfl
            · intro y ho
              obtain ⟨y1, y2, y3⟩ := sx2 y ho
              rw [htt, y1, row_pre, y2]
end
end CF

/-! text CfQM -/
set_option Elab.async false
set_option linter.all false
set_option maxRecDepth 100000
set_option maxHeartbeats 4000000
/-! one value pulled from an islice; all values -/
namespace CF
open PySem PySem.Spec PyProof.Rows L2 Evl
section
variable {T : Nat → List Nm → Bool} {c a : List (Tm Nm)} {x : Tm Nm} {ev : List (List (Tm Nm) × Tm Nm)} {tl : List (Tm Nm)} {stop : Option Nat} {step cnt nxt : Nat}
def stopped (stop : Option Nat) (cnt : Nat) : Bool := stop.any fun m => decide (m ≤ cnt)
theorem isl_skip0 (h : cnt < nxt) : islT stop step cnt nxt ([] : List (List (Tm Nm) × Tm Nm)) tl = ([], tl) := by simp [islT, h]
theorem isl_skip (h : cnt < nxt) : islT stop step cnt nxt ((c, x) :: ev) tl = pre c (islT stop step (cnt + 1) nxt ev tl) := by simp [islT, h]
theorem isl_stop (h : ¬ cnt < nxt) (hs : stopped stop cnt = true) (e : List (List (Tm Nm) × Tm Nm)) : islT stop step cnt nxt e tl = ([], []) := by
  cases e with
  | nil => simp only [islT, if_neg h]; exact if_pos hs
  | cons z r =>
    obtain ⟨c, x⟩ := z
    simp only [islT, if_neg h]
    exact if_pos hs
theorem isl_end (h : ¬ cnt < nxt) (hs : stopped stop cnt = false) : islT stop step cnt nxt ([] : List (List (Tm Nm) × Tm Nm)) tl = ([], tl) := by
  simp only [islT, if_neg h]
  exact if_neg (by rw [show stop.any (fun m => decide (m ≤ cnt)) = false from hs]; simp)
theorem isl_give (h : ¬ cnt < nxt) (hs : stopped stop cnt = false) : islT stop step cnt nxt ((c, x) :: ev) tl = ((c, x) :: (islT stop step (cnt + 1) (nxt + step) ev tl).1, (islT stop step (cnt + 1) (nxt + step) ev tl).2) := by
  simp only [islT, if_neg h]
  exact if_neg (by rw [show stop.any (fun m => decide (m ≤ cnt)) = false from hs]; simp)
theorem pre_some (a : List (Tm Nm)) : pre a ((c, x) :: ev, tl) = ((a ++ c, x) :: ev, tl) := rfl
theorem pre_none (a : List (Tm Nm)) : pre a (([], tl) : Tr Nm) = ([], a ++ tl) := rfl
end
section
variable {K : PySem.W.Frag} {mg : Str → Option Value} {vs : List V} {B H H1 H2 H' : Hp} {Q : VK} {E : XK} {σ : L2.St} {ta tb : TE} {ats : List (List Nm)} {rows : List (List Bool)}
theorem p__law_pull_slice (d : Nat) (h : sp__law_pull_slice (d + 1) vs H Q E) : r__law_pull_slice K (sp__law_pull d) (ends Q) (start ["_law_play_here", "_law_source", "_law_got"] vs) H := by
  obtain ⟨B, pl, c, ats, rows, a, ps, t, n, b, wd, cs, rfl, hS, hd, ⟨src, stop0, cnt0, nxt0, step0, hisl⟩, k1, k2⟩ := h
  cases ps with
  | nil =>
    obtain ⟨L, xs, pos, ha, _⟩ := hS.rep
    rw [hisl] at ha
    injection ha with ha
    injection ha with ha
    simp at ha
  | cons p ps =>
    obtain ⟨nd, tv, nv, t0, n0, b0, wd0, hI, ha, ht, hok, hn, hb, hw⟩ := hS.inner
    have hd' : ps.length < d := by simp only [List.length_cons] at hd; omega
    have hO : ∀ {H' : Hp} {acc : List (Tm Nm)} {vals : List V} {g : Addr} {o : Option (Tm Nm)} {t' : Tr Nm} {n' b' e : Nat}, Pst B H H' c ats rows a p ps n0 b wd0 cs acc vals g o t' n' b' e → ∀ x, o = some x → wordB x.2 = true ∧ x.1 ≤ 9 := fun s x hx => by
      obtain ⟨_, z1, z2, _⟩ := s.hold x hx
      have := hI.wb.many
      exact ⟨by rw [z1]; exact hI.word, by omega⟩
    obtain ⟨stop, step, cnt, nxt, rfl⟩ : ∃ stop step cnt nxt, nd = .isl stop step cnt nxt := by
      rw [hisl] at ha
      cases nd with
      | isl stop step cnt nxt => exact ⟨_, _, _, _, rfl⟩
      | tak u => simp [Nd.vals] at ha
      | drp u op => simp [Nd.vals] at ha
      | row cd w => simp [Nd.vals] at ha
    clear hisl
    have hz := nd4 hS.nd
    -- the values that are skipped
    refine ⟨fun m σ' H' => ∃ acc t' n' b', ∃ i : Nat, σ' = [some (.ref pl), some (.ref a), none] ∧ Kp (c :: a :: p :: ps) H H' ∧ H' c = some (.lst (cV (cs ++ acc))) ∧ H' a = some (.lst ((Nd.isl stop step i nxt).vals (.ref p) tv nv)) ∧ RepS B H' ats rows p ps t' n' b' wd0 ∧ n' ≤ n0 ∧ acc.length + b' + 4 * n' ≤ b ∧ t = pre acc (islT stop step i nxt t'.1 t'.2) ∧ m = nxt - i, ⟨_, [], t0, n0, b0, cnt, rfl, Kp.refl _ _, by rw [List.append_nil]; exact hS.calls, ha, hI.rep, Nat.le_refl _, by simp only [List.length_nil]; omega, by rw [pre_nil]; exact ht, rfl⟩, ?_⟩
    rintro m σ' H' ⟨acc, t', n', b', i, rfl, kp, hc, ha', hr, hn', hb', htt, rfl⟩
    refine ⟨_, rfl, a, _, ((2 : Nat) : Int), _, rfl, rfl, sq_of ha', atI_nat rfl, ?_⟩
    refine ⟨_, rfl, a, _, ((3 : Nat) : Int), _, rfl, rfl, sq_of ha', atI_nat rfl, _, _, rfl, rfl, _, rfl, ?_⟩
    by_cases hlt : i < nxt
    · refine ibT (decide_eq_true (by omega)) ⟨fun σ2 H2 => ∃ m', m' < nxt - i ∧ ∃ acc t' n' b', ∃ i : Nat, σ2 = [some (.ref pl), some (.ref a), none] ∧ Kp (c :: a :: p :: ps) H H2 ∧ H2 c = some (.lst (cV (cs ++ acc))) ∧ H2 a = some (.lst ((Nd.isl stop step i nxt).vals (.ref p) tv nv)) ∧ RepS B H2 ats rows p ps t' n' b' wd0 ∧ n' ≤ n0 ∧ acc.length + b' + 4 * n' ≤ b ∧ t = pre acc (islT stop step i nxt t'.1 t'.2) ∧ m' = nxt - i, fun σ2 H2 h => h, ?_⟩
      refine ⟨_, rfl, _, rfl, a, _, ((1 : Nat) : Int), _, rfl, rfl, sq_of ha', atI_nat rfl, ?_⟩
      refine nil_in ?_
      refine pull_again hS hI hd' kp hc ha' hr hn' hb' fun g o cl H2 t2 n2 b2 s so sx _ _ => ?_
      refine ⟨Nat.zero_le _, fun e he => ?_⟩
      have s2 := s.ex (Ex.new (o := HO.lst []) he)
      refine rv_eq0 (o := o) s2.g1 upd_same (hO s2) ⟨_, rfl, ?_⟩
      cases o with
      | none =>
        obtain ⟨x1, x2⟩ := so rfl
        rw [x1, isl_skip0 hlt, pre_none, ← x2] at htt
        refine ibT rfl ⟨Nat.zero_le _, fun r hr2 => ?_⟩
        refine k2 (by rw [htt]) r _ ⟨s2.kp.new hr2, s2.kp.none_of hr2, upd_same, ?_, ?_⟩
        · rw [upd_ne (fun e => by rw [← e, s2.calls] at hr2; cases hr2), htt]
          exact s2.calls
        · rw [htt]
          exact s2.few
      | some x =>
        obtain ⟨x1, x2, x3⟩ := sx x rfl
        rw [x1, isl_skip hlt, pre_pre] at htt
        refine ibF rfl ?_
        refine ⟨_, rfl, a, _, ((2 : Nat) : Int), _, rfl, rfl, sq_of s2.at_, atI_nat rfl, _, _, rfl, rfl, ?_⟩
        refine ⟨_, rfl, a, _, ((2 : Nat) : Int), 2, rfl, rfl, s2.at_, rfl, ?_⟩
        have s3 := s2.set (vals' := [V.str "islice", .ref p, .int ((i : Int) + 1), .int nxt, optV stop, .int step]) hS
        obtain ⟨y1, y2, y3, y4, y5⟩ := s3.hold x rfl
        exact ⟨nxt - (i + 1), by omega, _, t2, n2, b2, i + 1, rfl, s3.kp, s3.calls, s3.at_, y1, by omega, by omega, by rw [htt, x2], rfl⟩
    · refine ibF (decide_eq_false (by omega)) ?_
      have rest : stopped stop i = false → tSeq (tAsg (tCall (sp__law_pull d) [] C8.E0 (tCons (tVar 0) (tCons (tOp (rIxL K) (tVar 1) (tC (.int 1))) tNil))) (gName 2)) (tSeq (tAsg (tTup (tCons (tOp rAddI (tOp (rIxL K) (tVar 1) (tC (.int 2))) (tC (.int 1))) (tCons (tOp rAddI (tOp (rIxL K) (tVar 1) (tC (.int 3))) (tOp (rIxL K) (tVar 1) (tC (.int 5)))) tNil))) (gTup K 2 (gCons (gSub (tVar 1) (tC (.int 2)) rSetL) (gCons (gSub (tVar 1) (tC (.int 3)) rSetL) gNil)))) (tRet (tVar 2))) (ends Q) [some (.ref pl), some (.ref a), none] H' := by
        intro hst
        refine ⟨_, rfl, _, rfl, a, _, ((1 : Nat) : Int), _, rfl, rfl, sq_of ha', atI_nat rfl, ?_⟩
        refine nil_in ?_
        refine pull_again hS hI hd' kp hc ha' hr hn' hb' fun g o cl H2 t2 n2 b2 s so sx _ _ => ?_
        refine ⟨_, rfl, a, _, ((2 : Nat) : Int), _, rfl, rfl, sq_of s.at_, atI_nat rfl, _, _, rfl, rfl, ?_⟩
        refine ⟨_, rfl, a, _, ((3 : Nat) : Int), _, rfl, rfl, sq_of s.at_, atI_nat rfl, ?_⟩
        refine ⟨_, rfl, a, _, ((5 : Nat) : Int), _, rfl, rfl, sq_of s.at_, atI_nat rfl, _, _, rfl, rfl, ?_⟩
        refine nil_in ⟨by show 2 ≤ sizeLine; decide, fun q hq => ⟨q, _, rfl, st_of upd_same, rfl, ?_⟩⟩
        have s2 := s.ex (Ex.new (o := HO.tup [.int ((i : Int) + 1), .int ((nxt : Int) + (step : Int))]) hq)
        refine ⟨_, _, rfl, _, rfl, a, _, ((2 : Nat) : Int), 2, rfl, rfl, s2.at_, rfl, ?_⟩
        have s3 := s2.set (vals' := [V.str "islice", .ref p, .int ((i : Int) + 1), .int nxt, optV stop, .int step]) hS
        refine ⟨_, _, rfl, _, rfl, a, _, ((3 : Nat) : Int), 3, rfl, rfl, s3.at_, rfl, ?_⟩
        have s4 := s3.set (vals' := (Nd.isl stop step (i + 1) (nxt + step)).vals (.ref p) tv nv) hS
        refine ⟨rfl, _, rfl, ?_⟩
        cases o with
        | none =>
          obtain ⟨x1, x2⟩ := so rfl
          rw [x1, isl_end hlt hst, pre_none, ← x2] at htt
          exact k2 (by rw [htt]) g _ (s4.ends (by rw [htt]))
        | some x =>
          obtain ⟨x1, x2, x3⟩ := sx x rfl
          rw [x1, isl_give hlt hst, pre_some] at htt
          refine k1 (acc ++ cl) x _ (by rw [htt]) g _ (Pst.gives (nd := .isl stop step (i + 1) (nxt + step)) (tv := tv) (nv := nv) hS s4 hn trivial hw hw ?_)
          rw [htt, ← x2]
          rfl
      refine ⟨_, rfl, a, _, ((4 : Nat) : Int), _, rfl, rfl, sq_of ha', atI_nat rfl, rfl, _, rfl, ?_⟩
      cases stop with
      | none => exact ibF rfl (ibF rfl (rest rfl))
      | some m =>
        refine ibT rfl ?_
        refine ⟨_, rfl, a, _, ((2 : Nat) : Int), _, rfl, rfl, sq_of ha', atI_nat rfl, ?_⟩
        refine ⟨_, rfl, a, _, ((4 : Nat) : Int), _, rfl, rfl, sq_of ha', atI_nat rfl, (i : Int), (m : Int), rfl, rfl, _, rfl, ?_⟩
        by_cases hm : m ≤ i
        · refine ibT (decide_eq_true (by omega)) ⟨Nat.zero_le _, fun r hr2 => ?_⟩
          rw [isl_stop hlt (show stopped (some m) i = true from decide_eq_true hm), pre_none, List.append_nil] at htt
          refine k2 (by rw [htt]) r _ ⟨kp.new hr2, kp.none_of hr2, upd_same, ?_, by rw [htt]; show acc.length ≤ b; omega⟩
          rw [upd_ne (fun e => by rw [← e, hc] at hr2; cases hr2), htt]
          exact hc
        · exact ibF (decide_eq_false (by omega)) (rest (show stopped (some m) i = false from decide_eq_false hm))
end
end CF

/-! text CfQN -/
set_option Elab.async false
set_option linter.all false
set_option maxRecDepth 100000
set_option maxHeartbeats 4000000
/-! all that a source gives -/
namespace CF
open PySem PySem.Spec PyProof.Rows L2 Evl
section
variable {K : PySem.W.Frag} {mg : Str → Option Value} {vs : List V} {B H H1 H2 H' : Hp} {Q : VK} {E : XK} {σ : L2.St} {ta tb : TE} {ats : List (List Nm)} {rows : List (List Bool)}
theorem flat_cons (cl : List (Tm Nm)) (x : Tm Nm) (ev : List (List (Tm Nm) × Tm Nm)) (tl : List (Tm Nm)) : flat (((cl, x) :: ev, tl) : Tr Nm) = (x :: (flat (ev, tl)).1, cl ++ (flat (ev, tl)).2) := by simp [flat]
theorem flat_nil (tl : List (Tm Nm)) : flat (([], tl) : Tr Nm) = ([], tl) := by simp [flat]
/-- a source under way: fs was given before, acc was called; o came last -/
structure Ast (B H H' : Hp) (c : Addr) (ats : List (List Nm)) (rows : List (List Bool)) (a : Addr) (ps : List Addr) (t : Tr Nm) (n b : Nat) (wd : List Nm) (cs : List (Tm Nm)) (F g : Addr) (fs acc : List (Tm Nm)) (o : Option (Tm Nm)) (t' : Tr Nm) (n' b' : Nat) : Prop where
  kp : Kp (c :: a :: ps) H H'
  f0 : H F = none
  f1 : H' F = some (.lst (cV fs))
  g0 : H g = none
  g1 : H' g = some (.lst (cV (Option.toList o)))
  calls : H' c = some (.lst (cV (cs ++ acc)))
  fl : flat t = (fs ++ (Option.toList o ++ (flat t').1), acc ++ (flat t').2)
  vals : ∀ x ∈ fs ++ Option.toList o, x.2 = wd ∧ x.1 < rows.length
  many : fs.length + (Option.toList o).length ≤ n
  few : acc.length ≤ b
  hold : ∀ x, o = some x → RepS B H' ats rows a ps t' n' b' wd ∧ fs.length + 1 + n' ≤ n ∧ acc.length + b' ≤ b
  done : o = none → t' = ([], [])
theorem p__law_all (d : Nat) (h : sp__law_all d vs H Q E) : r__law_all K (sp__law_pull d) (ends Q) (start ["_law_play_here", "_law_source", "_law_found", "_law_got"] vs) H := by
  obtain ⟨B, pl, c, ats, rows, a, ps, t, n, b, wd, cs, rfl, hS, hd, hn, k⟩ := h
  have hfew := hS.few
  have hcl : ∀ {H' : Hp} {F : Addr}, H F = none → F ∉ c :: a :: ps := fun h0 hm => by
    rcases List.mem_cons.mp hm with e | hm
    · rw [e, hS.calls] at h0; cases h0
    · exact hS.rep.some _ hm h0
  -- one more pull
  have again : ∀ {H1 : Hp} {F : Addr} {fs acc : List (Tm Nm)} {t1 : Tr Nm} {n1 b1 : Nat} {Q' : VK} {E' : XK}, Kp (c :: a :: ps) H H1 → H F = none → H1 F = some (.lst (cV fs)) → H1 c = some (.lst (cV (cs ++ acc))) → RepS B H1 ats rows a ps t1 n1 b1 wd → flat t = (fs ++ (flat t1).1, acc ++ (flat t1).2) → (∀ x ∈ fs, x.2 = wd ∧ x.1 < rows.length) → fs.length + n1 ≤ n → acc.length + b1 ≤ b →
      (∀ g o acc' H2 t' n' b', Ast B H H2 c ats rows a ps t n b wd cs F g fs acc' o t' n' b' → (∀ x, o = some x → n' + 1 ≤ n1) → Q' (.ref g) H2) → sp__law_pull d [.ref pl, .ref a] H1 Q' E' := by
    intro H1 F fs acc t1 n1 b1 Q' E' hk hF hF1 hc hr hfl hv hm hb q
    have hsrc : Src B H1 pl c ats rows a ps t1 n1 b1 wd (cs ++ acc) := ⟨hS.play, hS.wb, ex_kp hS.ex hk hS.out, hS.out, hS.nd, hr, hc, by rw [List.length_append]; omega, hS.word, hS.len⟩
    refine pull_in hsrc hd fun g o cl H2 k2 g0 g1 hc2 nx => ?_
    have hk2 := hk.trans k2
    have hF2 : H2 F = some (.lst (cV fs)) := k2.keep F _ hF1 (hcl (H' := H) hF)
    rw [List.append_assoc] at hc2
    cases o with
    | none =>
      obtain ⟨x1, x2, x3⟩ := nx
      refine q g none (acc ++ cl) H2 ([], []) n1 b1 ⟨hk2, hF, hF2, hk.none_of g0, g1, hc2, ?_, by simpa [Option.toList] using hv, by simp [Option.toList]; omega, by rw [List.length_append]; omega, fun x hx => (by cases hx), fun _ => rfl⟩ fun x hx => by cases hx
      obtain ⟨ev1, tl1⟩ := t1
      simp only at x1 x2
      subst x1 x2
      rw [hfl, flat_nil]
      simp [Option.toList, flat]
    | some x =>
      obtain ⟨ev, n', b', x1, x2, x3, x4, x5, x6⟩ := nx
      refine q g (some x) (acc ++ cl) H2 (ev, t1.2) n' b' ⟨hk2, hF, hF2, hk.none_of g0, g1, hc2, ?_, ?_, by simp [Option.toList]; omega, by rw [List.length_append]; omega, fun y hy => ?_, fun h => by cases h⟩ fun y _ => x3
      · obtain ⟨ev1, tl1⟩ := t1
        simp only at x1
        subst x1
        rw [hfl, flat_cons]
        simp [Option.toList]
      · intro y hy
        rcases List.mem_append.mp hy with hy | hy
        · exact hv y hy
        · have : y = x := by simpa [Option.toList] using hy
          rw [this]
          exact ⟨x5, x6⟩
      · cases hy
        exact ⟨x2, by omega, by rw [List.length_append]; omega⟩
  refine ⟨Nat.zero_le _, fun F hF => ⟨_, rfl, _, rfl, ?_⟩⟩
  have eF : Ex H (upd H F (.lst [])) := Ex.new hF
  refine nil_in ?_
  refine again (F := F) (fs := []) (acc := []) (t1 := t) (n1 := n) (b1 := b) (Kp.of eF) hF upd_same (by rw [List.append_nil]; exact eF c _ hS.calls) (hS.rep.kp (Kp.of (S := []) eF) fun _ _ => by simp) (by simp) (by simp) (by simp) (by simp) fun g o acc H2 t' n' b' s _ => ?_
  refine ⟨_, _, rfl, ?_⟩
  refine ⟨fun m σ' H' => ∃ F g fs acc o t' n' b', σ' = [some (.ref pl), some (.ref a), some (.ref F), some (.ref g)] ∧ Ast B H H' c ats rows a ps t n b wd cs F g fs acc o t' n' b' ∧ m = (if o.isSome = true then n' + 1 else 0), ⟨_, F, g, [], acc, o, t', n', b', rfl, s, rfl⟩, ?_⟩
  rintro m σ' H' ⟨F, g, fs, acc, o, t', n', b', rfl, s, rfl⟩
  have hO : ∀ x, o = some x → wordB x.2 = true ∧ x.1 ≤ 9 := fun x hx => by
    obtain ⟨z1, z2⟩ := s.vals x (by rw [hx]; simp [Option.toList])
    have := hS.wb.many
    exact ⟨by rw [z1]; exact hS.word, by omega⟩
  refine ev_ne0 (σ := [some (.ref pl), some (.ref a), some (.ref F), some (.ref g)]) rfl s.g1 hO H' (Ex.refl _) _ fun H3 e3 => ⟨_, rfl, ?_⟩
  have f3 := e3 F _ s.f1
  have g3 := e3 g _ s.g1
  have c3 := e3 c _ s.calls
  have k3 := s.kp.trans (Kp.of e3)
  cases o with
  | none =>
    have hd0 := s.done rfl
    have hfl := s.fl
    rw [hd0] at hfl
    have hfl : flat t = (fs, acc) := by rw [hfl]; simp [Option.toList, flat]
    refine ibF rfl ⟨_, rfl, k F H3 k3 s.f0 (by rw [hfl]; exact f3) (by rw [hfl]; exact c3) (by rw [hfl]; have := s.many; simp [Option.toList] at this; exact this) (by rw [hfl]; exact s.few) ?_⟩
    rw [hfl]
    have := s.vals
    simpa [Option.toList] using this
  | some x =>
    obtain ⟨r1, r2, r3⟩ := s.hold x rfl
    refine ibT rfl ⟨fun σ2 H2 => ∃ m', m' < n' + 1 ∧ ∃ F g fs acc o t' n' b', σ2 = [some (.ref pl), some (.ref a), some (.ref F), some (.ref g)] ∧ Ast B H H2 c ats rows a ps t n b wd cs F g fs acc o t' n' b' ∧ m' = (if o.isSome = true then n' + 1 else 0), fun σ2 H2 h => h, ?_⟩
    have hfv := s.vals
    have hfl := s.fl
    simp only [Option.toList] at hfv hfl g3
    refine ⟨_, rfl, _, rfl, F, g, _, _, rfl, rfl, f3, g3, ?_, fun q hq => ?_⟩
    · rw [← List.length_append, ← cV_app]
      unfold cV
      rw [List.length_map, List.length_append]
      exact sz_of (by simp; omega)
    · have e4 : Ex H3 (upd H3 q (.lst (cV fs ++ cV [x]))) := Ex.new hq
      have e34 := e3.trans e4
      refine ⟨_, rfl, _, rfl, ?_⟩
      refine nil_in ?_
      refine again (F := q) (fs := fs ++ [x]) (acc := acc) (t1 := t') (n1 := n') (b1 := b') (s.kp.trans (Kp.of e34)) (k3.none_of hq) (by rw [upd_same, cV_app]) (e4 c _ c3) (r1.kp (Kp.of (S := []) e34) fun _ _ => by simp) (by rw [hfl]; simp) hfv (by simp; omega) r3 fun g2 o2 acc2 H5 t2 n2 b2 s5 hn2 => ?_
      refine ⟨_, _, rfl, _, ?_, q, g2, fs ++ [x], acc2, o2, t2, n2, b2, rfl, s5, rfl⟩
      cases o2 with
      | none => exact Nat.succ_pos _
      | some y =>
        have := hn2 y rfl
        show n2 + 1 < n' + 1
        omega
end
end CF

/-! text CfQO -/
set_option Elab.async false
set_option linter.all false
set_option maxRecDepth 100000
set_option maxHeartbeats 4000000
/-! texts cut -/
namespace CF
open PySem PySem.Spec PyProof.Rows L2 Evl
theorem sl_S (a : List Nat) (lo hi : Option Int) : Txt.slice (SX.S a) lo hi = SX.S ((a.drop (HT.sIx a.length 0 lo)).take (HT.sIx a.length a.length hi - HT.sIx a.length 0 lo)) := by
  rw [← C8.cutS_slice]
  have : (SX.S a).length = a.length := SX.S_len a
  unfold cutS
  rw [this]
theorem sIx_neg (n d k : Nat) (h : 1 ≤ k) : HT.sIx n d (some (-(k : Int))) = n - k := by
  show (if -(k : Int) < 0 then (-(k : Int) + (n : Int)).toNat else min (-(k : Int)).toNat n) = n - k
  rw [if_pos (by omega)]
  omega
theorem sl_mid (p m q : List Nat) {i j : Int} (hi : i = (p.length : Int)) (hj : j = -(q.length : Int)) (hq : 1 ≤ q.length) : Txt.slice (SX.S (p ++ (m ++ q))) (some i) (some j) = SX.S m := by
  subst hi hj
  rw [sl_S, HT.sIx_nat, sIx_neg _ _ _ hq]
  simp only [List.length_append]
  rw [Nat.min_eq_left (by omega), List.drop_left, show p.length + (m.length + q.length) - q.length - p.length = m.length by omega, List.take_left]
theorem sl_neg (m q : List Nat) {j : Int} (hj : j = -(q.length : Int)) (hq : 1 ≤ q.length) : Txt.slice (SX.S (m ++ q)) none (some j) = SX.S m := by
  subst hj
  rw [sl_S, HT.sIx_none, sIx_neg _ _ _ hq]
  simp only [List.length_append, List.drop_zero]
  rw [show m.length + q.length - q.length - 0 = m.length by omega, List.take_left]
theorem sl_two (p m q : List Nat) {i j : Int} (hi : i = (p.length : Int)) (hj : j = ((p.length + m.length : Nat) : Int)) : Txt.slice (SX.S (p ++ (m ++ q))) (some i) (some j) = SX.S m := by
  subst hi hj
  rw [sl_S, HT.sIx_nat, HT.sIx_nat]
  simp only [List.length_append]
  rw [Nat.min_eq_left (by omega), Nat.min_eq_left (by omega), List.drop_left, show p.length + m.length - p.length = m.length by omega, List.take_left]
theorem find_one (p q : List Nat) (c : Nat) (h : c ∉ p) : Txt.find (SX.S (p ++ (c :: q))) (SX.S [c]) = ((p.length : Nat) : Int) := by
  have key : ∀ i, StrLaws.At (SX.S (p ++ (c :: q))) (SX.S [c]) (SX.S (p ++ (c :: q))).length i ↔ TL.pre [c] ((p ++ (c :: q)).drop i) = true := fun i => TL.at_iff (by simp [TL.tl, SX.S]) i
  have hit : TL.pre [c] ((p ++ (c :: q)).drop p.length) = true := by
    rw [List.drop_left]
    simp [TL.pre]
  rcases find_whole (SX.S (p ++ (c :: q))) (SX.S [c]) with ⟨_, hn⟩ | ⟨i, h1, h2, h3⟩
  · exact absurd ((key _).mpr hit) (hn _)
  · rw [h1]
    congr 1
    rcases Nat.lt_trichotomy i p.length with hl | he | hg
    · have := (key i).mp h2
      obtain ⟨d, r, e, hd⟩ : ∃ d r, p.drop i = d :: r ∧ d ∈ p := ⟨_, _, List.drop_eq_getElem_cons hl, List.getElem_mem _⟩
      rw [List.drop_append_of_le_length (by omega), e] at this
      simp [TL.pre] at this
      exact absurd (by rw [← this]; exact hd) h
    · exact he
    · exact absurd ((key _).mpr hit) (h3 _ hg)
theorem take_ne {a l : List Nat} {n k : Nat} {c d : Nat} (hk : k < n) (ha : a[k]? = some c) (hl : l[k]? = some d) (h : c ≠ d) : SX.S (a.take n) ≠ SX.S l := fun e => by
  have e2 : a.take n = l := by
    have := congrArg (fun x : Str => x.cps.toList) e
    exact this
  rw [← e2, List.getElem?_take, if_pos hk, ha] at hl
  exact h (Option.some.inj hl)
theorem S_ne {a l : List Nat} (h : a ≠ l) : SX.S a ≠ SX.S l := fun e => h (congrArg (fun x : Str => x.cps.toList) e)
end CF

/-! text CfSpE -/
set_option Elab.async false
set_option linter.all false
set_option maxRecDepth 100000
set_option maxHeartbeats 2000000
/-! what the law's own defs promise: lines carried out -/
namespace CF
open PySem PySem.Spec PyProof.Rows L2 Evl
/-- what is new -/
def New (H H1 : Hp) : Hp := fun a => if (H a).isSome = true then none else H1 a
theorem new_at {H H1 : Hp} {a : Addr} {o : HO} (h : H a = none) (h1 : H1 a = some o) : New H H1 a = some o := by
  unfold New
  rw [h]
  exact h1
theorem new_get {H H1 : Hp} {a : Addr} {o : HO} (h : New H H1 a = some o) : H a = none ∧ H1 a = some o := by
  unfold New at h
  cases hx : H a with
  | none =>
    rw [hx] at h
    exact ⟨rfl, h⟩
  | some y =>
    rw [hx] at h
    cases h
theorem New.ex {H H1 H2 : Hp} (e : Ex H1 H2) : Ex (New H H1) (New H H2) := fun a o h => by
  obtain ⟨h1, h2⟩ := new_get h
  exact new_at h1 (e a o h2)
theorem New.back {H0 H H1 : Hp} (e : Ex H0 H) : Ex (New H H1) (New H0 H1) := fun a o h => by
  obtain ⟨h1, h2⟩ := new_get h
  exact new_at (fresh_back e h1) h2
/-- the source that a line begins -/
def ndOf : Sg Nm → Nd
  | .each w => .row none w
  | .keep t => .row (some (t, true)) []
  | .drop t => .row (some (t, false)) []
  | .whil t => .tak t
  | .from_ t => .drp t false
  | .first n => .isl (some n) 1 0 0
  | .skip n => .isl none 1 0 n
  | .every k r => .isl none k 0 r
  | _ => .isl none 1 0 0
def Nd.Tok (B : Hp) (tv nv : V) : Nd → Prop
  | .isl _ _ _ _ => True
  | .tak u => Tst B tv [(u, true)]
  | .drp u _ => Tst B tv [(u, true)]
  | .row cd w => Tst B tv cd.toList ∧ Wd B nv w
section
variable (K : PySem.W.Frag)
def sp__law_names_of : Sp := fun vs H Q _ => ∃ w R, vs = [nV (applL w [120] ++ R)] ∧ wordB w = true ∧ w.length ≤ 10 ∧ 40 ∉ R ∧ R.length ≤ 100 ∧ ∀ v H', Ex H H' → Wd (New H H') v w → Q v H'
def sp__law_call_begun : Sp := fun vs H Q _ => ∃ s src, vs = [nV (callL s), .ref src] ∧ sgB s = true ∧ isComp s = false ∧ s.isList = false ∧
  ∀ x tv nv H', Ex H H' → H' x = none → (ndOf s).Tok (New H H') tv nv → Q (.ref x) (upd H' x (.lst ((ndOf s).vals (.ref src) tv nv)))
/-- one line carried out -/
def sp__law_line_done (d : Nat) : Sp := fun vs H Q _ => ∃ B pl c ats rows a ps t n b wd cs s now, vs = [.ref pl, nV (lineL s now), .ref a] ∧ Src B H pl c ats rows a ps t n b wd cs ∧ ps.length + 1 < d ∧ n ≤ 9 ∧ sgB s = true ∧ (∀ u, tst s = some u → u ++ wd ∈ ats) ∧ (eachW s wd).length ≤ 30 ∧ (now = false → s.isList = false) ∧ cs.length + b ≤ 30000 ∧
  ∀ B' a' ps' t' n' b' cs' H', Kp (c :: a :: ps) H H' → Src B' H' pl c ats rows a' ps' t' n' b' (eachW s wd) cs' → (∀ r, lawRun (truthOf ats rows) (⟨s, now⟩ :: r) t cs = lawRun (truthOf ats rows) r t' cs') → (ps'.length ≤ ps.length + 1 ∧ ∀ y ∈ ps', y ∈ a :: ps) → n' ≤ 9 → cs'.length + b' ≤ cs.length + b + 36 → H a' = none → Q (.ref a') H'
end
end CF

/-! text CfQP -/
set_option Elab.async false
set_option linter.all false
set_option maxRecDepth 100000
set_option maxHeartbeats 4000000
/-! names of a text; a call begun -/
namespace CF
open PySem PySem.Spec PyProof.Rows L2 Evl
section
variable {K : PySem.W.Frag} {mg : Str → Option Value} {vs : List V} {B H H1 H2 H' : Hp} {Q : VK} {E : XK} {σ : L2.St} {ta tb : TE}
theorem p__law_names_of (h : sp__law_names_of vs H Q E) : r__law_names_of K (ends Q) (start ["_law_written"] vs) H := by
  obtain ⟨w, R, rfl, hw, hl, hR, hRl, k⟩ := h
  have hal := applL_len [120] hw
  simp only [List.length_cons, List.length_nil] at hal
  refine ⟨_, rfl, ⟨_, rfl⟩, _, _, rfl, rfl, by decide +kernel, ?_, ?_⟩
  · rw [lenS, List.length_append]
    exact sz_of (by omega)
  have e : ("(" : Str) = SX.S [40] := by decide +kernel
  rw [e, SX.split_S (by simp) (by decide +kernel), appl_spl hw (by simp) hR]
  intro p hp
  have hls : ((w ++ [[120] ++ (List.replicate w.length 41 ++ R)]).map SX.S).map V.str = tV w ++ [nV ([120] ++ (List.replicate w.length 41 ++ R))] := by
    rw [List.map_map, List.map_append]
    rfl
  rw [hls]
  have e1 : Ex H (upd H p (.lst (tV w ++ [nV ([120] ++ (List.replicate w.length 41 ++ R))]))) := Ex.new hp
  generalize hH1 : upd H p (.lst (tV w ++ [nV ([120] ++ (List.replicate w.length 41 ++ R))])) = H1 at e1
  have hp1 : H1 p = some (.lst (tV w ++ [nV ([120] ++ (List.replicate w.length 41 ++ R))])) := by rw [← hH1]; exact upd_same
  refine ⟨1, rfl, -1, rfl, p, _, rfl, sq_of hp1, fun q hq => ?_⟩
  rw [cut_snoc]
  have e2 : Ex H1 (upd H1 q (.lst (tV w))) := Ex.new hq
  refine ⟨q, tV w, rfl, .inl ⟨sq_of upd_same, fun r hr => ?_⟩⟩
  have e3 : Ex (upd H1 q (.lst (tV w))) (upd (upd H1 q (.lst (tV w))) r (.tup (tV w))) := Ex.new hr
  exact k (.ref r) _ (e1.trans (e2.trans e3)) ⟨r, rfl, new_at (fresh_back (e1.trans e2) hr) upd_same⟩
/-- a text's slice -/
theorem ev_slice {a m : List Nat} {tl th : TO} {lo hi : Option Int} (ha : Ev ta σ H (.str (SX.S a))) (hl : EvO tl σ H lo) (hh : EvO th σ H hi) (hz : a.length ≤ 100000) (e : Txt.slice (SX.S a) lo hi = SX.S m) : Ev (tSl C8.rSlX ta tl th) σ H (.str (SX.S m)) := ev_slT ha hl hh hz e
theorem eo_neg {n : Nat} : EvO (tPart (tUn (rU fun i => .int (-i)) (tC (.int (n : Nat))))) σ H (some (-((n : Nat) : Int))) := fun H1 e Q q => ⟨_, rfl, _, rfl, q H1 (Ex.refl H1)⟩
theorem cd_len17 : (cd "islice(").length = 7 := by decide +kernel
theorem spl_parts {c : Nat} {sep : List Nat} {parts : List (List Nat)} {a : List Nat} {y : Str} (hy : y = SX.S (c :: sep)) (hk : (c :: sep).all (· < 256) = true) (hne : parts ≠ []) (h : ∀ p ∈ parts, c ∉ p) (ha : a = TL.joinL (c :: sep) parts) : Txt.split (SX.S a) y = parts.map SX.S := by
  rw [hy, SX.split_S (by simp) hk, ha, TL.spl_join hne h]
def wordL : Sg Nm → List Nat
  | .whil _ => cd "takewhile"
  | .from_ _ => cd "dropwhile"
  | _ => cd "islice"
def innerL : Sg Nm → List Nat
  | .whil t => cd "lambda x: " ++ (applL t [120] ++ cd ", rows")
  | .from_ t => cd "lambda x: " ++ (applL t [120] ++ cd ", rows")
  | .every k r => cd "rows, " ++ ([48 + r] ++ (cd ", None, " ++ [48 + k]))
  | .first n => cd "rows, " ++ [48 + n]
  | .skip n => cd "rows, " ++ ([48 + n] ++ cd ", None")
  | _ => []
theorem callL_eq {s : Sg Nm} (h1 : isComp s = false) (h2 : s.isList = false) : callL s = wordL s ++ (40 :: (innerL s ++ [41])) := by
  have a1 : cd "takewhile(lambda x: " = cd "takewhile" ++ (40 :: cd "lambda x: ") := by decide +kernel
  have a2 : cd "dropwhile(lambda x: " = cd "dropwhile" ++ (40 :: cd "lambda x: ") := by decide +kernel
  have a3 : cd "islice(rows, " = cd "islice" ++ (40 :: cd "rows, ") := by decide +kernel
  have a4 : cd ", rows)" = cd ", rows" ++ [41] := by decide +kernel
  have a5 : cd ", None)" = cd ", None" ++ [41] := by decide +kernel
  have a6 : cd ")" = [41] := by decide +kernel
  cases s with
  | each w => cases h1
  | keep w => cases h1
  | drop w => cases h1
  | last n => cases h2
  | butl n => cases h2
  | turned => cases h2
  | whil t => simp only [callL, wordL, innerL, a1, a4]; simp
  | from_ t => simp only [callL, wordL, innerL, a2, a4]; simp
  | first n => simp only [callL, wordL, innerL, a3, a6]; simp
  | skip n => simp only [callL, wordL, innerL, a3, a5]; simp
  | every k r => simp only [callL, wordL, innerL, a3, a6]; simp
theorem wordL_free (s : Sg Nm) : 40 ∉ wordL s ∧ (wordL s).length ≤ 9 := by
  have a1 : 40 ∉ cd "takewhile" ∧ (cd "takewhile").length ≤ 9 := by decide +kernel
  have a2 : 40 ∉ cd "dropwhile" ∧ (cd "dropwhile").length ≤ 9 := by decide +kernel
  have a3 : 40 ∉ cd "islice" ∧ (cd "islice").length ≤ 9 := by decide +kernel
  cases s with
  | whil t => exact a1
  | from_ t => exact a2
  | _ => exact a3
theorem innerL_len {s : Sg Nm} (hs : sgB s = true) : (innerL s).length ≤ 200 := by
  have b1 : (cd "lambda x: ").length = 10 := by decide +kernel
  have b2 : (cd ", rows").length = 6 := by decide +kernel
  have b3 : (cd "rows, ").length = 6 := by decide +kernel
  have b4 : (cd ", None, ").length = 8 := by decide +kernel
  have b5 : (cd ", None").length = 6 := by decide +kernel
  cases s with
  | whil t =>
    obtain ⟨h1, h2⟩ := sg_test hs rfl
    have := applL_len [120] h1
    simp only [List.length_cons, List.length_nil] at this
    simp only [innerL, List.length_append, b1, b2]
    omega
  | from_ t =>
    obtain ⟨h1, h2⟩ := sg_test hs rfl
    have := applL_len [120] h1
    simp only [List.length_cons, List.length_nil] at this
    simp only [innerL, List.length_append, b1, b2]
    omega
  | first n => simp only [innerL, List.length_append, b3, List.length_cons, List.length_nil]; omega
  | skip n => simp only [innerL, List.length_append, b3, b5, List.length_cons, List.length_nil]; omega
  | every k r => simp only [innerL, List.length_append, b3, b4, List.length_cons, List.length_nil]; omega
  | _ => exact Nat.zero_le _
theorem ev_find {i : Nat} {p q : List Nat} (h : σ[i]? = some (some (nV (p ++ (40 :: q))))) (hp : 40 ∉ p) : Ev (tM1 mFind (tVar i) (tC (.str "("))) σ H (.int ((p.length : Nat) : Int)) := fun H1 e Q k => by
  have e0 : ("(" : Str) = SX.S [40] := by decide +kernel
  refine ⟨_, h, ⟨_, rfl⟩, _, _, rfl, rfl, ?_⟩
  rw [e0, find_one p q 40 hp]
  exact k H1 (Ex.refl H1)
/-- the start of a call begun: its word, what is inside -/
theorem begun_start {s : Sg Nm} {src : Addr} {tz : TS} {D : Ends} (hs : sgB s = true) (h1 : isComp s = false) (h2 : s.isList = false)
    (k : ∀ H1, Ex H H1 → tz D [some (nV (callL s)), some (.ref src), some (nV (wordL s)), some (nV (innerL s)), none, none, none, none] H1) :
    tSeq (tAsg (tSl C8.rSlX (tVar 0) tNoPart (tPart (tM1 mFind (tVar 0) (tC (.str "("))))) (gName 2)) (tSeq (tAsg (tSl C8.rSlX (tVar 0) (tPart (tOp rAddI (tCB (rLen K) (tCons (tVar 2) tNil)) (tC (.int 1)))) (tPart (tUn (rU fun i => .int (-i)) (tC (.int 1))))) (gName 3)) tz) D [some (nV (callL s)), some (.ref src), none, none, none, none, none, none] H := by
  have hc := callL_eq h1 h2
  obtain ⟨hw1, hw2⟩ := wordL_free s
  have hi := innerL_len hs
  have hl : (wordL s ++ (40 :: (innerL s ++ [41]))).length ≤ 100000 := by simp only [List.length_append, List.length_cons, List.length_nil]; omega
  rw [hc]
  refine q_asg (ev_slice (m := wordL s) (ev_var (i := 0) rfl) eo_none (eo_some (ev_find rfl hw1)) hl (SX.to_app _ _ rfl)) fun H1 e1 => ?_
  refine q_asg (ev_slice (m := innerL s) (ev_var (i := 0) rfl) (eo_some (ev_addI (ev_lenS (ev_var (i := 2) rfl) (by omega)) (ev_c (v := .int 1)))) (eo_neg (n := 1)) hl ?_) fun H2 e2 => ?_
  · have := sl_mid (wordL s ++ [40]) (innerL s) [41] (i := ((wordL s).length : Int) + 1) (j := -((1 : Nat) : Int)) (by simp) rfl (by simp)
    rw [List.append_assoc] at this
    exact this
  · have := k H2 (e1.trans e2)
    rw [hc] at this
    exact this
end
end CF

/-! text CfQR -/
set_option Elab.async false
set_option linter.all false
set_option maxRecDepth 100000
set_option maxHeartbeats 4000000
/-! a call begun -/
namespace CF
open PySem PySem.Spec PyProof.Rows L2 Evl
section
variable {K : PySem.W.Frag} {mg : Str → Option Value} {vs : List V} {B H H1 H2 H' : Hp} {Q : VK} {E : XK} {σ : L2.St} {ta tb : TE}
theorem strS {a b : List Nat} (h : a = b) : V.str (SX.S a) = V.str (SX.S b) := by rw [h]
/-- pieces of a text at ', ' but the first -/
theorem comma_split {parts : List (List Nat)} {a : List Nat} (hne : parts ≠ []) (h : ∀ p ∈ parts, 44 ∉ p) (ha : a = TL.joinL [44, 32] parts) : Txt.split (SX.S a) ", " = parts.map SX.S :=
  spl_parts (c := 44) (sep := [32]) (by decide +kernel) (by decide +kernel) hne h ha
theorem mapS (l : List (List Nat)) : (l.map SX.S).map V.str = l.map nV := by
  rw [List.map_map]
  rfl
theorem q_pieces {D : Ends} {tz : TS} {inner : List Nat} {p0 : List Nat} {parts : List (List Nat)} {i j : Nat} (hσ : σ[i]? = some (some (nV inner))) (hl : inner.length ≤ 1000) (h : ∀ p ∈ p0 :: parts, 44 ∉ p) (ha : inner = TL.joinL [44, 32] (p0 :: parts))
    (k : ∀ q H1, Ex H H1 → H1 q = some (.lst (parts.map nV)) → tz D (σ.set j (some (.ref q))) H1) : tSeq (tAsg (tSl (rSlL K) (tM1 mSplit (tVar i) (tC (.str ", "))) (tPart (tC (.int 1))) tNoPart) (gName j)) tz D σ H := by
  refine ⟨_, hσ, ⟨_, rfl⟩, _, _, rfl, rfl, by decide +kernel, by rw [lenS]; exact sz_of (by omega), ?_⟩
  rw [comma_split (by simp) h ha]
  intro p hp
  rw [mapS]
  have e1 : Ex H (upd H p (.lst ((p0 :: parts).map nV))) := Ex.new hp
  refine ⟨1, rfl, p, _, rfl, sq_of upd_same, fun q hq => ?_⟩
  have hcut : cutV ((p0 :: parts).map nV) (some (1 : Int)) none = parts.map nV := by
    rw [show (1 : Int) = ((1 : Nat) : Int) from rfl, cut_drop _ (by simp)]
    rfl
  rw [hcut]
  exact k q _ (e1.trans (Ex.new hq)) upd_same
theorem none_ni : 44 ∉ cd "rows" ∧ 44 ∉ cd "None" := by decide +kernel
theorem dig_ni {n : Nat} (h : n ≤ 9) : 44 ∉ [48 + n] := by simp; omega
theorem niC {a : List Nat} {l : List (List Nat)} (h : 44 ∉ a) (hl : ∀ p ∈ l, 44 ∉ p) : ∀ p ∈ a :: l, 44 ∉ p := fun p hp => by
  rcases List.mem_cons.mp hp with rfl | hp
  · exact h
  · exact hl p hp
theorem niN : ∀ p ∈ ([] : List (List Nat)), 44 ∉ p := fun p hp => by cases hp
theorem begun_test {b0 : V} {src : Addr} {t : List Nm} {W : Str} {Q : VK} (hw : wordB t = true) (ht : t.length ≤ 4) (w1 : (W == "islice") = false) (w2 : (W == "map") = false) (w3 : (W == "filter") = false)
    (k : ∀ x tv H', Ex H H' → H' x = none → Tst (New H H') tv [(t, true)] → Q (.ref x) (upd H' x (.lst [.str W, .ref src, tv, .bl false]))) :
    tSeq (tAsg (tSl C8.rSlX (tVar 3) tNoPart (tPart (tUn (rU fun i => .int (-i)) (tC (.int 6))))) (gName 5)) (tSeq (tAsg (tIf (tTest (tOp rEq (tSl C8.rSlX (tVar 5) tNoPart (tPart (tC (.int 10)))) (tC (.str "lambda x: ")))) (tCall sp__law_names_of [] C8.E0 (tCons (tSl C8.rSlX (tVar 5) (tPart (tC (.int 10))) tNoPart) tNil)) (tTup (tCons (tVar 5) tNil))) (gName 6)) (tSeq (tIfS (tTest (tOp rEq (tVar 2) (tC (.str "map")))) (tRet (tLst (tCons (tC (.str "rows")) (tCons (tVar 1) (tCons (tLst tNil) (tCons (tVar 6) tNil)))))) (tNext)) (tSeq (tAsg (tLst (tCons (tTup (tCons (tVar 6) (tCons (tC (.bl true)) tNil))) tNil)) (gName 7)) (tRet (tIf (tTest (tOp rEq (tVar 2) (tC (.str "filter")))) (tLst (tCons (tC (.str "rows")) (tCons (tVar 1) (tCons (tVar 7) (tCons (tTup tNil) tNil))))) (tLst (tCons (tVar 2) (tCons (tVar 1) (tCons (tVar 7) (tCons (tC (.bl false)) tNil)))))))))) (ends Q) [some b0, some (.ref src), some (.str W), some (nV (cd "lambda x: " ++ (applL t [120] ++ cd ", rows"))), none, none, none, none] H := by
  have b1 : (cd "lambda x: ").length = 10 := by decide +kernel
  have b2 : (cd ", rows").length = 6 := by decide +kernel
  have hal := applL_len [120] hw
  simp only [List.length_cons, List.length_nil] at hal
  have hl1 : (cd "lambda x: " ++ applL t [120]).length ≤ 100000 := by simp only [List.length_append, b1]; omega
  have hl2 : ((cd "lambda x: " ++ applL t [120]) ++ cd ", rows").length ≤ 100000 := by simp only [List.length_append, b1, b2]; omega
  have lam : SX.S (cd "lambda x: ") = ("lambda x: " : Str) := (cd_S "lambda x: ").symm
  rw [← List.append_assoc]
  refine q_asg (ev_slice (m := cd "lambda x: " ++ applL t [120]) (ev_var (i := 3) rfl) eo_none (eo_neg (n := 6)) hl2 (sl_neg _ _ (by simp [b2]) (by simp [b2]))) fun H1 e1 => ?_
  show tAsg _ (gName 6) _ [some b0, some (.ref src), some (.str W), some (nV ((cd "lambda x: " ++ applL t [120]) ++ cd ", rows")), none, some (nV (cd "lambda x: " ++ applL t [120])), none, none] H1
  refine ev_slice (m := cd "lambda x: ") (σ := [some b0, some (.ref src), some (.str W), some (nV ((cd "lambda x: " ++ applL t [120]) ++ cd ", rows")), none, some (nV (cd "lambda x: " ++ applL t [120])), none, none]) (ev_var (i := 5) rfl) eo_none (eo_some ev_c) hl1 (SX.to_app _ _ (by rw [b1]; rfl)) H1 (Ex.refl H1) _ fun H2 e2 => ⟨rfl, _, rfl, ?_⟩
  refine ifT (congrArg V.str lam) ?_
  refine ev_slice (m := applL t [120]) (σ := [some b0, some (.ref src), some (.str W), some (nV ((cd "lambda x: " ++ applL t [120]) ++ cd ", rows")), none, some (nV (cd "lambda x: " ++ applL t [120])), none, none]) (ev_var (i := 5) rfl) (eo_some ev_c) eo_none hl1 (SX.from_app _ _ (by rw [b1]; rfl)) H2 (Ex.refl H2) _ fun H3 e3 => ?_
  refine ⟨t, [], congrArg (fun z => [nV z]) (List.append_nil _).symm, hw, by omega, by simp, by simp, fun nv H4 e4 hnv => ?_⟩
  have e04 := e1.trans (e2.trans (e3.trans e4))
  have hnv : Wd (New H H4) nv t := hnv.fx (Fx.of (New.back (e1.trans (e2.trans e3))))
  refine ⟨_, rfl, rfl, _, rfl, ?_⟩
  refine ifF (neS w2) ?_
  refine ⟨_, rfl, by show 2 ≤ sizeLine; decide, fun q hq => ⟨by show 1 ≤ sizeLine; decide, fun p hp => ?_⟩⟩
  have e5 : Ex H4 (upd H4 q (.tup [nv, .bl true])) := Ex.new hq
  have e6 : Ex (upd H4 q (.tup [nv, .bl true])) (upd (upd H4 q (.tup [nv, .bl true])) p (.lst [.ref q])) := Ex.new hp
  refine ⟨_, rfl, rfl, _, rfl, ?_⟩
  refine ifF (neS w3) ⟨_, rfl, _, rfl, _, rfl, by show 4 ≤ sizeLine; decide, fun x hx => ?_⟩
  refine k x (.ref p) _ (e04.trans (e5.trans e6)) hx ⟨p, [.ref q], rfl, new_at (fresh_back (e04.trans e5) hp) upd_same, ⟨q, nv, rfl, new_at (fresh_back e04 hq) (e6 q _ upd_same), hnv.fx (Fx.of (New.ex (e5.trans e6)))⟩, trivial⟩
theorem p__law_call_begun (h : sp__law_call_begun vs H Q E) : r__law_call_begun K sp__law_names_of (ends Q) (start ["_law_body", "_law_source", "_law_word", "_law_inner", "_law_pieces", "_law_given", "_law_names_here", "_law_tests_here"] vs) H := by
  obtain ⟨s, src, rfl, hs, hc1, hc2, k⟩ := h
  obtain ⟨n1, n2⟩ := none_ni
  refine begun_start hs hc1 hc2 fun H1 e1 => ?_
  have hil := innerL_len hs
  have i1 : cd "rows, " = cd "rows" ++ [44, 32] := by decide +kernel
  have i2 : cd ", None" = [44, 32] ++ cd "None" := by decide +kernel
  have i3 : cd ", None, " = [44, 32] ++ (cd "None" ++ [44, 32]) := by decide +kernel
  have z6 : 6 ≤ sizeLine := by decide
  have isl : SX.S (cd "islice") = ("islice" : Str) := (cd_S "islice").symm
  cases s with
  | each w => cases hc1
  | keep w => cases hc1
  | drop w => cases hc1
  | last n => cases hc2
  | butl n => cases hc2
  | turned => cases hc2
  | first n =>
    have hn : n ≤ 9 := of_decide_eq_true hs
    refine ⟨_, rfl, rfl, _, rfl, ?_⟩
    refine ifT (congrArg V.str isl) ?_
    refine q_pieces (inner := innerL (.first n)) (p0 := cd "rows") (parts := [[48 + n]]) (i := 3) rfl (by omega) (niC n1 (niC (dig_ni hn) niN)) (by simp only [innerL, i1]; simp [TL.joinL]) fun q H2 e2 hq => ?_
    refine ⟨_, rfl, _, 1, rfl, .inl ⟨_, sq_of hq, rfl⟩, rfl, _, rfl, ?_⟩
    refine ifT rfl ?_
    refine ⟨_, rfl, _, rfl, q, _, ((0 : Nat) : Int), _, rfl, rfl, sq_of hq, atI_nat rfl, ?_⟩
    refine ⟨_, _, rfl, int_one hn, by rw [lenS]; simp, ?_⟩
    refine ⟨z6, fun x hx => ?_⟩
    exact k x .non .non H2 (e1.trans e2) hx trivial
  | skip n =>
    have hn : n ≤ 9 := of_decide_eq_true hs
    refine ⟨_, rfl, rfl, _, rfl, ?_⟩
    refine ifT (congrArg V.str isl) ?_
    refine q_pieces (inner := innerL (.skip n)) (p0 := cd "rows") (parts := [[48 + n], cd "None"]) (i := 3) rfl (by omega) (niC n1 (niC (dig_ni hn) (niC n2 niN))) (by simp only [innerL, i1, i2]; simp [TL.joinL]) fun q H2 e2 hq => ?_
    refine ⟨_, rfl, _, 2, rfl, .inl ⟨_, sq_of hq, rfl⟩, rfl, _, rfl, ?_⟩
    refine ifF (by simp) ?_
    refine ⟨_, rfl, _, rfl, q, _, ((0 : Nat) : Int), _, rfl, rfl, sq_of hq, atI_nat rfl, ?_⟩
    refine ⟨_, _, rfl, int_one hn, by rw [lenS]; simp, ?_⟩
    refine ⟨_, rfl, _, 2, rfl, .inl ⟨_, sq_of hq, rfl⟩, rfl, _, rfl, ?_⟩
    refine ifF (by simp) ?_
    refine ⟨z6, fun x hx => ?_⟩
    exact k x .non .non H2 (e1.trans e2) hx trivial
  | every ky r =>
    obtain ⟨⟨hk1, hk9⟩, hr9⟩ : (1 ≤ ky ∧ ky ≤ 9) ∧ r ≤ 9 := by
      simp only [sgB, Bool.and_eq_true, decide_eq_true_eq] at hs
      exact hs
    refine ⟨_, rfl, rfl, _, rfl, ?_⟩
    refine ifT (congrArg V.str isl) ?_
    refine q_pieces (inner := innerL (.every ky r)) (p0 := cd "rows") (parts := [[48 + r], cd "None", [48 + ky]]) (i := 3) rfl (by omega) (niC n1 (niC (dig_ni hr9) (niC n2 (niC (dig_ni hk9) niN)))) (by simp only [innerL, i1, i3]; simp [TL.joinL]) fun q H2 e2 hq => ?_
    refine ⟨_, rfl, _, 3, rfl, .inl ⟨_, sq_of hq, rfl⟩, rfl, _, rfl, ?_⟩
    refine ifF (by simp) ?_
    refine ⟨_, rfl, _, rfl, q, _, ((0 : Nat) : Int), _, rfl, rfl, sq_of hq, atI_nat rfl, ?_⟩
    refine ⟨_, _, rfl, int_one hr9, by rw [lenS]; simp, ?_⟩
    refine ⟨_, rfl, _, 3, rfl, .inl ⟨_, sq_of hq, rfl⟩, rfl, _, rfl, ?_⟩
    refine ifT rfl ?_
    refine ⟨_, rfl, q, _, ((2 : Nat) : Int), _, rfl, rfl, sq_of hq, atI_nat rfl, ?_⟩
    refine ⟨_, _, rfl, int_one hk9, by rw [lenS]; simp, ?_⟩
    refine ⟨z6, fun x hx => ?_⟩
    exact k x .non .non H2 (e1.trans e2) hx trivial
  | whil t =>
    obtain ⟨h1, h2⟩ := sg_test hs rfl
    refine ⟨_, rfl, rfl, _, rfl, ?_⟩
    have w0 : SX.S (cd "takewhile") = ("takewhile" : Str) := (cd_S "takewhile").symm
    refine ifF (fun e => neS (a := "takewhile") (b := "islice") (by decide +kernel) (by rw [← e, ← w0]; rfl)) ?_
    refine begun_test (W := SX.S (cd "takewhile")) h1 (by omega) (by decide +kernel) (by decide +kernel) (by decide +kernel) fun x tv H2 e2 hx htv => ?_
    have := k x tv .non H2 (e1.trans e2) hx (htv.ex (New.back e1))
    rw [w0]
    exact this
  | from_ t =>
    obtain ⟨h1, h2⟩ := sg_test hs rfl
    refine ⟨_, rfl, rfl, _, rfl, ?_⟩
    have w0 : SX.S (cd "dropwhile") = ("dropwhile" : Str) := (cd_S "dropwhile").symm
    refine ifF (fun e => neS (a := "dropwhile") (b := "islice") (by decide +kernel) (by rw [← e, ← w0]; rfl)) ?_
    refine begun_test (W := SX.S (cd "dropwhile")) h1 (by omega) (by decide +kernel) (by decide +kernel) (by decide +kernel) fun x tv H2 e2 hx htv => ?_
    have := k x tv .non H2 (e1.trans e2) hx (htv.ex (New.back e1))
    rw [w0]
    exact this
end
end CF

/-! text CfQS -/
set_option Elab.async false
set_option linter.all false
set_option maxRecDepth 100000
set_option maxHeartbeats 4000000
/-! a source over another; a source over a list -/
namespace CF
open PySem PySem.Spec PyProof.Rows L2 Evl
section
variable {K : PySem.W.Frag} {mg : Str → Option Value} {vs : List V} {B H H1 H2 H' : Hp} {Q : VK} {E : XK} {σ : L2.St} {ta tb : TE} {ats : List (List Nm)} {rows : List (List Bool)}
/-- all but S -/
def Cut (S : List Addr) (H : Hp) : Hp := fun a => if a ∈ S then none else H a
theorem cut_none {S : List Addr} {x : Addr} (h : x ∈ S) : Cut S H x = none := if_pos h
theorem cut_at_ {S : List Addr} {x : Addr} {o : HO} (h : x ∉ S) (h1 : H x = some o) : Cut S H x = some o := by
  unfold Cut
  rw [if_neg h]
  exact h1
theorem cut_ex (S : List Addr) (H : Hp) : Ex (Cut S H) H := fun a o h => by
  unfold Cut at h
  by_cases hm : a ∈ S
  · rw [if_pos hm] at h; cases h
  · rw [if_neg hm] at h; exact h
theorem base_cut {S : List Addr} (e : Ex B H) (h : ∀ x ∈ S, B x = none) : Ex B (Cut S H) := fun a o ha => cut_at_ (fun hm => by rw [h a hm] at ha; cases ha) (e a o ha)
theorem new_cut {S : List Addr} (h : ∀ x ∈ S, H x ≠ none) : Ex (New H H1) (Cut S H1) := fun a o ha => by
  obtain ⟨h1, h2⟩ := new_get ha
  exact cut_at_ (fun hm => h a hm h1) h2
variable {pl c a x : Addr} {ps : List Addr} {t : Tr Nm} {n b : Nat} {wd : List Nm} {cs : List (Tm Nm)}
theorem Src.all_some (hS : Src B H pl c ats rows a ps t n b wd cs) : ∀ y ∈ c :: a :: ps, H y ≠ none := fun y hy => by
  rcases List.mem_cons.mp hy with rfl | hy
  · rw [hS.calls]; simp
  · exact hS.rep.some y hy
theorem Nd.Tok.ok {nd : Nd} {tv nv : V} (h : nd.Tok B tv nv) (hu : match nd with
    | .isl _ _ _ _ => True
    | .tak u => uOk ats wd u
    | .drp u _ => uOk ats wd u
    | .row cd w => wordB w = true ∧ w.length ≤ 3 ∧ ∀ p, cd = some p → uOk ats wd p.1 ∧ w = []) : nd.Ok B ats wd tv nv := by
  cases nd with
  | isl _ _ _ _ => trivial
  | tak u => exact ⟨h, hu⟩
  | drp u op => exact ⟨h, hu⟩
  | row cd w => exact ⟨h.1, h.2, hu.1, hu.2.1, hu.2.2⟩
theorem Nd.Tok.ex {nd : Nd} {tv nv : V} (h : nd.Tok B tv nv) (e : Ex B H) : nd.Tok H tv nv := by
  cases nd with
  | isl _ _ _ _ => trivial
  | tak u => exact Tst.ex h e
  | drp u op => exact Tst.ex h e
  | row cd w => exact ⟨h.1.ex e, h.2.fx (Fx.of e)⟩
theorem ndOf_ok {s : Sg Nm} {tv nv : V} (hs : sgB s = true) (hl : s.isList = false) (hu : ∀ u, tst s = some u → u ++ wd ∈ ats) (h : (ndOf s).Tok B tv nv) : (ndOf s).Ok B ats wd tv nv := by
  refine h.ok ?_
  have tk : ∀ u, tst s = some u → uOk ats wd u := fun u h => by
    have h1 := sg_test hs h
    have h2 : 1 ≤ u.length := by
      cases s <;> simp only [tst, reduceCtorEq, Option.some.injEq] at h <;> subst h <;> simp only [sgB, Bool.and_eq_true, decide_eq_true_eq] at hs <;> exact hs.1.2
    exact ⟨h1.1, h2, h1.2, hu u h⟩
  cases s with
  | each w =>
    simp only [sgB, Bool.and_eq_true, decide_eq_true_eq] at hs
    exact ⟨hs.1, hs.2, fun p hp => by cases hp⟩
  | keep t => exact ⟨rfl, by decide, fun p hp => by cases hp; exact ⟨tk t rfl, rfl⟩⟩
  | drop t => exact ⟨rfl, by decide, fun p hp => by cases hp; exact ⟨tk t rfl, rfl⟩⟩
  | whil t => exact tk t rfl
  | from_ t => exact tk t rfl
  | _ => trivial
theorem ndOf_tr {T : Nat → List Nm → Bool} {s : Sg Nm} (hl : s.isList = false) (t : Tr Nm) : (ndOf s).tr T t = lineT T s t := by
  cases s <;> first | rfl | cases hl
theorem ndOf_word {s : Sg Nm} : (ndOf s).word wd = eachW s wd := by cases s <;> rfl
/-- a source over another -/
theorem Src.node {nd : Nd} {tv nv : V} (hS : Src B H pl c ats rows a ps t n b wd cs) (e : Ex H H1) (hx : H1 x = none) (hok : nd.Ok (New H H1) ats wd tv nv) (hw : wordB (nd.word wd) = true) (hl : (nd.word wd).length ≤ 30) (hb : cs.length + (b + 4 * n) ≤ 40000) :
    Src (Cut (c :: a :: ps) H1) (upd H1 x (.lst (nd.vals (.ref a) tv nv))) pl c ats rows x (a :: ps) (nd.tr (truthOf ats rows) t) n (b + 4 * n) (nd.word wd) cs := by
  have hall := hS.all_some
  have hxn : x ∉ c :: a :: ps := fun hm => hall x hm (fresh_back e hx)
  have hB : Ex B (Cut (c :: a :: ps) H1) := base_cut (hS.ex.trans e) hS.out
  have hN : Ex (New H H1) (Cut (c :: a :: ps) H1) := new_cut hall
  have hnd := hS.nd
  simp only [List.mem_cons, not_or] at hxn
  refine ⟨hS.play.ex hB, hS.wb, fun y o hy => ?_, fun y hy => ?_, ?_, ?_, ?_, hb, hw, hl⟩
  · have h1 := cut_ex _ _ y o hy
    rw [upd_ne (fun z => by rw [z, hx] at h1; cases h1)]
    exact h1
  · simp only [List.mem_cons] at hy
    by_cases hm : y ∈ c :: a :: ps
    · exact cut_none hm
    · have : y = x := by
        simp only [List.mem_cons, not_or] at hm
        rcases hy with h | h | h | h
        · exact absurd h hm.1
        · exact h
        · exact absurd h hm.2.1
        · exact absurd h hm.2.2
      subst this
      unfold Cut
      rw [if_neg hm]
      exact hx
  · simp only [List.nodup_cons, List.mem_cons, not_or] at hnd ⊢
    exact ⟨⟨fun e => hxn.1 e.symm, hnd.1⟩, ⟨hxn.2.1, hxn.2.2⟩, hnd.2⟩
  · refine ⟨nd, tv, nv, t, n, b, wd, ((hS.rep.kp (Kp.of (S := []) (e.trans (Ex.new hx))) fun _ _ => by simp).base hB), upd_same, rfl, hok.ex hN, Nat.le_refl _, Nat.le_refl _, rfl⟩
  · rw [upd_ne (fun z => hxn.1 z.symm)]
    exact e c _ hS.calls
/-- a source over a list of values -/
theorem Src.list {xs cs' : List (Tm Nm)} {L : Addr} (hS : Src B H pl c ats rows a ps t n b wd cs) (hk : Kp (c :: a :: ps) H H1) (hL : H L = none) (hL1 : H1 L = some (.lst (cV xs))) (hc : H1 c = some (.lst (cV cs'))) (hx : H1 x = none) {wd' : List Nm} (hw : wordB wd' = true) (hl : wd'.length ≤ 30)
    (hv : ∀ y ∈ xs, y.2 = wd' ∧ y.1 < rows.length) (hb : cs'.length ≤ 40000) :
    Src (Cut [c] H1) (upd H1 x (.lst [.str "list", .ref L, .int ((0 : Nat) : Int)])) pl c ats rows x [] (ofVals xs) xs.length 0 wd' cs' := by
  have hxc : x ≠ c := fun z => by rw [z, hc] at hx; cases hx
  have hLc : L ≠ c := fun z => by rw [z, hS.calls] at hL; cases hL
  have hB : Ex B (Cut [c] H1) := base_cut (ex_kp hS.ex hk hS.out) fun y hy => hS.out y (by rw [List.mem_singleton] at hy; subst hy; exact List.mem_cons_self ..)
  refine ⟨hS.play.ex hB, hS.wb, fun y o hy => ?_, fun y hy => ?_, by simp; exact fun z => hxc z.symm, ?_, ?_, by simpa using hb, hw, hl⟩
  · have h1 := cut_ex _ _ y o hy
    rw [upd_ne (fun z => by rw [z, hx] at h1; cases h1)]
    exact h1
  · by_cases hm : y ∈ [c]
    · exact cut_none hm
    · have : y = x := by simpa [List.mem_cons, show ¬ y = c by simpa using hm] using hy
      subst this
      unfold Cut
      rw [if_neg hm]
      exact hx
  · exact ⟨L, xs, 0, upd_same, cut_at_ (by simpa using hLc) hL1, by simp, by simp, hv⟩
  · rw [upd_ne hxc.symm]
    exact hc
end
end CF

/-! text CfQT -/
set_option Elab.async false
set_option linter.all false
set_option maxRecDepth 100000
set_option maxHeartbeats 4000000
/-! a line carried out: of all rows -/
namespace CF
open PySem PySem.Spec PyProof.Rows L2 Evl
section
variable {K : PySem.W.Frag} {mg : Str → Option Value} {vs : List V} {B H H1 H2 H' : Hp} {Q : VK} {E : XK} {σ : L2.St} {ta tb : TE} {ats : List (List Nm)} {rows : List (List Bool)}
theorem Kp.forget {S S' : List Addr} (k : Kp S H H') (h : ∀ y ∈ S, y ∈ S' ∨ H y = none) : Kp S' H H' := by
  refine ⟨fun a o ha hn => k.keep a o ha fun hm => ?_, k.some_⟩
  rcases h a hm with h | h
  · exact hn h
  · rw [h] at ha
    cases ha
def tailL : Sg Nm → List Nat
  | .last n => [91, 45, 48 + n, 58, 93]
  | .butl n => [91, 58, 45, 48 + n, 93]
  | _ => [91, 58, 58, 45, 49, 93]
def headL : List Nat := cd "rows = list(rows)"
theorem headL_len : headL.length = 17 := by decide +kernel
theorem line_tail {s : Sg Nm} (hl : s.isList = true) (now : Bool) : lineL s now = headL ++ tailL s := by
  have a1 : cd "rows = list(rows)[::-1]" = headL ++ [91, 58, 58, 45, 49, 93] := by decide +kernel
  have a2 : cd "rows = list(rows)[-" = headL ++ [91, 45] := by decide +kernel
  have a3 : cd "rows = list(rows)[:-" = headL ++ [91, 58, 45] := by decide +kernel
  have a4 : cd ":]" = [58, 93] := by decide +kernel
  have a5 : cd "]" = [93] := by decide +kernel
  cases s with
  | last n => simp only [lineL, tailL, a2, a4]; simp
  | butl n => simp only [lineL, tailL, a3, a5]; simp
  | turned => exact a1
  | _ => cases hl
theorem tail_len (s : Sg Nm) : (tailL s).length ≤ 6 := by cases s <;> simp [tailL]
theorem cut_last (xs : List V) {n : Nat} (h : 1 ≤ n) : cutV xs (some (-(n : Int))) none = xs.drop (xs.length - n) := by
  unfold cutV
  rw [HT.sIx_none, sIx_neg _ _ _ h]
  exact List.take_of_length_le (by rw [List.length_drop]; omega)
theorem cut_butlast (xs : List V) {n : Nat} (h : 1 ≤ n) : cutV xs none (some (-(n : Int))) = xs.take (xs.length - n) := by
  unfold cutV
  rw [HT.sIx_none, sIx_neg _ _ _ h]
  simp
/-- the rest of a line over all rows, once they are found: the list that is left, and the source over it -/
theorem tail_go {v0 v1 v2 : V} {F : Addr} {s : Sg Nm} {xs : List (Tm Nm)} (hl : s.isList = true) (hs : sgB s = true) (hF : H F = some (.lst (cV xs)))
    (k : ∀ L x H', Ex H H' → (L = F ∨ H L = none) → H' L = some (.lst (cV (leftOf s xs))) → H' x = none → Q (.ref x) (upd H' x (.lst [.str "list", .ref L, .int ((0 : Nat) : Int)]))) :
    tSeq (tIfS (tTest (tOp rEq (tSl C8.rSlX (tVar 4) tNoPart (tPart (tC (.int 2)))) (tC (.str "[-")))) (tAsg (tSl (rSlL K) (tVar 3) (tPart (tUn (rU fun i => .int (-i)) (tCB cIntS (tCons (tOp rIxS (tVar 4) (tC (.int 2))) tNil)))) tNoPart) (gName 3)) (tIfS (tTest (tOp rEq (tSl C8.rSlX (tVar 4) tNoPart (tPart (tC (.int 3)))) (tC (.str "[:-")))) (tAsg (tSl (rSlL K) (tVar 3) tNoPart (tPart (tUn (rU fun i => .int (-i)) (tCB cIntS (tCons (tOp rIxS (tVar 4) (tC (.int 3))) tNil))))) (gName 3)) (tNext))) (tRet (tLst (tCons (tC (.str "list")) (tCons (tIf (tTest (tOp rEq (tVar 4) (tC (.str "[::-1]")))) (tRevL K (tVar 3)) (tVar 3)) (tCons (tC (.int 0)) tNil))))) (ends Q)
      [some v0, some v1, some v2, some (.ref F), some (nV (tailL s)), none, none, none, none] H := by
  have t1 : ("[-" : Str) = SX.S [91, 45] := by decide +kernel
  have t2 : ("[:-" : Str) = SX.S [91, 58, 45] := by decide +kernel
  have t3 : ("[::-1]" : Str) = SX.S [91, 58, 58, 45, 49, 93] := by decide +kernel
  have tl := tail_len s
  rw [t1, t2, t3]
  have z3 : 3 ≤ sizeLine := by decide
  refine ev_slice (a := tailL s) (m := (tailL s).take 2) (σ := [some v0, some v1, some v2, some (.ref F), some (nV (tailL s)), none, none, none, none]) (ev_var (i := 4) rfl) eo_none (eo_some ev_c) (by omega) (SX.slice_to (by decide)) H (Ex.refl H) _ fun H1 e1 => ⟨rfl, _, rfl, ?_⟩
  have hF1 := e1 F _ hF
  cases s with
  | last n =>
    obtain ⟨hn1, hn9⟩ : 1 ≤ n ∧ n ≤ 9 := by
      simp only [sgB, Bool.and_eq_true, decide_eq_true_eq] at hs
      exact hs
    refine ifT rfl ?_
    refine ⟨_, rfl, _, rfl, _, ((2 : Nat) : Int), 48 + n, rfl, rfl, by rw [lenS]; exact sz_of (by simp [tailL]), atI_nat rfl, ?_⟩
    refine ⟨_, _, rfl, int_one hn9, by show 1 ≤ 640; decide, (n : Int), rfl, -(n : Int), rfl, F, _, rfl, sq_of hF1, fun L hL => ?_⟩
    have hcut : cutV (cV xs) (some (-(n : Int))) none = cV (leftOf (.last n) xs) := by
      rw [cut_last _ hn1]
      unfold cV
      rw [List.length_map, ← List.map_drop]
      rfl
    rw [hcut]
    refine ⟨_, rfl, rfl, _, rfl, ?_⟩
    refine ifF (fun e => by cases congrArg (fun v => match v with | V.str x => x.cps.toList | _ => []) e) ⟨_, rfl, z3, fun x hx => ?_⟩
    exact k L x _ (e1.trans (Ex.new hL)) (.inr (fresh_back e1 hL)) upd_same hx
  | butl n =>
    obtain ⟨hn1, hn9⟩ : 1 ≤ n ∧ n ≤ 9 := by
      simp only [sgB, Bool.and_eq_true, decide_eq_true_eq] at hs
      exact hs
    refine ifF (fun e => by cases congrArg (fun v => match v with | V.str x => x.cps.toList | _ => []) e) ?_
    refine ev_slice (a := tailL (.butl n)) (m := (tailL (.butl n)).take 3) (σ := [some v0, some v1, some v2, some (.ref F), some (nV (tailL (.butl n))), none, none, none, none]) (ev_var (i := 4) rfl) eo_none (eo_some ev_c) (by omega) (SX.slice_to (by decide)) H1 (Ex.refl H1) _ fun H2 e2 => ⟨rfl, _, rfl, ?_⟩
    have hF2 := e2 F _ hF1
    refine ifT rfl ?_
    refine ⟨_, rfl, _, rfl, _, ((3 : Nat) : Int), 48 + n, rfl, rfl, by rw [lenS]; exact sz_of (by simp [tailL]), atI_nat rfl, ?_⟩
    refine ⟨_, _, rfl, int_one hn9, by show 1 ≤ 640; decide, (n : Int), rfl, -(n : Int), rfl, F, _, rfl, sq_of hF2, fun L hL => ?_⟩
    have hcut : cutV (cV xs) none (some (-(n : Int))) = cV (leftOf (.butl n) xs) := by
      rw [cut_butlast _ hn1]
      unfold cV
      rw [List.length_map, ← List.map_take]
      rfl
    rw [hcut]
    refine ⟨_, rfl, rfl, _, rfl, ?_⟩
    refine ifF (fun e => by cases congrArg (fun v => match v with | V.str x => x.cps.toList | _ => []) e) ⟨_, rfl, z3, fun x hx => ?_⟩
    exact k L x _ (e1.trans (e2.trans (Ex.new hL))) (.inr (fresh_back (e1.trans e2) hL)) upd_same hx
  | turned =>
    refine ifF (fun e => by cases congrArg (fun v => match v with | V.str x => x.cps.toList | _ => []) e) ?_
    refine ev_slice (a := tailL .turned) (m := (tailL .turned).take 3) (σ := [some v0, some v1, some v2, some (.ref F), some (nV (tailL .turned)), none, none, none, none]) (ev_var (i := 4) rfl) eo_none (eo_some ev_c) (by omega) (SX.slice_to (by decide)) H1 (Ex.refl H1) _ fun H2 e2 => ⟨rfl, _, rfl, ?_⟩
    have hF2 := e2 F _ hF1
    refine ifF (fun e => by cases congrArg (fun v => match v with | V.str x => x.cps.toList | _ => []) e) ?_
    refine ⟨_, rfl, rfl, _, rfl, ?_⟩
    refine ifT rfl ⟨_, rfl, F, _, rfl, sq_of hF2, fun L hL => ?_⟩
    have hcut : (cV xs).reverse = cV (leftOf .turned xs) := by
      unfold cV
      rw [← List.map_reverse]
      rfl
    rw [hcut]
    refine ⟨z3, fun x hx => ?_⟩
    exact k L x _ (e1.trans (e2.trans (Ex.new hL))) (.inr (fresh_back (e1.trans e2) hL)) upd_same hx
  | _ => cases hl
end
end CF

/-! text CfQU -/
set_option Elab.async false
set_option linter.all false
set_option maxRecDepth 100000
set_option maxHeartbeats 4000000
/-! a line carried out: comprehensions and calls -/
namespace CF
open PySem PySem.Spec PyProof.Rows L2 Evl
section
variable {K : PySem.W.Frag} {mg : Str → Option Value} {vs : List V} {B H H1 H2 H' : Hp} {Q : VK} {E : XK} {σ : L2.St} {ta tb : TE} {ats : List (List Nm)} {rows : List (List Bool)}
variable {pl c a x : Addr} {ps : List Addr} {t : Tr Nm} {n b d : Nat} {wd : List Nm} {cs : List (Tm Nm)} {s : Sg Nm} {now : Bool}
/-- what the answer of line_done must be -/
def Answ (B H : Hp) (pl c : Addr) (ats : List (List Nm)) (rows : List (List Bool)) (a : Addr) (ps : List Addr) (t : Tr Nm) (b : Nat) (wd : List Nm) (cs : List (Tm Nm)) (s : Sg Nm) (now : Bool) (Q : VK) : Prop :=
  ∀ B' a' ps' t' n' b' cs' H', Kp (c :: a :: ps) H H' → Src B' H' pl c ats rows a' ps' t' n' b' (eachW s wd) cs' → (∀ r, lawRun (truthOf ats rows) (⟨s, now⟩ :: r) t cs = lawRun (truthOf ats rows) r t' cs') → (ps'.length ≤ ps.length + 1 ∧ ∀ y ∈ ps', y ∈ a :: ps) → n' ≤ 9 → cs'.length + b' ≤ cs.length + b + 36 → H a' = none → Q (.ref a') H'
/-- a node over the source, kept as it is -/
theorem line_node (hS : Src B H pl c ats rows a ps t n b wd cs) (hn : n ≤ 9) (hs : sgB s = true) (hl : s.isList = false) (hu : ∀ u, tst s = some u → u ++ wd ∈ ats) (hw30 : (eachW s wd).length ≤ 30) (hcb : cs.length + b ≤ 30000) (k : Answ B H pl c ats rows a ps t b wd cs s false Q)
    {tv nv : V} (e : Ex H H1) (hx : H1 x = none) (hk : (ndOf s).Tok (New H H1) tv nv) : Q (.ref x) (upd H1 x (.lst ((ndOf s).vals (.ref a) tv nv))) := by
  have hw : wordB (eachW s wd) = true := eachW_word hs hS.word
  have := hS.node (x := x) e hx (ndOf_ok hs hl hu hk) (by rw [ndOf_word]; exact hw) (by rw [ndOf_word]; exact hw30) (by omega)
  rw [ndOf_word] at this
  refine k _ x (a :: ps) _ n (b + 4 * n) cs _ (Kp.of (e.trans (Ex.new hx))) this (fun r => ?_) ⟨Nat.le_refl _, fun y h => h⟩ hn (by omega) (fresh_back e hx)
  simp only [lawRun, hl, Bool.false_eq_true, if_false]
  rw [ndOf_tr hl]
/-- .. or drawn out at once -/
theorem line_now (hS : Src B H pl c ats rows a ps t n b wd cs) (hd : ps.length + 1 < d) (hn : n ≤ 9) (hs : sgB s = true) (hl : s.isList = false) (hu : ∀ u, tst s = some u → u ++ wd ∈ ats) (hw30 : (eachW s wd).length ≤ 30) (hcb : cs.length + b ≤ 30000) (k : Answ B H pl c ats rows a ps t b wd cs s true Q)
    {tv nv : V} (e : Ex H H1) (hx : H1 x = none) (hk : (ndOf s).Tok (New H H1) tv nv) {Q' : VK} (q : ∀ F H2, (∀ y H3, Ex H2 H3 → H3 y = none → Q (.ref y) (upd H3 y (.lst [.str "list", .ref F, .int ((0 : Nat) : Int)]))) → Q' (.ref F) H2) :
    sp__law_all d [.ref pl, .ref x] (upd H1 x (.lst ((ndOf s).vals (.ref a) tv nv))) Q' E := by
  have hw : wordB (eachW s wd) = true := eachW_word hs hS.word
  have hx0 := fresh_back e hx
  have hsrc := hS.node (x := x) e hx (ndOf_ok hs hl hu hk) (by rw [ndOf_word]; exact hw) (by rw [ndOf_word]; exact hw30) (by omega)
  rw [ndOf_word, ndOf_tr hl] at hsrc
  refine ⟨_, pl, c, ats, rows, x, a :: ps, _, n, b + 4 * n, eachW s wd, cs, rfl, hsrc, by simp only [List.length_cons]; omega, by omega, fun F H2 k2 hF0 hF hc hm hb hv => q F H2 fun y H3 e3 hy => ?_⟩
  have k02 : Kp (c :: a :: ps) H H2 := ((Kp.of (e.trans (Ex.new hx))).trans k2).forget fun z hz => by
    simp only [List.mem_cons] at hz ⊢
    rcases hz with h | h | h | h
    · exact .inl (.inl h)
    · subst h; exact .inr hx0
    · exact .inl (.inr (.inl h))
    · exact .inl (.inr (.inr h))
  have k03 := k02.trans (Kp.of e3)
  have hF0' : H F = none := fresh_back (e.trans (Ex.new hx)) hF0
  have hs2 := hS.list (x := y) k03 hF0' (e3 F _ hF) (e3 c _ hc) hy hw hw30 hv (by rw [List.length_append]; omega)
  refine k _ y [] _ _ 0 _ _ (k03.trans (Kp.of (Ex.new hy))) hs2 (fun r => ?_) ⟨by simp, by simp⟩ (by omega) (by rw [List.length_append]; omega) (k03.none_of hy)
  simp only [lawRun, hl, Bool.false_eq_true, if_false, if_true]
theorem line_list (hS : Src B H pl c ats rows a ps t n b wd cs) (hn : n ≤ 9) (hl : s.isList = true) (hcb : cs.length + b ≤ 30000) (k : Answ B H pl c ats rows a ps t b wd cs s now Q)
    {F L y : Addr} (hk : Kp (c :: a :: ps) H H1) (hF : H F = none) (hc : H1 c = some (.lst (cV (cs ++ (flat t).2)))) (hm : (flat t).1.length ≤ n) (hb : (flat t).2.length ≤ b) (hv : ∀ x ∈ (flat t).1, x.2 = wd ∧ x.1 < rows.length) (e : Ex H1 H2) (hL : L = F ∨ H1 L = none) (hL2 : H2 L = some (.lst (cV (leftOf s (flat t).1)))) (hy : H2 y = none) :
    Q (.ref y) (upd H2 y (.lst [.str "list", .ref L, .int ((0 : Nat) : Int)])) := by
  have hE : eachW s wd = wd := by cases s <;> first | rfl | cases hl
  have k2 := hk.trans (Kp.of (S := c :: a :: ps) e)
  have hL0 : H L = none := by
    rcases hL with h | h
    · rw [h]; exact hF
    · exact hk.none_of h
  obtain ⟨l1, l2⟩ := left_facts (s := s) (xs := (flat t).1)
  have hs2 := hS.list (x := y) k2 hL0 hL2 (e c _ hc) hy hS.word hS.len (fun z hz => hv z (l2 z hz)) (by rw [List.length_append]; omega)
  have hs3 := hs2
  rw [← hE] at hs3
  refine k _ y [] _ _ 0 _ _ (k2.trans (Kp.of (Ex.new hy))) hs3 (fun r => ?_) ⟨by simp, by simp⟩ (by omega) (by rw [List.length_append]; omega) (k2.none_of hy)
  simp only [lawRun, hl, if_true]
end
end CF

/-! text CfQV -/
set_option Elab.async false
set_option linter.all false
set_option maxRecDepth 100000
set_option maxHeartbeats 4000000
/-! the pieces of a comprehension -/
namespace CF
open PySem PySem.Spec PyProof.Rows L2 Evl
def sepIf : List Nat := [32, 105, 102, 32]
theorem appl_sp {w : List Nm} {y : List Nat} (h : wordB w = true) (hy : 32 ∉ y) : 32 ∉ applL w y := by
  induction w with
  | nil => exact hy
  | cons n w ih =>
    have h' : (nameB n && wordB w) = true := h
    rw [Bool.and_eq_true] at h'
    rw [applL_cons]
    simp only [List.mem_append, List.mem_singleton, not_or]
    refine ⟨fun hm => ?_, by decide, ih h'.2, by decide⟩
    have := name_free h'.1 32 hm
    omega
theorem x_sp : 32 ∉ [120] := by decide
theorem pre_sp {x : List Nat} {c : Nat} (h : 32 ∉ x) : TL.pre sepIf (c :: x) = false := by
  cases hp : TL.pre sepIf (c :: x) with
  | false => rfl
  | true =>
    have : (c :: x).take 4 = sepIf := by simpa [TL.pre, sepIf] using hp
    have h2 : x.take 3 = [105, 102, 32] := (List.cons.inj this).2
    exact absurd (List.mem_of_mem_take (i := 3) (by rw [h2]; simp)) h
theorem spl_no {S : List Nat} : ∀ (l acc : List Nat), (∀ i, i < l.length → TL.pre S (l.drop i) = false) → TL.spl S 0 acc l = [acc ++ l]
  | [], acc, _ => by rw [TL.spl_nil, List.append_nil]
  | c :: r, acc, h => by
    rw [TL.spl_miss (h 0 (by simp)), spl_no r (acc ++ [c]) fun i hi => h (i + 1) (by simpa using hi)]
    simp
theorem no_sp {a r : List Nat} (ha : 32 ∉ a) (hr : ∀ i, i < r.length → TL.pre sepIf (r.drop i) = false) : ∀ i, i < (a ++ r).length → TL.pre sepIf ((a ++ r).drop i) = false := by
  intro i hi
  by_cases h : i < a.length
  · rw [List.drop_append_of_le_length (by omega), List.drop_eq_getElem_cons h, List.cons_append]
    exact TL.pre_of_head _ _ fun e => ha (by rw [← e]; exact List.getElem_mem _)
  · have e : i = a.length + (i - a.length) := by omega
    rw [e, List.drop_append]
    rw [List.length_append] at hi
    have : (List.drop (a.length + (i - a.length)) a) = [] := List.drop_eq_nil_of_le (by omega)
    rw [this, List.nil_append, show a.length + (i - a.length) - a.length = i - a.length by omega]
    exact hr _ (by omega)
/-- what stands ahead of the conditions; the conditions' texts -/
def head0 : Sg Nm → List Nat
  | .each w => applL w [120] ++ cd " for x in rows"
  | _ => [120] ++ cd " for x in rows"
def cdOf : Sg Nm → Option (List Nm × Bool)
  | .keep t => some (t, true)
  | .drop t => some (t, false)
  | _ => none
def pieceL (p : List Nm × Bool) : List Nat := if p.2 = true then applL p.1 [120] else [110, 111, 116, 32] ++ applL p.1 [120]
theorem if_S : (" if " : Str) = SX.S sepIf := by decide +kernel
theorem comp_split {s : Sg Nm} (hc : isComp s = true) (hs : sgB s = true) : Txt.split (SX.S (compL s)) " if " = (head0 s :: (cdOf s).toList.map pieceL).map SX.S := by
  rw [if_S, SX.split_S (by decide) (by decide +kernel)]
  have a1 : cd "x for x in rows if " = ([120] ++ cd " for x in rows") ++ sepIf := by decide +kernel
  have a2 : cd "x for x in rows if not " = ([120] ++ cd " for x in rows") ++ (sepIf ++ [110, 111, 116, 32]) := by decide +kernel
  have a3 : SX.free sepIf ([120] ++ cd " for x in rows") = true := by decide +kernel
  have a4 : ∀ i, i < (cd " for x in rows").length → TL.pre sepIf ((cd " for x in rows").drop i) = false := by decide +kernel
  have b1 : ∀ {x : List Nat}, 32 ∉ x → ∀ i, i < x.length → TL.pre sepIf (x.drop i) = false := fun h => by
    have := no_sp (r := []) h (fun i hi => absurd hi (by simp))
    rw [List.append_nil] at this
    exact this
  cases s with
  | each w =>
    have hw : wordB w = true := by
      simp only [sgB, Bool.and_eq_true] at hs
      exact hs.1
    show (TL.spl sepIf 0 [] (applL w [120] ++ cd " for x in rows")).map SX.S = _
    rw [spl_no _ _ (no_sp (appl_sp hw x_sp) a4)]
    rfl
  | keep t =>
    have ht := (sg_test hs rfl).1
    have h0 := appl_sp ht x_sp
    show (TL.spl sepIf 0 [] (cd "x for x in rows if " ++ applL t [120])).map SX.S = _
    rw [a1, List.append_assoc, SX.spl_free _ (by decide) a3, spl_no _ _ (b1 h0)]
    rfl
  | drop t =>
    have ht := (sg_test hs rfl).1
    have h0 := appl_sp ht x_sp
    show (TL.spl sepIf 0 [] (cd "x for x in rows if not " ++ applL t [120])).map SX.S = _
    have e5 : cd "x for x in rows if not " ++ applL t [120] = ([120] ++ cd " for x in rows") ++ (sepIf ++ ([110, 111, 116, 32] ++ applL t [120])) := by
      rw [a2]
      simp only [List.append_assoc]
    rw [e5, SX.spl_free _ (by decide) a3, spl_no]
    · rfl
    · have e : [110, 111, 116, 32] ++ applL t [120] = [110, 111, 116] ++ (32 :: applL t [120]) := rfl
      rw [e]
      refine no_sp (by decide) fun i hi => ?_
      cases i with
      | zero => exact pre_sp h0
      | succ i => exact b1 h0 i (by simpa using hi)
  | _ => cases hc
theorem not_S : ("not " : Str) = SX.S [110, 111, 116, 32] := by decide +kernel
theorem take_sp {x : List Nat} (h : 32 ∉ x) (k : Nat) : ¬ (x.drop k).take 4 = [110, 111, 116, 32] := fun e => h (List.mem_of_mem_drop (i := k) (List.mem_of_mem_take (i := 4) (by rw [e]; simp)))
theorem repl_not {t : List Nm} {b : Bool} (ht : wordB t = true) : Txt.replace (SX.S (pieceL (t, b))) "not " "" = SX.S (applL t [120]) := by
  have h0 := appl_sp ht x_sp
  refine TL.ext_tl ?_
  show (Txt.replace _ _ _).cps.toList = _
  rw [StrLaws.replace_list (by decide +kernel), not_S]
  have e0 : ("" : Str).cps.toList = [] := by decide +kernel
  rw [e0]
  have key : StrLaws.replL [110, 111, 116, 32] [] (applL t [120]) = applL t [120] := by
    have := StrLaws.repl_none (y := [110, 111, 116, 32]) (z := []) (L := applL t [120]) (a := 0) fun k _ => take_sp h0 k
    rw [List.drop_zero] at this
    exact this
  cases b with
  | true => exact key
  | false =>
    show StrLaws.replL [110, 111, 116, 32] [] (110 :: ([111, 116, 32] ++ applL t [120])) = applL t [120]
    rw [StrLaws.replL_hit (by simp) rfl]
    exact key
theorem piece_sl {t : List Nm} {b : Bool} (ht : wordB t = true) : decide (V.str (SX.S ((pieceL (t, b)).take 4)) = V.str "not ") = !b := by
  have h0 := appl_sp ht x_sp
  cases b with
  | true =>
    refine decide_eq_false fun e => ?_
    rw [not_S] at e
    have : (applL t [120]).take 4 = [110, 111, 116, 32] := congrArg (fun v => match v with | V.str x => x.cps.toList | _ => []) e
    exact take_sp h0 0 this
  | false => exact decide_eq_true (by rw [not_S]; rfl)
theorem piece_len {t : List Nm} {b : Bool} (ht : wordB t = true) (h4 : t.length ≤ 4) : (pieceL (t, b)).length ≤ 100 := by
  have := applL_len [120] ht
  simp only [List.length_cons, List.length_nil] at this
  cases b
  · simp [pieceL]; omega
  · simp [pieceL]; omega
end CF

/-! text CfQW -/
set_option Elab.async false
set_option linter.all false
set_option maxRecDepth 100000
set_option maxHeartbeats 4000000
/-! a line carried out -/
namespace CF
open PySem PySem.Spec PyProof.Rows L2 Evl
def pre7 : List Nat := [114, 111, 119, 115, 32, 61, 32]
theorem head_l : headL = pre7 ++ [108, 105, 115, 116, 40, 114, 111, 119, 115, 41] := by decide +kernel
theorem comp_line {s : Sg Nm} (hc : isComp s = true) (now : Bool) : lineL s now = pre7 ++ ((if now = true then 91 else 40) :: (compL s ++ [if now = true then 93 else 41])) := by
  have a1 : cd "rows = [" = pre7 ++ [91] := by decide +kernel
  have a2 : cd "rows = (" = pre7 ++ [40] := by decide +kernel
  have a3 : cd "]" = [93] := by decide +kernel
  have a4 : cd ")" = [41] := by decide +kernel
  cases s with
  | each w => cases now <;> simp [lineL, a1, a2, a3, a4]
  | keep w => cases now <;> simp [lineL, a1, a2, a3, a4]
  | drop w => cases now <;> simp [lineL, a1, a2, a3, a4]
  | _ => cases hc
theorem call_line {s : Sg Nm} (hc : isComp s = false) (hl : s.isList = false) (now : Bool) : lineL s now = if now = true then pre7 ++ ([108, 105, 115, 116, 40] ++ (callL s ++ [41])) else pre7 ++ callL s := by
  have a1 : cd "rows = list(" = pre7 ++ [108, 105, 115, 116, 40] := by decide +kernel
  have a2 : cd "rows = " = pre7 := by decide +kernel
  have a4 : cd ")" = [41] := by decide +kernel
  cases s with
  | each w => cases hc
  | keep w => cases hc
  | drop w => cases hc
  | last n => cases hl
  | butl n => cases hl
  | turned => cases hl
  | _ => cases now <;> simp [lineL, a1, a2, a4]
theorem call_head {s : Sg Nm} (hc : isComp s = false) (hl : s.isList = false) : ∃ x y, callL s = x :: y ∧ (x = 116 ∨ x = 100 ∨ x = 105) ∧ 6 ≤ y.length := by
  rw [callL_eq hc hl]
  have a1 : cd "takewhile" = 116 :: [97, 107, 101, 119, 104, 105, 108, 101] := by decide +kernel
  have a2 : cd "dropwhile" = 100 :: [114, 111, 112, 119, 104, 105, 108, 101] := by decide +kernel
  have a3 : cd "islice" = 105 :: [115, 108, 105, 99, 101] := by decide +kernel
  cases s with
  | each w => cases hc
  | keep w => cases hc
  | drop w => cases hc
  | last n => cases hl
  | butl n => cases hl
  | turned => cases hl
  | whil t => exact ⟨116, _, by simp only [wordL, a1]; rfl, .inl rfl, by simp⟩
  | from_ t => exact ⟨100, _, by simp only [wordL, a2]; rfl, .inr (.inl rfl), by simp⟩
  | first n => exact ⟨105, _, by simp only [wordL, a3]; rfl, .inr (.inr rfl), by simp⟩
  | skip n => exact ⟨105, _, by simp only [wordL, a3]; rfl, .inr (.inr rfl), by simp⟩
  | every ky r => exact ⟨105, _, by simp only [wordL, a3]; rfl, .inr (.inr rfl), by simp⟩
section
variable {K : PySem.W.Frag} {mg : Str → Option Value} {vs : List V} {B H H1 H2 H' : Hp} {Q : VK} {E : XK} {σ : L2.St} {ta tb : TE} {ats : List (List Nm)} {rows : List (List Bool)}
variable {pl c a x : Addr} {ps : List Addr} {t : Tr Nm} {n b d : Nat} {wd : List Nm} {cs : List (Tm Nm)} {s : Sg Nm} {now : Bool}
theorem Src.ext (hS : Src B H pl c ats rows a ps t n b wd cs) (e : Ex H H1) : Src B H1 pl c ats rows a ps t n b wd cs :=
  ⟨hS.play, hS.wb, fun y o h => e y o (hS.ex y o h), hS.out, hS.nd, hS.rep.kp (Kp.of (S := []) e) fun _ _ => by simp, e c _ hS.calls, hS.few, hS.word, hS.len⟩
theorem callL_len3 {s : Sg Nm} (hs : sgB s = true) (hc : isComp s = false) (hl : s.isList = false) : (callL s).length ≤ 300 := by
  rw [callL_eq hc hl]
  have := innerL_len hs
  have := (wordL_free s).2
  simp only [List.length_append, List.length_cons, List.length_nil]
  omega
theorem compL_len3 {s : Sg Nm} (hs : sgB s = true) : (compL s).length ≤ 300 := by
  have b1 : (cd " for x in rows").length = 14 := by decide +kernel
  have b2 : (cd "x for x in rows if ").length = 19 := by decide +kernel
  have b3 : (cd "x for x in rows if not ").length = 23 := by decide +kernel
  cases s with
  | each w =>
    simp only [sgB, Bool.and_eq_true, decide_eq_true_eq] at hs
    have := applL_len [120] hs.1
    simp only [List.length_cons, List.length_nil] at this
    simp only [compL, List.length_append, b1]
    omega
  | keep t =>
    obtain ⟨h1, h2⟩ := sg_test hs rfl
    have := applL_len [120] h1
    simp only [List.length_cons, List.length_nil] at this
    simp only [compL, List.length_append, b2]
    omega
  | drop t =>
    obtain ⟨h1, h2⟩ := sg_test hs rfl
    have := applL_len [120] h1
    simp only [List.length_cons, List.length_nil] at this
    simp only [compL, List.length_append, b3]
    omega
  | _ => exact Nat.zero_le _
/-- over all rows -/
theorem line_A {sA : Sp} {tz : TS} (hS : Src B H pl c ats rows a ps t n b wd cs) (hd : ps.length + 1 < d) (hn : n ≤ 9) (hs : sgB s = true) (hl : s.isList = true) (hcb : cs.length + b ≤ 30000) (k : Answ B H pl c ats rows a ps t b wd cs s now Q) :
    tSeq (tIfS (tTest (tOp rEq (tSl C8.rSlX (tVar 1) tNoPart (tPart (tC (.int 17)))) (tC (.str "rows = list(rows)")))) (tSeq (tPar 3 4 (tCons (tCall (sp__law_all d) [] C8.E0 (tCons (tVar 0) (tCons (tVar 2) tNil))) (tCons (tSl C8.rSlX (tVar 1) (tPart (tC (.int 17))) tNoPart) tNil))) (tSeq (tIfS (tTest (tOp rEq (tSl C8.rSlX (tVar 4) tNoPart (tPart (tC (.int 2)))) (tC (.str "[-")))) (tAsg (tSl (rSlL K) (tVar 3) (tPart (tUn (rU fun i => .int (-i)) (tCB cIntS (tCons (tOp rIxS (tVar 4) (tC (.int 2))) tNil)))) tNoPart) (gName 3)) (tIfS (tTest (tOp rEq (tSl C8.rSlX (tVar 4) tNoPart (tPart (tC (.int 3)))) (tC (.str "[:-")))) (tAsg (tSl (rSlL K) (tVar 3) tNoPart (tPart (tUn (rU fun i => .int (-i)) (tCB cIntS (tCons (tOp rIxS (tVar 4) (tC (.int 3))) tNil))))) (gName 3)) (tNext))) (tRet (tLst (tCons (tC (.str "list")) (tCons (tIf (tTest (tOp rEq (tVar 4) (tC (.str "[::-1]")))) (tRevL K (tVar 3)) (tVar 3)) (tCons (tC (.int 0)) tNil))))))) (tNext)) tz (ends Q)
      [some (.ref pl), some (nV (lineL s now)), some (.ref a), none, none, none, none, none, none] H := by
  have hln := line_tail hl now
  have htl := tail_len s
  have hll : (headL ++ tailL s).length ≤ 100000 := by rw [List.length_append, headL_len]; omega
  rw [hln]
  refine ev_slice (m := headL) (σ := [some (.ref pl), some (nV (headL ++ tailL s)), some (.ref a), none, none, none, none, none, none]) (ev_var (i := 1) rfl) eo_none (eo_some ev_c) hll (SX.to_app _ _ (by rw [headL_len]; rfl)) H (Ex.refl H) _ fun H1 e1 => ⟨rfl, _, rfl, ?_⟩
  refine ifT (congrArg V.str (cd_S "rows = list(rows)").symm) ?_
  refine ⟨_, rfl, _, rfl, B, pl, c, ats, rows, a, ps, t, n, b, wd, cs, rfl, hS.ext e1, by omega, by omega, fun F H2 k2 hF0 hF hc hm hb hv => ?_⟩
  refine ev_slice (m := tailL s) (σ := [some (.ref pl), some (nV (headL ++ tailL s)), some (.ref a), none, none, none, none, none, none]) (ev_var (i := 1) rfl) (eo_some ev_c) eo_none hll (SX.from_app _ _ (by rw [headL_len]; rfl)) H2 (Ex.refl H2) _ fun H3 e3 => ⟨_, _, rfl, ?_⟩
  have k03 : Kp (c :: a :: ps) H H3 := ((Kp.of e1).trans k2).trans (Kp.of e3)
  refine tail_go (v0 := .ref pl) (v1 := nV (headL ++ tailL s)) (v2 := .ref a) hl hs (e3 F _ hF) fun L y H4 e4 hL hL4 hy => ?_
  exact line_list hS hn hl hcb k k03 (fresh_back e1 hF0) (e3 c _ hc) hm hb hv e4 hL hL4 hy
end
end CF

/-! text CfQX -/
set_option Elab.async false
set_option linter.all false
set_option maxRecDepth 100000
set_option maxHeartbeats 4000000
/-! a line carried out: the rest -/
namespace CF
open PySem PySem.Spec PyProof.Rows L2 Evl
section
variable {K : PySem.W.Frag} {mg : Str → Option Value} {vs : List V} {B H H1 H2 H' : Hp} {Q : VK} {E : XK} {σ : L2.St} {ta tb : TE} {ats : List (List Nm)} {rows : List (List Bool)}
variable {pl c a x : Addr} {ps : List Addr} {t : Tr Nm} {n b d : Nat} {wd : List Nm} {cs : List (Tm Nm)} {s : Sg Nm} {now : Bool}
theorem not_head {D : Ends} {tu tz : TS} {l : List Nat} {k x y : Nat} (hσ : σ[1]? = some (some (nV l))) (hl : l.length ≤ 100000) (hk : k < 17) (h1 : l[k]? = some x) (h2 : headL[k]? = some y) (hxy : x ≠ y) (q : ∀ H1, Ex H H1 → tz D σ H1) :
    tSeq (tIfS (tTest (tOp rEq (tSl C8.rSlX (tVar 1) tNoPart (tPart (tC (.int 17)))) (tC (.str "rows = list(rows)")))) tu (tNext)) tz D σ H := by
  refine ev_slice (a := l) (m := l.take 17) (σ := σ) (ev_var (i := 1) hσ) eo_none (eo_some ev_c) hl (SX.slice_to (by decide)) H (Ex.refl H) _ fun H1 e1 => ⟨rfl, _, rfl, ?_⟩
  refine ifF (fun e => take_ne hk h1 h2 hxy ?_) (q H1 e1)
  have := V.str.inj e
  rw [this]
  exact cd_S "rows = list(rows)"
/-- line[7] in ['[', '('] -/
theorem ev_mark {l : List Nat} {x : Nat} (hσ : σ[1]? = some (some (nV l))) (hl : l.length ≤ 100000) (h7 : l[7]? = some x) : EvT (tTest (tOp (rIn K false) (tOp rIxS (tVar 1) (tC (.int 7))) (tLst (tCons (tC (.str "[")) (tCons (tC (.str "(")) tNil))))) σ H (decide (x = 91 ∨ x = 40)) := fun H1 e Q q => by
  refine ev_ixC (w := l) (i := ((7 : Nat) : Int)) (ev_var (i := 1) hσ) hl (atI_nat h7) H1 (Ex.refl H1) _ fun H2 e2 => ⟨by show 2 ≤ sizeLine; decide, fun p hp => ⟨p, _, rfl, .inl (sq_of upd_same), rfl, rfl, _, rfl, ?_⟩⟩
  have c1 : ("[" : Str) = ⟨#[91]⟩ := by decide +kernel
  have c2 : ("(" : Str) = ⟨#[40]⟩ := by decide +kernel
  have : inV (V.str ⟨#[x]⟩) [V.str "[", V.str "("] = decide (x = 91 ∨ x = 40) := by
    rw [c1, c2]
    by_cases h1 : x = 91
    · subst h1; decide +kernel
    · by_cases h2 : x = 40
      · subst h2; decide +kernel
      · rw [decide_eq_false (by simp [h1, h2])]
        have n1 : eqV (V.str ⟨#[91]⟩) (V.str ⟨#[x]⟩) = false := beq_eq_false_iff_ne.mpr fun e => by
          have := congrArg (fun z : Str => z.cps.toList) e
          simp at this
          exact h1 this.symm
        have n2 : eqV (V.str ⟨#[40]⟩) (V.str ⟨#[x]⟩) = false := beq_eq_false_iff_ne.mpr fun e => by
          have := congrArg (fun z : Str => z.cps.toList) e
          simp at this
          exact h2 this.symm
        show (eqV (V.str ⟨#[91]⟩) (V.str ⟨#[x]⟩) || (eqV (V.str ⟨#[40]⟩) (V.str ⟨#[x]⟩) || false)) = false
        rw [n1, n2]
        rfl
  have q2 := q (upd H2 p (.lst [V.str "[", V.str "("])) (e2.trans (Ex.new hp))
  rw [← this] at q2
  exact q2
theorem line_C {tu : TS} (hS : Src B H pl c ats rows a ps t n b wd cs) (hd : ps.length + 1 < d) (hn : n ≤ 9) (hs : sgB s = true) (hc : isComp s = false) (hl : s.isList = false) (hu : ∀ u, tst s = some u → u ++ wd ∈ ats) (hw30 : (eachW s wd).length ≤ 30) (hcb : cs.length + b ≤ 30000) (k : Answ B H pl c ats rows a ps t b wd cs s now Q) :
    tSeq (tIfS (tTest (tOp (rIn K false) (tOp rIxS (tVar 1) (tC (.int 7))) (tLst (tCons (tC (.str "[")) (tCons (tC (.str "(")) tNil))))) tu (tNext)) (tSeq (tIfS (tTest (tOp rEq (tSl C8.rSlX (tVar 1) (tPart (tC (.int 7))) (tPart (tC (.int 12)))) (tC (.str "list(")))) (tRet (tLst (tCons (tC (.str "list")) (tCons (tCall (sp__law_all d) [] C8.E0 (tCons (tVar 0) (tCons (tCall sp__law_call_begun [] C8.E0 (tCons (tSl C8.rSlX (tVar 1) (tPart (tC (.int 12))) (tPart (tUn (rU fun i => .int (-i)) (tC (.int 1))))) (tCons (tVar 2) tNil))) tNil))) (tCons (tC (.int 0)) tNil))))) (tNext)) (tRet (tCall sp__law_call_begun [] C8.E0 (tCons (tSl C8.rSlX (tVar 1) (tPart (tC (.int 7))) tNoPart) (tCons (tVar 2) tNil))))) (ends Q)
      [some (.ref pl), some (nV (lineL s now)), some (.ref a), none, none, none, none, none, none] H := by
  have hcl := callL_len3 hs hc hl
  obtain ⟨x0, y0, hxy, hx0, hy0⟩ := call_head hc hl
  have lst5 : ("list(" : Str) = SX.S [108, 105, 115, 116, 40] := by decide +kernel
  have z3 : 3 ≤ sizeLine := by decide
  rw [call_line hc hl]
  cases now with
  | true =>
    rw [if_pos rfl]
    have hll : (pre7 ++ ([108, 105, 115, 116, 40] ++ (callL s ++ [41]))).length ≤ 100000 := by simp only [List.length_append, List.length_cons, List.length_nil]; show 7 + _ ≤ _; omega
    have hmid : Txt.slice (SX.S (pre7 ++ ([108, 105, 115, 116, 40] ++ (callL s ++ [41])))) (some 12) (some (-((1 : Nat) : Int))) = SX.S (callL s) := by
      have := sl_mid (pre7 ++ [108, 105, 115, 116, 40]) (callL s) [41] (i := 12) (j := -((1 : Nat) : Int)) rfl rfl (by simp)
      rw [List.append_assoc] at this
      exact this
    refine ev_mark (x := 108) (σ := [some (.ref pl), some (nV (pre7 ++ ([108, 105, 115, 116, 40] ++ (callL s ++ [41])))), some (.ref a), none, none, none, none, none, none]) rfl hll rfl H (Ex.refl H) _ fun H1 e1 => ?_
    refine ibF (by decide) ?_
    refine ev_slice (m := [108, 105, 115, 116, 40]) (σ := [some (.ref pl), some (nV (pre7 ++ ([108, 105, 115, 116, 40] ++ (callL s ++ [41])))), some (.ref a), none, none, none, none, none, none]) (ev_var (i := 1) rfl) (eo_some ev_c) (eo_some ev_c) hll (sl_two _ _ _ rfl rfl) H1 (Ex.refl H1) _ fun H2 e2 => ⟨rfl, _, rfl, ?_⟩
    refine ifT (by rw [lst5]) ⟨_, rfl, ?_⟩
    refine ev_slice (m := callL s) (σ := [some (.ref pl), some (nV (pre7 ++ ([108, 105, 115, 116, 40] ++ (callL s ++ [41])))), some (.ref a), none, none, none, none, none, none]) (ev_var (i := 1) rfl) (eo_some ev_c) (eo_neg (n := 1)) hll hmid H2 (Ex.refl H2) _ fun H3 e3 => ⟨_, rfl, ?_⟩
    refine ⟨s, a, rfl, hs, hc, hl, fun x tv nv H4 e4 hx hk => ?_⟩
    have e03 := e1.trans (e2.trans e3)
    refine nil_in ?_
    refine line_now hS hd hn hs hl hu hw30 hcb k (e03.trans e4) hx (hk.ex (New.back e03)) fun F H5 q5 => ?_
    exact ⟨z3, fun y hy => q5 y H5 (Ex.refl H5) hy⟩
  | false =>
    rw [if_neg (by simp)]
    have hll : (pre7 ++ callL s).length ≤ 100000 := by rw [List.length_append]; show 7 + _ ≤ _; omega
    have h7 : (pre7 ++ callL s)[7]? = some x0 := by rw [hxy]; rfl
    refine ev_mark (x := x0) (σ := [some (.ref pl), some (nV (pre7 ++ callL s)), some (.ref a), none, none, none, none, none, none]) rfl hll h7 H (Ex.refl H) _ fun H1 e1 => ?_
    refine ibF (by rcases hx0 with h | h | h <;> subst h <;> decide) ?_
    have h5 : ((callL s).take 5).length = 5 := by rw [List.length_take, hxy, List.length_cons]; omega
    refine ev_slice (m := (callL s).take 5) (σ := [some (.ref pl), some (nV (pre7 ++ callL s)), some (.ref a), none, none, none, none, none, none]) (ev_var (i := 1) rfl) (eo_some ev_c) (eo_some ev_c) hll (by
      have := sl_two pre7 ((callL s).take 5) ((callL s).drop 5) (i := 7) (j := 12) rfl (by rw [h5]; rfl)
      rw [List.take_append_drop] at this
      exact this) H1 (Ex.refl H1) _ fun H2 e2 => ⟨rfl, _, rfl, ?_⟩
    refine ifF (fun e => ?_) ?_
    · rw [lst5] at e
      have e2 := V.str.inj e
      rw [hxy] at e2
      exact take_ne (k := 0) (c := x0) (d := 108) (l := [108, 105, 115, 116, 40]) (by decide) rfl rfl (by rcases hx0 with h | h | h <;> omega) e2
    refine ev_slice (m := callL s) (σ := [some (.ref pl), some (nV (pre7 ++ callL s)), some (.ref a), none, none, none, none, none, none]) (ev_var (i := 1) rfl) (eo_some ev_c) eo_none hll (SX.from_app _ _ rfl) H2 (Ex.refl H2) _ fun H3 e3 => ⟨_, rfl, ?_⟩
    refine ⟨s, a, rfl, hs, hc, hl, fun x tv nv H4 e4 hx hk => ?_⟩
    have e03 := e1.trans (e2.trans e3)
    exact line_node hS hn hs hl hu hw30 hcb k (e03.trans e4) hx (hk.ex (New.back e03))
end
end CF

/-! text CfQY -/
set_option Elab.async false
set_option linter.all false
set_option maxRecDepth 100000
set_option maxHeartbeats 4000000
/-! a line carried out: comprehensions -/
namespace CF
open PySem PySem.Spec PyProof.Rows L2 Evl
section
variable {K : PySem.W.Frag} {mg : Str → Option Value} {vs : List V} {B H H1 H2 H' : Hp} {Q : VK} {E : XK} {σ : L2.St} {ta tb : TE} {ats : List (List Nm)} {rows : List (List Bool)}
variable {pl c a x : Addr} {ps : List Addr} {t : Tr Nm} {n b d : Nat} {wd : List Nm} {cs : List (Tm Nm)} {s : Sg Nm} {now : Bool}
theorem cut_one (x : V) (xs : List V) : cutV (x :: xs) (some (1 : Int)) none = xs := by
  rw [show (1 : Int) = ((1 : Nat) : Int) from rfl, cut_drop _ (by simp)]
  rfl
theorem tests_go {v0 v1 v2 : V} {P : Addr} {p0 : List Nat} {cd : Option (List Nm × Bool)} (hP : H P = some (.lst ((p0 :: cd.toList.map pieceL).map nV))) (hcd : ∀ p, cd = some p → wordB p.1 = true ∧ p.1.length ≤ 4)
    (k : ∀ D H', Ex H H' → Tst (New H H') (.ref D) cd.toList → Q (.ref D) H') :
    tLc (iList K (tSl (rSlL K) (tVar 5) (tPart (tC (.int 1))) tNoPart)) (gName 8) tYes (tTup (tCons (tCall sp__law_names_of [] C8.E0 (tCons (CwR.tReplC (tVar 8) "not " "") tNil)) (tCons (tOp rNe (tSl C8.rSlX (tVar 8) tNoPart (tPart (tC (.int 4)))) (tC (.str "not "))) tNil))) [8] [some v0, some v1, some v2, none, none, some (.ref P), none, none, none] H Q := by
  refine ⟨_, rfl, 1, rfl, P, _, rfl, sq_of hP, fun q hq => ?_⟩
  have e1 : Ex H (upd H q (.lst (cutV ((p0 :: cd.toList.map pieceL).map nV) (some 1) none))) := Ex.new hq
  have hcut : cutV ((p0 :: cd.toList.map pieceL).map nV) (some (1 : Int)) none = (cd.toList.map pieceL).map nV := cut_one _ _
  rw [hcut] at e1 ⊢
  generalize hH1 : upd H q (.lst ((cd.toList.map pieceL).map nV)) = H1 at e1
  have hq1 : H1 q = some (.lst ((cd.toList.map pieceL).map nV)) := by rw [← hH1]; exact upd_same
  refine ⟨q, rfl, ⟨_, sq_of hq1⟩, fun D hD => ?_⟩
  have hD0 := fresh_back e1 hD
  have eD : Ex H1 (upd H1 D (.lst [])) := Ex.new hD
  cases cd with
  | none =>
    refine lc_list (xs := []) (fun i H' => H' = upd H1 D (.lst [])) rfl (fun i H' _ z => by rw [z]; exact sq_of (eD q _ hq1)) (fun i y H' hi _ => by simp at hi) ?_
    intro H' z
    subst z
    exact k D _ (e1.trans eD) ⟨D, [], rfl, new_at hD0 upd_same, trivial⟩
  | some p =>
    obtain ⟨u, bb⟩ := p
    obtain ⟨hu, hu4⟩ : wordB u = true ∧ u.length ≤ 4 := hcd _ rfl
    have hpl : (pieceL (u, bb)).length ≤ 100 := piece_len (b := bb) hu hu4
    refine lc_list (xs := [nV (pieceL (u, bb))]) (fun i H' => (i = 0 ∧ H' = upd H1 D (.lst [])) ∨ (i = 1 ∧ Ex H1 H' ∧ Tst (New H H') (.ref D) [(u, bb)])) (.inl ⟨rfl, rfl⟩) ?_ ?_ ?_
    · rintro i H' _ (⟨_, rfl⟩ | ⟨_, e, _⟩)
      · exact sq_of (eD q _ hq1)
      · exact sq_of (e q _ hq1)
    · rintro i y H' hi (⟨rfl, rfl⟩ | ⟨rfl, _⟩)
      · obtain rfl : nV (pieceL (u, bb)) = y := Option.some.inj hi
        refine ⟨rfl, _, rfl, _, rfl, ?_, ?_⟩
        · have : ("" : Str).length = 0 := by decide +kernel
          rw [this, lenS]
          omega
        rw [repl_not hu]
        refine ⟨u, [], congrArg (fun z => [nV z]) (List.append_nil _).symm, hu, by omega, by simp, by simp, fun nv H4 e4 hnv => ?_⟩
        refine ev_slice (a := pieceL (u, bb)) (m := (pieceL (u, bb)).take 4) (σ := [some v0, some v1, some v2, none, none, some (.ref P), none, none, some (nV (pieceL (u, bb)))]) (ev_var (i := 8) rfl) eo_none (eo_some ev_c) (by omega) (SX.slice_to (by decide)) H4 (Ex.refl H4) _ fun H5 e5 => ⟨rfl, ?_⟩
        rw [piece_sl hu, Bool.not_not]
        refine ⟨by show 2 ≤ sizeLine; decide, fun w hw => ?_⟩
        have e45 := e4.trans e5
        have e6 : Ex H5 (upd H5 w (.tup [nv, .bl bb])) := Ex.new hw
        have e16 := (eD.trans e45).trans e6
        refine ⟨[], e6 D _ (e45 D _ upd_same), by decide, .inr ⟨rfl, Ex.mut ((eD.trans e45).trans e6) hD, ?_⟩⟩
        have hDw : D ≠ w := fun z => by
          have := e45 D _ upd_same
          rw [z, hw] at this
          cases this
        have hw0 : H w = none := fresh_back ((e1.trans eD).trans e45) hw
        refine ⟨D, [.ref w], rfl, new_at hD0 upd_same, ⟨w, nv, rfl, new_at hw0 (by rw [upd_ne hDw.symm]; exact upd_same), ?_⟩, trivial⟩
        obtain ⟨na, rfl, hna⟩ := hnv
        obtain ⟨n1, n2⟩ := new_get hna
        have n3 : H na = none := fresh_back (e1.trans eD) n1
        refine ⟨na, rfl, new_at n3 ?_⟩
        have hnD : na ≠ D := fun z => by rw [z, upd_same] at n1; cases n1
        rw [upd_ne hnD]
        exact e6 na _ (e5 na _ n2)
      · simp at hi
    · rintro H' (⟨hh, _⟩ | ⟨_, e, ht⟩)
      · simp at hh
      · exact k D H' (e1.trans e) ht
theorem head0_names {s : Sg Nm} (hs : sgB s = true) (hc : isComp s = true) : ∃ w, head0 s = applL w [120] ++ cd " for x in rows" ∧ wordB w = true ∧ w.length ≤ 3 ∧ ndOf s = .row (cdOf s) w := by
  cases s with
  | each w =>
    simp only [sgB, Bool.and_eq_true, decide_eq_true_eq] at hs
    exact ⟨w, rfl, hs.1, hs.2, rfl⟩
  | keep t => exact ⟨[], rfl, rfl, by decide, rfl⟩
  | drop t => exact ⟨[], rfl, rfl, by decide, rfl⟩
  | _ => cases hc
theorem line_B {tz : TS} (hS : Src B H pl c ats rows a ps t n b wd cs) (hd : ps.length + 1 < d) (hn : n ≤ 9) (hs : sgB s = true) (hc : isComp s = true) (hu : ∀ u, tst s = some u → u ++ wd ∈ ats) (hw30 : (eachW s wd).length ≤ 30) (hcb : cs.length + b ≤ 30000) (k : Answ B H pl c ats rows a ps t b wd cs s now Q) :
    tSeq (tIfS (tTest (tOp (rIn K false) (tOp rIxS (tVar 1) (tC (.int 7))) (tLst (tCons (tC (.str "[")) (tCons (tC (.str "(")) tNil))))) (tSeq (tAsg (tM1 mSplit (tSl C8.rSlX (tVar 1) (tPart (tC (.int 8))) (tPart (tUn (rU fun i => .int (-i)) (tC (.int 1))))) (tC (.str " if "))) (gName 5)) (tSeq (tAsg (tLc (iList K (tSl (rSlL K) (tVar 5) (tPart (tC (.int 1))) tNoPart)) (gName 8) tYes (tTup (tCons (tCall sp__law_names_of [] C8.E0 (tCons (CwR.tReplC (tVar 8) "not " "") tNil)) (tCons (tOp rNe (tSl C8.rSlX (tVar 8) tNoPart (tPart (tC (.int 4)))) (tC (.str "not "))) tNil))) [8]) (gName 6)) (tSeq (tAsg (tLst (tCons (tC (.str "rows")) (tCons (tVar 2) (tCons (tVar 6) (tCons (tCall sp__law_names_of [] C8.E0 (tCons (tOp (rIxL K) (tVar 5) (tC (.int 0))) tNil)) tNil))))) (gName 7)) (tRet (tIf (tTest (tOp rEq (tOp rIxS (tVar 1) (tC (.int 7))) (tC (.str "[")))) (tLst (tCons (tC (.str "list")) (tCons (tCall (sp__law_all d) [] C8.E0 (tCons (tVar 0) (tCons (tVar 7) tNil))) (tCons (tC (.int 0)) tNil)))) (tVar 7)))))) (tNext)) tz (ends Q)
      [some (.ref pl), some (nV (lineL s now)), some (.ref a), none, none, none, none, none, none] H := by
  have hl : s.isList = false := by cases s <;> first | rfl | cases hc
  have hcl := compL_len3 hs
  have z3 : 3 ≤ sizeLine := by decide
  have z4 : 4 ≤ sizeLine := by decide
  obtain ⟨w, hh, hw, hw3, hnd⟩ := head0_names hs hc
  rw [comp_line hc]
  generalize hm : (if now = true then 91 else 40) = m
  generalize hm2 : (if now = true then 93 else 41) = m2
  have hmm : m = 91 ∨ m = 40 := by cases now <;> simp at hm <;> omega
  have hll : (pre7 ++ (m :: (compL s ++ [m2]))).length ≤ 100000 := by simp only [List.length_append, List.length_cons, List.length_nil]; show 7 + _ ≤ _; omega
  have hmid : Txt.slice (SX.S (pre7 ++ (m :: (compL s ++ [m2])))) (some 8) (some (-((1 : Nat) : Int))) = SX.S (compL s) := by
    have := sl_mid (pre7 ++ [m]) (compL s) [m2] (i := 8) (j := -((1 : Nat) : Int)) rfl rfl (by simp)
    rw [List.append_assoc] at this
    exact this
  have h7 : (pre7 ++ (m :: (compL s ++ [m2])))[7]? = some m := rfl
  generalize hln : pre7 ++ (m :: (compL s ++ [m2])) = ln at hll hmid h7
  refine ev_mark (x := m) (σ := [some (.ref pl), some (nV ln), some (.ref a), none, none, none, none, none, none]) rfl hll h7 H (Ex.refl H) _ fun H1 e1 => ?_
  refine ibT (decide_eq_true hmm) ?_
  refine ev_slice (m := compL s) (σ := [some (.ref pl), some (nV ln), some (.ref a), none, none, none, none, none, none]) (ev_var (i := 1) rfl) (eo_some ev_c) (eo_neg (n := 1)) hll hmid H1 (Ex.refl H1) _ fun H2 e2 => ⟨⟨_, rfl⟩, _, _, rfl, rfl, by decide +kernel, by rw [lenS]; exact sz_of (by omega), ?_⟩
  rw [comp_split hc hs]
  intro P hP
  rw [mapS]
  have e3 : Ex H2 (upd H2 P (.lst ((head0 s :: (cdOf s).toList.map pieceL).map nV))) := Ex.new hP
  generalize hH3 : upd H2 P (.lst ((head0 s :: (cdOf s).toList.map pieceL).map nV)) = H3 at e3
  have hP3 : H3 P = some (.lst ((head0 s :: (cdOf s).toList.map pieceL).map nV)) := by rw [← hH3]; exact upd_same
  have e03 := e1.trans (e2.trans e3)
  have hcd : ∀ p, cdOf s = some p → wordB p.1 = true ∧ p.1.length ≤ 4 := fun p hp => by
    cases s <;> simp only [cdOf, reduceCtorEq, Option.some.injEq] at hp <;> subst hp <;> exact sg_test hs rfl
  show tSeq (tAsg (tLc (iList K (tSl (rSlL K) (tVar 5) (tPart (tC (.int 1))) tNoPart)) (gName 8) tYes (tTup (tCons (tCall sp__law_names_of [] C8.E0 (tCons (CwR.tReplC (tVar 8) "not " "") tNil)) (tCons (tOp rNe (tSl C8.rSlX (tVar 8) tNoPart (tPart (tC (.int 4)))) (tC (.str "not "))) tNil))) [8]) (gName 6)) _ _ [some (.ref pl), some (nV ln), some (.ref a), none, none, some (.ref P), none, none, none] H3
  show tAsg (tLc (iList K (tSl (rSlL K) (tVar 5) (tPart (tC (.int 1))) tNoPart)) (gName 8) tYes (tTup (tCons (tCall sp__law_names_of [] C8.E0 (tCons (CwR.tReplC (tVar 8) "not " "") tNil)) (tCons (tOp rNe (tSl C8.rSlX (tVar 8) tNoPart (tPart (tC (.int 4)))) (tC (.str "not "))) tNil))) [8]) (gName 6) _ [some (.ref pl), some (nV ln), some (.ref a), none, none, some (.ref P), none, none, none] H3
  show tLc (iList K (tSl (rSlL K) (tVar 5) (tPart (tC (.int 1))) tNoPart)) (gName 8) tYes (tTup (tCons (tCall sp__law_names_of [] C8.E0 (tCons (CwR.tReplC (tVar 8) "not " "") tNil)) (tCons (tOp rNe (tSl C8.rSlX (tVar 8) tNoPart (tPart (tC (.int 4)))) (tC (.str "not "))) tNil))) [8] [some (.ref pl), some (nV ln), some (.ref a), none, none, some (.ref P), none, none, none] H3 _
  refine tests_go hP3 hcd fun D H4 e4 hD => ?_
  have e04 := e03.trans e4
  have hR : 40 ∉ cd " for x in rows" ∧ (cd " for x in rows").length ≤ 100 := by decide +kernel
  refine ⟨_, rfl, _, rfl, _, rfl, P, _, ((0 : Nat) : Int), _, rfl, rfl, sq_of (e4 P _ hP3), atI_nat rfl, ?_⟩
  refine nil_in ?_
  refine ⟨w, cd " for x in rows", by rw [hh]; rfl, hw, by omega, hR.1, hR.2, fun nv H5 e5 hnv => ?_⟩
  refine nil_in ⟨z4, fun x hx => ?_⟩
  have e05 := e04.trans e5
  have hDn : Tst (New H H5) (.ref D) (cdOf s).toList := (hD.ex (New.back e03)).ex (New.ex e5)
  have hnn : Wd (New H H5) nv w := hnv.fx (Fx.of (New.back e04))
  have hk : (ndOf s).Tok (New H H5) (.ref D) nv := by rw [hnd]; exact ⟨hDn, hnn⟩
  have hvals : (ndOf s).vals (.ref a) (.ref D) nv = [.str "rows", .ref a, .ref D, nv] := by rw [hnd]; rfl
  have c1 : ("[" : Str) = ⟨#[91]⟩ := by decide +kernel
  refine ⟨_, rfl, _, ((7 : Nat) : Int), m, rfl, rfl, by rw [lenS]; exact sz_of hll, atI_nat h7, rfl, _, rfl, ?_⟩
  cases now with
  | true =>
    simp only [if_true] at hm
    refine ifT (by rw [c1, ← hm]) ⟨_, rfl, _, rfl, ?_⟩
    refine nil_in ?_
    have := line_now (x := x) (d := d) (E := C8.E0) hS hd hn hs hl hu hw30 hcb k e05 hx hk (Q' := fun v H' => tCons (tC (.int 0)) tNil [some (.ref pl), some (nV ln), some (.ref a), none, none, some (.ref P), some (.ref D), some (.ref x), none] H' fun xs H2 => (v :: xs).length + 1 ≤ sizeLine ∧ ∀ p, H2 p = none → Q (.ref p) (upd H2 p (.lst (.str "list" :: v :: xs)))) fun F H6 q6 => ⟨by show 3 ≤ sizeLine; decide, fun y hy => q6 y H6 (Ex.refl H6) hy⟩
    rw [hvals] at this
    exact this
  | false =>
    simp only [Bool.false_eq_true, if_false] at hm
    refine ifF (fun e => ?_) ⟨_, rfl, ?_⟩
    · rw [c1, ← hm] at e
      exact absurd (V.str.inj e) (by decide +kernel)
    · have := line_node (x := x) hS hn hs hl hu hw30 hcb k e05 hx hk
      rw [hvals] at this
      exact this
end
end CF

/-! text CfQZ -/
set_option Elab.async false
set_option linter.all false
set_option maxRecDepth 100000
set_option maxHeartbeats 4000000
/-! a line carried out: whole -/
namespace CF
open PySem PySem.Spec PyProof.Rows L2 Evl
theorem line_len {s : Sg Nm} (hs : sgB s = true) (now : Bool) : (lineL s now).length ≤ 1000 := by
  cases hl : s.isList with
  | true =>
    rw [line_tail hl, List.length_append, headL_len]
    have := tail_len s
    omega
  | false =>
    cases hc : isComp s with
    | true =>
      rw [comp_line hc]
      have := compL_len3 hs
      simp only [List.length_append, List.length_cons, List.length_nil]
      show 7 + _ ≤ _
      omega
    | false =>
      rw [call_line hc hl]
      have := callL_len3 hs hc hl
      cases now with
      | true =>
        rw [if_pos rfl]
        simp only [List.length_append, List.length_cons, List.length_nil]
        show 7 + _ ≤ _
        omega
      | false =>
        rw [if_neg (by simp), List.length_append]
        show 7 + _ ≤ _
        omega
section
variable {K : PySem.W.Frag} {mg : Str → Option Value} {vs : List V} {B H H1 H2 H' : Hp} {Q : VK} {E : XK} {σ : L2.St} {ta tb : TE} {ats : List (List Nm)} {rows : List (List Bool)} {d : Nat}
theorem p__law_line_done (d : Nat) (h : sp__law_line_done d vs H Q E) : r__law_line_done K (sp__law_all d) sp__law_names_of sp__law_call_begun (ends Q) (start ["_law_play_here", "_law_line", "_law_source", "_law_found", "_law_tail", "_law_pieces", "_law_tests_here", "_law_begun", "_law_piece"] vs) H := by
  obtain ⟨B, pl, c, ats, rows, a, ps, t, n, b, wd, cs, s, now, rfl, hS, hd, hn, hs, hu, hw30, hnow, hcb, k⟩ := h
  have hk : Answ B H pl c ats rows a ps t b wd cs s now Q := k
  have hll := line_len hs now
  cases hl : s.isList with
  | true => exact line_A (sA := sp__law_call_begun) hS hd hn hs hl hcb hk
  | false =>
    -- the answer is the same from a heap that holds more
    have up : ∀ {H1 : Hp}, Ex H H1 → Answ B H1 pl c ats rows a ps t b wd cs s now Q := fun e B' a' ps' t' n' b' cs' H' k1 k2 k3 k4 k5 k6 k7 => hk B' a' ps' t' n' b' cs' H' ((Kp.of e).trans k1) k2 k3 k4 k5 k6 (fresh_back e k7)
    have c7 : headL[7]? = some 108 := by rw [head_l]; rfl
    have c12 : headL[12]? = some 114 := by rw [head_l]; rfl
    cases hc : isComp s with
    | true =>
      have h7 : (lineL s now)[7]? = some (if now = true then 91 else 40) := by rw [comp_line hc]; rfl
      exact not_head (k := 7) (σ := [some (.ref pl), some (nV (lineL s now)), some (.ref a), none, none, none, none, none, none]) rfl (by omega) (by decide) h7 c7 (by cases now <;> decide) fun H1 e1 => line_B (hS.ext e1) hd hn hs hc hu hw30 hcb (up e1)
    | false =>
      obtain ⟨x0, y0, hxy, hx0, hy0⟩ := call_head hc hl
      have hC : ∀ H1, Ex H H1 → _ := fun H1 e1 => line_C (K := K) (tu := tSeq (tAsg (tM1 mSplit (tSl C8.rSlX (tVar 1) (tPart (tC (.int 8))) (tPart (tUn (rU fun i => .int (-i)) (tC (.int 1))))) (tC (.str " if "))) (gName 5)) (tSeq (tAsg (tLc (iList K (tSl (rSlL K) (tVar 5) (tPart (tC (.int 1))) tNoPart)) (gName 8) tYes (tTup (tCons (tCall sp__law_names_of [] C8.E0 (tCons (CwR.tReplC (tVar 8) "not " "") tNil)) (tCons (tOp rNe (tSl C8.rSlX (tVar 8) tNoPart (tPart (tC (.int 4)))) (tC (.str "not "))) tNil))) [8]) (gName 6)) (tSeq (tAsg (tLst (tCons (tC (.str "rows")) (tCons (tVar 2) (tCons (tVar 6) (tCons (tCall sp__law_names_of [] C8.E0 (tCons (tOp (rIxL K) (tVar 5) (tC (.int 0))) tNil)) tNil))))) (gName 7)) (tRet (tIf (tTest (tOp rEq (tOp rIxS (tVar 1) (tC (.int 7))) (tC (.str "[")))) (tLst (tCons (tC (.str "list")) (tCons (tCall (sp__law_all d) [] C8.E0 (tCons (tVar 0) (tCons (tVar 7) tNil))) (tCons (tC (.int 0)) tNil)))) (tVar 7)))))) (hS.ext e1) hd hn hs hc hl hu hw30 hcb (up e1)
      cases hw : now with
      | true =>
        subst hw
        have h12 : (lineL s true)[12]? = some x0 := by rw [call_line hc hl, if_pos rfl, hxy]; rfl
        exact not_head (k := 12) (σ := [some (.ref pl), some (nV (lineL s true)), some (.ref a), none, none, none, none, none, none]) rfl (by omega) (by decide) h12 c12 (by rcases hx0 with h | h | h <;> omega) hC
      | false =>
        subst hw
        have h7 : (lineL s false)[7]? = some x0 := by rw [call_line hc hl, if_neg (by simp), hxy]; rfl
        exact not_head (k := 7) (σ := [some (.ref pl), some (nV (lineL s false)), some (.ref a), none, none, none, none, none, none]) rfl (by omega) (by decide) h7 c7 (by rcases hx0 with h | h | h <;> omega) hC
end
end CF

/-! text CfRA -/
set_option Elab.async false
set_option linter.all false
set_option maxRecDepth 100000
set_option maxHeartbeats 4000000
/-! a whole text carried out -/
namespace CF
open PySem PySem.Spec PyProof.Rows L2 Evl
theorem appl_nl {w : List Nm} {y : List Nat} (h : wordB w = true) (hy : 10 ∉ y) : 10 ∉ applL w y := by
  induction w with
  | nil => exact hy
  | cons n w ih =>
    have h' : (nameB n && wordB w) = true := h
    rw [Bool.and_eq_true] at h'
    rw [applL_cons]
    simp only [List.mem_append, List.mem_singleton, not_or]
    refine ⟨fun hm => ?_, by decide, ih h'.2, by decide⟩
    have := name_free h'.1 10 hm
    omega
theorem dig_nl (n : Nat) : 10 ∉ [48 + n] := by simp; omega
theorem line_nl {s : Sg Nm} (hs : sgB s = true) (now : Bool) : 10 ∉ lineL s now := by
  have x1 : 10 ∉ [120] := by decide
  have c1 : 10 ∉ cd "rows = list(rows)[::-1]" := by decide +kernel
  have c2 : 10 ∉ cd "rows = list(rows)[-" := by decide +kernel
  have c3 : 10 ∉ cd ":]" := by decide +kernel
  have c4 : 10 ∉ cd "rows = list(rows)[:-" := by decide +kernel
  have c5 : 10 ∉ cd "]" := by decide +kernel
  have c6 : 10 ∉ cd "rows = [" := by decide +kernel
  have c7 : 10 ∉ cd "rows = (" := by decide +kernel
  have c8 : 10 ∉ cd ")" := by decide +kernel
  have c9 : 10 ∉ cd "rows = list(" := by decide +kernel
  have d0 : 10 ∉ cd "rows = " := by decide +kernel
  have d1 : 10 ∉ cd " for x in rows" := by decide +kernel
  have d2 : 10 ∉ cd "x for x in rows if " := by decide +kernel
  have d3 : 10 ∉ cd "x for x in rows if not " := by decide +kernel
  have d4 : 10 ∉ cd "takewhile(lambda x: " := by decide +kernel
  have d5 : 10 ∉ cd "dropwhile(lambda x: " := by decide +kernel
  have d6 : 10 ∉ cd ", rows)" := by decide +kernel
  have d7 : 10 ∉ cd "islice(rows, " := by decide +kernel
  have d8 : 10 ∉ cd ", None, " := by decide +kernel
  have d9 : 10 ∉ cd ", None)" := by decide +kernel
  have ap : ∀ {a b : List Nat}, 10 ∉ a → 10 ∉ b → 10 ∉ a ++ b := fun h1 h2 h => (List.mem_append.mp h).elim h1 h2
  cases s with
  | each w =>
    simp only [sgB, Bool.and_eq_true] at hs
    have := appl_nl hs.1 x1
    cases now
    · exact ap c7 (ap (ap this d1) c8)
    · exact ap c6 (ap (ap this d1) c5)
  | keep t =>
    have := appl_nl (sg_test hs rfl).1 x1
    cases now
    · exact ap c7 (ap (ap d2 this) c8)
    · exact ap c6 (ap (ap d2 this) c5)
  | drop t =>
    have := appl_nl (sg_test hs rfl).1 x1
    cases now
    · exact ap c7 (ap (ap d3 this) c8)
    · exact ap c6 (ap (ap d3 this) c5)
  | whil t =>
    have := appl_nl (sg_test hs rfl).1 x1
    cases now
    · exact ap d0 (ap d4 (ap this d6))
    · exact ap c9 (ap (ap d4 (ap this d6)) c8)
  | from_ t =>
    have := appl_nl (sg_test hs rfl).1 x1
    cases now
    · exact ap d0 (ap d5 (ap this d6))
    · exact ap c9 (ap (ap d5 (ap this d6)) c8)
  | first n =>
    cases now
    · exact ap d0 (ap d7 (ap (dig_nl n) c8))
    · exact ap c9 (ap (ap d7 (ap (dig_nl n) c8)) c8)
  | skip n =>
    cases now
    · exact ap d0 (ap d7 (ap (dig_nl n) d9))
    · exact ap c9 (ap (ap d7 (ap (dig_nl n) d9)) c8)
  | every k r =>
    cases now
    · exact ap d0 (ap d7 (ap (dig_nl r) (ap d8 (ap (dig_nl k) c8))))
    · exact ap c9 (ap (ap d7 (ap (dig_nl r) (ap d8 (ap (dig_nl k) c8)))) c8)
  | last n => exact ap c2 (ap (dig_nl n) c3)
  | butl n => exact ap c4 (ap (dig_nl n) c5)
  | turned => exact c1
def retL : List Nat := cd "return list(rows)"
theorem flow_split {l : List (Step Nm)} (hst : ∀ st ∈ l, stB st = true) : Txt.split (SX.S (flowL l)) "\n" = (l.map (fun st => lineL st.s st.now) ++ [retL]).map SX.S := by
  have e : ("\n" : Str) = SX.S [10] := by decide +kernel
  rw [e, SX.split_S (by simp) (by decide +kernel)]
  unfold flowL
  rw [TL.spl_join (by simp) fun p hp => ?_]
  · rfl
  · rcases List.mem_append.mp hp with hp | hp
    · obtain ⟨st, h1, rfl⟩ := List.mem_map.mp hp
      exact line_nl (st_sg (hst st h1)) _
    · rw [List.mem_singleton] at hp
      subst hp
      decide +kernel
theorem ok0_of {s : Sg Nm} (h : sgB s = true) : s.ok0 = true := by
  cases s with
  | every k r =>
    simp only [sgB, Bool.and_eq_true, decide_eq_true_eq] at h
    exact decide_eq_true h.1.1
  | _ => rfl
/-- a text carried out: the play, the text, the values -/
def sp__law_carried (d : Nat) : Sp := fun vs H Q _ => ∃ pl c ats rows l vv, vs = [.ref pl, nV (flowL l), .ref vv] ∧ LPl H pl c ats rows ∧ WB ats rows ∧ H c = some (.lst []) ∧ H vv = some (.lst (cV (ent0 rows.length))) ∧ vv ≠ c ∧ (∀ st ∈ l, stB st = true) ∧ l.length ≤ 8 ∧ (∀ u ∈ atomsOf l, u ∈ ats) ∧ 10 ≤ d ∧
  ∀ r H', Kp [c] H H' → H r = none → H' r = some (.tup (cV (progRun (truthOf ats rows) l (ent0 rows.length)).1)) → H' c = some (.lst (cV (progRun (truthOf ats rows) l (ent0 rows.length)).2)) → Q (.ref r) H'
end CF

/-! text CfPN -/
set_option Elab.async false
set_option linter.all false
set_option maxRecDepth 100000
set_option maxHeartbeats 4000000
/-! plain: what a flow leaves; the reading of World.play -/
namespace CF
open PySem PySem.Spec PyProof.Rows L2 Evl
section
variable {T : Nat → List Nm → Bool} {ats : List (List Nm)} {rows : List (List Bool)}
theorem atomsGo_mono : ∀ (l : List (Step Nm)) (fs : List (List Nm)) (w : List Nm), ∀ u ∈ fs, u ∈ atomsGo l fs w
  | [], fs, w, u, h => h
  | st :: r, fs, w, u, h => by
    simp only [atomsGo]
    split
    · split
      · exact atomsGo_mono r _ _ u h
      · exact atomsGo_mono r _ _ u (List.mem_append_left _ h)
    · exact atomsGo_mono r _ _ u h
theorem tst_each {s : Sg Nm} {t : List Nm} (h : tst s = some t) (w : List Nm) : eachW s w = w := by
  cases s <;> simp only [tst, reduceCtorEq] at h <;> rfl
theorem fit_of : ∀ (l : List (Step Nm)) (fs : List (List Nm)) (w : List Nm), (∀ u ∈ atomsGo l fs w, u ∈ ats) → Fit ats (l.map (·.s)) w
  | [], _, _, _ => trivial
  | st :: r, fs, w, h => by
    simp only [atomsGo] at h
    refine ⟨fun t ht => ?_, ?_⟩
    · have hE := tst_each ht w
      simp only [ht, hE] at h
      split at h
      · rename_i hin
        exact h _ (atomsGo_mono r fs w _ hin)
      · exact h _ (atomsGo_mono r _ w _ (List.mem_append_right _ (List.mem_singleton.mpr rfl)))
    · split at h
      · split at h
        · exact fit_of r _ _ h
        · exact fit_of r _ _ h
      · exact fit_of r _ _ h
theorem wordAfter_app : ∀ (a b : List (Sg Nm)) (w : List Nm), wordAfter (a ++ b) w = wordAfter b (wordAfter a w)
  | [], _, _ => rfl
  | s :: a, b, w => wordAfter_app a b (eachW s w)
theorem playParts_facts {n : Nat} : ∀ (ps : List (List (Step Nm))) (ys cs : List (Tm Nm)) (w : List Nm), (∀ p ∈ ps, partOk p ∧ p ≠ []) → (∀ st ∈ ps.flatten, stB st = true) → (∀ y ∈ ys, y.2 = w ∧ y.1 < n) → ys.length ≤ 9 →
    (playParts T ps ys cs).1.length ≤ 9 ∧ (playParts T ps ys cs).2.length ≤ cs.length + 36 * ps.flatten.length ∧ ∀ y ∈ (playParts T ps ys cs).1, y.2 = wordAfter (ps.flatten.map (·.s)) w ∧ y.1 < n
  | [], ys, cs, w, _, _, h, h9 => ⟨h9, by simp [playParts], h⟩
  | p :: ps, ys, cs, w, hp, hb, hy, h9 => by
    obtain ⟨pok, pne⟩ := hp p (List.mem_cons_self ..)
    have hbp : ∀ st ∈ p, stB st = true := fun st hs => hb st (by rw [List.flatten_cons]; exact List.mem_append_left _ hs)
    have hbr : ∀ st ∈ ps.flatten, stB st = true := fun st hs => hb st (by rw [List.flatten_cons]; exact List.mem_append_right _ hs)
    obtain ⟨s0, rest, rfl⟩ : ∃ s0 rest, p = s0 :: rest := by
      cases p with
      | nil => exact absurd rfl pne
      | cons a b => exact ⟨a, b, rfl⟩
    have key : (partRun T (s0 :: rest) ys).1.length ≤ 9 ∧ (partRun T (s0 :: rest) ys).2.length ≤ 36 * (s0 :: rest).length ∧ ∀ y ∈ (partRun T (s0 :: rest) ys).1, y.2 = wordAfter ((s0 :: rest).map (·.s)) w ∧ y.1 < n := by
      cases hli : s0.s.isList with
      | true =>
        have hone : rest = [] := by
          rcases pok with ⟨st, e, _⟩ | z
          · cases e; rfl
          · have := z s0 (List.mem_cons_self ..); rw [hli] at this; cases this
        subst hone
        have e : partRun T [s0] ys = (leftOf s0.s ys, []) := by simp [partRun, hli]
        rw [e]
        obtain ⟨l1, l2⟩ := left_facts (s := s0.s) (xs := ys)
        have hE : eachW s0.s w = w := by
          cases hs : s0.s with
          | each x => rw [hs] at hli; cases hli
          | _ => rfl
        refine ⟨by show (leftOf s0.s ys).length ≤ 9; omega, Nat.zero_le _, fun y h => ?_⟩
        show y.2 = eachW s0.s w ∧ _
        rw [hE]
        exact hy y (l2 y h)
      | false =>
        have hnl : ∀ st ∈ s0 :: rest, st.s.isList = false := by
          rcases pok with ⟨st, e, z⟩ | z
          · cases e; rw [hli] at z; cases z
          · exact z
        have e : partRun T (s0 :: rest) ys = playPart T ((s0 :: rest).map (·.s)) ys := by simp [partRun, hli]
        rw [e]
        obtain ⟨pf1, pf2, pf3⟩ := play_facts (T := T) (xs := ys) (l := s0 :: rest) fun st hs => ⟨hbp st hs, hnl st hs⟩
        refine ⟨by omega, ?_, fun y h => ?_⟩
        · have := Nat.mul_le_mul_left (4 * (s0 :: rest).length) h9
          omega
        · obtain ⟨x, hx, rfl⟩ := pf3 y h
          obtain ⟨z1, z2⟩ := hy x hx
          exact ⟨by show wordAfter _ x.2 = _; rw [z1], z2⟩
    obtain ⟨k1, k2, k3⟩ := key
    obtain ⟨i1, i2, i3⟩ := playParts_facts ps (partRun T (s0 :: rest) ys).1 (cs ++ (partRun T (s0 :: rest) ys).2) _ (fun p h => hp p (List.mem_cons_of_mem _ h)) hbr k3 k1
    refine ⟨i1, ?_, fun y h => ?_⟩
    · show (playParts T ps _ _).2.length ≤ _
      rw [List.length_append] at i2
      rw [List.flatten_cons, List.length_append]
      omega
    · obtain ⟨z1, z2⟩ := i3 y h
      refine ⟨?_, z2⟩
      rw [z1, List.flatten_cons, List.map_append, wordAfter_app]
theorem prog_facts {n : Nat} (hn : n ≤ 9) {l : List (Step Nm)} (hst : ∀ st ∈ l, stB st = true) (h8 : l.length ≤ 8) :
    (progRun T l (ent0 n)).1.length ≤ 9 ∧ (progRun T l (ent0 n)).2.length ≤ 288 ∧ ∀ y ∈ (progRun T l (ent0 n)).1, wordB y.2 = true ∧ y.2.length ≤ 24 ∧ y.1 < n := by
  obtain ⟨hfl, hok⟩ := parts_facts l
  obtain ⟨a, b, c⟩ := playParts_facts (T := T) (n := n) (partsOf l) (ent0 n) [] [] hok (by rw [hfl]; exact hst) (fun y h => by
    unfold ent0 at h
    obtain ⟨i, hi, rfl⟩ := List.mem_map.mp h
    exact ⟨rfl, List.mem_range.mp hi⟩) (by unfold ent0; rw [List.length_map, List.length_range]; exact hn)
  rw [hfl] at b c
  simp only [List.length_nil] at b
  refine ⟨a, by show (playParts T (partsOf l) (ent0 n) []).2.length ≤ 288; omega, fun y h => ?_⟩
  obtain ⟨z1, z2⟩ := c y h
  have hw := wordAfter_len (l := l) [] hst
  simp only [List.length_nil] at hw
  exact ⟨by rw [z1]; exact wordAfter_word hst rfl, by rw [z1]; omega, z2⟩
end
section
variable {K : PySem.W.Frag} {mg : Str → Option Value} {vs : List V} {H H' : Hp} {Q : VK} {E : XK} {σ : L2.St}
theorem told_at (TT : Tx K mg) {te : TE} {v : V} {ats : List (List Nm)} {rows : List (List Bool)} (h : Ev te σ H v) (hw : Wor K H v ats rows) : ∃ av rv, Ev (tOp (rIxT K) (tFld K te "told") (tC (.int 0))) σ H av ∧ Ev (tOp (rIxT K) (tFld K te "told") (tC (.int 1))) σ H rv ∧ Ats H av ats ∧ Rws H rv rows := by
  obtain ⟨a, dx, t, av, rv, rfl, ha, ht, h1, h2⟩ := hw
  exact ⟨av, rv, ev_op (ev_fld TT.cls_World TT.no_World_told h ha lk1) (ev_c (v := .int ((0 : Nat) : Int))) (rv_ixT (st_of ht) (atI_nat rfl)), ev_op (ev_fld TT.cls_World TT.no_World_told h ha lk1) (ev_c (v := .int ((1 : Nat) : Int))) (rv_ixT (st_of ht) (atI_nat rfl)), h1, h2⟩
theorem Wor.fx {ats : List (List Nm)} {rows : List (List Bool)} {v : V} (h : Wor K H v ats rows) (e : Fx H H') : Wor K H' v ats rows := by
  obtain ⟨a, dx, t, av, rv, rfl, ha, ht, h1, h2⟩ := h
  exact ⟨a, dx, t, av, rv, rfl, e a _ ha (nf (by decide +kernel) _ _ _), e t _ ht rfl, h1.fx e, h2.fx e⟩
theorem flw_ins {v : V} {l : List (Step Nm)} (h : Flw K H v l) : ∃ a dx fs, v = .ref a ∧ H a = some (.ins (He.ga K "Flow") dx fs) := by
  obtain ⟨a, dx, t, svs, rfl, ha, _, _⟩ := h
  exact ⟨a, dx, _, rfl, ha⟩
theorem p_World_play (TT : Tx K mg) (h : sp_World_play K vs H Q E) : r_World_play K (sp_check_flow K) (sp_Flow_atoms K) (sp_Teller K) (sp_played K) (sp_Play K) sp_term_of (ends Q) (start ["self", "flow", "atom", "teller", "left", "index", "word"] vs) H := by
  obtain ⟨v, fv, ats, rows, l, rfl, hw, wb, hf, hst, h8, hsub, k⟩ := h
  have z2 : 2 ≤ sizeLine := by decide
  refine ⟨_, rfl, fv, l, rfl, hf, fun H1 e1 => ?_⟩
  have hf1 := hf.fx (Fx.of e1)
  obtain ⟨fa, fdx, ffs, rfl, hfa⟩ := flw_ins hf1
  refine ⟨_, rfl, fa, fdx, ffs, rfl, hfa, _, l, rfl, hf1, hst, h8, fun f H2 e2 hats => ?_⟩
  obtain ⟨ta, tvs, rfl, hta, htal⟩ := hats
  have e12 := e1.trans e2
  refine ⟨ta, rfl, ⟨tvs, .inl hta⟩, ?_⟩
  refine for_tup (xs := tvs) (fun i σ' H' => Ex H2 H' ∧ ∃ o, σ' = [some v, some (.ref fa), o, none, none, none, none]) ⟨Ex.refl _, none, rfl⟩ (fun i σ' H' _ q => .inl (ex_rd q.1 hta)) ?_ ?_
  · rintro i x σ' H' hi ⟨e, o, rfl⟩
    obtain ⟨w, hwi, hx⟩ := htal.at hi
    have hwin : w ∈ ats := hsub w (List.mem_of_getElem? hwi)
    have e02 := e12.trans e
    obtain ⟨av, rv, h1, h2, hav, hrv⟩ := told_at (σ := [some v, some (.ref fa), some x, none, none, none, none]) TT (ev_var (i := 0) rfl) (hw.fx (Fx.of e02))
    refine ⟨_, rfl, ?_⟩
    show tOp (rIxT K) (tFld K (tVar 0) "told") (tC (.int 0)) [some v, some (.ref fa), some x, none, none, none, none] H' _
    refine h1 H' (Ex.refl H') _ fun H3 e3 => ?_
    obtain ⟨aa, avs, rfl, haa, haal⟩ := hav.fx (Fx.of e3)
    refine rv_notInW (l := ats) (hx.fx (Fx.of (e.trans e3))) (dp_tup (.inl haa) haal) (wb.word w hwin).1 (fun u hu => (wb.word u hu).1) _ ⟨_, rfl, ?_⟩
    exact ibF (by rw [decide_eq_true hwin]; rfl) ⟨e.trans e3, some x, rfl⟩
  · rintro σ' H' ⟨e, o, rfl⟩
    have e02 := e12.trans e
    obtain ⟨av, rv, h1, h2, hav, hrv⟩ := told_at (σ := [some v, some (.ref fa), o, none, none, none, none]) TT (ev_var (i := 0) rfl) (hw.fx (Fx.of e02))
    show tOp (rIxT K) (tFld K (tVar 0) "told") (tC (.int 0)) [some v, some (.ref fa), o, none, none, none, none] H' _
    refine h1 H' (Ex.refl H') _ fun H3 e3 => ?_
    show tOp (rIxT K) (tFld K (tVar 0) "told") (tC (.int 1)) [some v, some (.ref fa), o, none, none, none, none] H3 _
    refine h2 H3 e3 _ fun H4 e4 => fun t dx ht hdx hne => ?_
    have e04 := e02.trans (e3.trans e4)
    have eM := mk_fx (o := .own t) (o' := .ins (He.ga K "Teller") dx []) ht hdx
    have e34 := e3.trans e4
    refine ⟨t, dx, av, rv, ats, rows, rfl, upd_same, (hav.fx (Fx.of e34)).fx (Fx.of eM), (hrv.fx (Fx.of e34)).fx (Fx.of eM), wb, fun m H5 k5 hm0 htel hm5 => ⟨rfl, ?_⟩⟩
    have e5 : Ex H4 H5 := mk_ex ht hdx k5
    have hm04 : H4 m = none := fresh_back eM hm0
    have e05 := e04.trans e5
    refine ⟨_, rfl, ?_⟩
    -- the entries
    obtain ⟨av', rv', _, h2', _, hrv'⟩ := told_at (σ := [some v, some (.ref fa), o, some (.ref t), none, none, none]) TT (ev_var (i := 0) rfl) (hw.fx (Fx.of e05))
    show tLc (iRng1 (tCons (tCB (rLen K) (tCons (tOp (rIxT K) (tFld K (tVar 0) "told") (tC (.int 1))) tNil)) tNil)) (gName 5) (tYes) (tTup (tCons (tVar 5) (tCons (tTup tNil) tNil))) [5] [some v, some (.ref fa), o, some (.ref t), none, none, none] H5 _
    obtain ⟨ra, rvs, rfl, hra, hral⟩ := hrv'
    show tCB (rLen K) (tCons (tOp (rIxT K) (tFld K (tVar 0) "told") (tC (.int 1))) tNil) [some v, some (.ref fa), o, some (.ref t), none, none, none] H5 _
    refine ev_lenT h2' (st_of hra) H5 (Ex.refl H5) _ fun H6 e6 => ?_
    have hrn := hral.len
    have hr9 := wb.many
    have hm6 := e6 m _ hm5
    refine ⟨_, rfl, by omega, by omega, fun D hD => ?_⟩
    refine lc_range (lo := 0) (n := ((rvs.length : Nat) : Int).toNat) (fun i H' => Ex H6 H' ∧ ∃ acc, H' D = some (.lst acc) ∧ All2 (Ent H') acc (ent0 i)) ⟨Ex.new hD, [], upd_same, trivial⟩ ?_ ?_
    · rintro i H7 hi ⟨e7, acc, hacc, hall⟩
      have hlen := hall.len
      have hi9 : i < 9 := by omega
      refine ⟨rfl, ?_⟩
      refine ⟨_, rfl, Nat.zero_le _, fun p hp => ⟨z2, fun q hq => ⟨acc, ?_, ?_, ?_⟩⟩⟩
      · have eA : Ex H7 (upd H7 p (.tup [])) := Ex.new hp
        have eB : Ex (upd H7 p (.tup [])) (upd (upd H7 p (.tup [])) q (.tup [.int (0 + (i : Int)), .ref p])) := Ex.new hq
        exact eB D _ (eA D _ hacc)
      · have : (ent0 i).length = i := by unfold ent0; rw [List.length_map, List.length_range]
        exact sz_lt (by omega)
      · have eA : Ex H7 (upd H7 p (.tup [])) := Ex.new hp
        have eB : Ex (upd H7 p (.tup [])) (upd (upd H7 p (.tup [])) q (.tup [.int (0 + (i : Int)), .ref p])) := Ex.new hq
        generalize hH9 : upd (upd H7 p (.tup [])) q (.tup [.int (0 + (i : Int)), .ref p]) = H9 at eB
        have h9q : H9 q = some (.tup [.int (0 + (i : Int)), .ref p]) := by rw [← hH9]; exact upd_same
        have h9p : H9 p = some (.tup []) := eB p _ upd_same
        have hDD := eB D _ (eA D _ hacc)
        have fD : Fx H9 (upd H9 D (.lst (acc ++ [.ref q]))) := fxm hDD ((Kp.refl _ _).put (by simp))
        refine ⟨Ex.mut ((e7.trans eA).trans eB) hD, acc ++ [.ref q], upd_same, ?_⟩
        have : ent0 (i + 1) = ent0 i ++ [(i, [])] := by unfold ent0; rw [List.range_succ, List.map_append]; rfl
        rw [this]
        refine (hall.imp fun _ _ z => z.fx ((Fx.of (eA.trans eB)).trans fD)).snoc (Ent.fx ⟨q, .ref p, rfl, ?_, p, rfl, h9p⟩ fD)
        rw [h9q, Int.zero_add]
    · rintro H7 ⟨e7, acc, hacc, hall⟩
      rw [Int.toNat_natCast, hrn] at hall
      have hDm : D ≠ m := (ne_of_none hm6 hD).symm
      have e57 := e6.trans e7
      have hlen := hall.len
      have hel : (ent0 rows.length).length = rows.length := by unfold ent0; rw [List.length_map, List.length_range]
      refine ⟨_, rfl, ?_⟩
      refine ⟨.ref fa, D, t, m, ats, rows, l, ent0 rows.length, rfl, hf1.fx (Fx.of (e2.trans (e.trans (e34.trans (e5.trans e57))))), hst, h8, ⟨acc, hacc, hall⟩, by omega, htel.fx (Fx.of e57), wb, fun x hx => ?_, fit_of l [] [] fun u hu => hsub u hu, e57 m _ hm5, hDm, fun q H8 k8 hm8 hq8 => ?_⟩
      · unfold ent0 at hx
        obtain ⟨i, hi, rfl⟩ := List.mem_map.mp hx
        exact ⟨rfl, List.mem_range.mp hi⟩
      · obtain ⟨pf1, pf2, pf3⟩ := prog_facts (T := truthOf ats rows) hr9 hst h8
        generalize hR : progRun (truthOf ats rows) l (ent0 rows.length) = R at hm8 hq8 pf1 pf2 pf3 k
        obtain ⟨qvs, hq8, hqal⟩ := hq8
        have hqn := hqal.len
        have hm7 : H7 m = some (.lst (cV [])) := e57 m _ hm5
        have f8 : Fx H7 H8 := fxm hm7 k8
        -- term_of over what is left
        show tRet (tMake (He.ga K "Play") (sp_Play K) [] C8.E0 (tCons (tCB (cTup K) (tCons (tLc (iList K (tVar 4)) (gTup K 2 (gCons (gName 5) (gCons (gName 6) gNil))) (tYes) (tCall sp_term_of [] C8.E0 (tCons (tVar 5) (tCons (tVar 6) tNil))) [5, 6]) tNil)) (tCons (tCB (cTup K) (tCons (tFld K (tVar 3) "made") tNil)) tNil))) (ends Q) [some v, some (.ref fa), o, some (.ref t), some (.ref q), none, none] H8
        show tMake (He.ga K "Play") (sp_Play K) [] C8.E0 (tCons (tCB (cTup K) (tCons (tLc (iList K (tVar 4)) (gTup K 2 (gCons (gName 5) (gCons (gName 6) gNil))) (tYes) (tCall sp_term_of [] C8.E0 (tCons (tVar 5) (tCons (tVar 6) tNil))) [5, 6]) tNil)) (tCons (tCB (cTup K) (tCons (tFld K (tVar 3) "made") tNil)) tNil)) [some v, some (.ref fa), o, some (.ref t), some (.ref q), none, none] H8 Q
        show tCB (cTup K) (tCons (tLc (iList K (tVar 4)) (gTup K 2 (gCons (gName 5) (gCons (gName 6) gNil))) (tYes) (tCall sp_term_of [] C8.E0 (tCons (tVar 5) (tCons (tVar 6) tNil))) [5, 6]) tNil) [some v, some (.ref fa), o, some (.ref t), some (.ref q), none, none] H8 _
        show (tCons (tLc (iList K (tVar 4)) (gTup K 2 (gCons (gName 5) (gCons (gName 6) gNil))) (tYes) (tCall sp_term_of [] C8.E0 (tCons (tVar 5) (tCons (tVar 6) tNil))) [5, 6]) tNil) [some v, some (.ref fa), o, some (.ref t), some (.ref q), none, none] H8 _
        show (tLc (iList K (tVar 4)) (gTup K 2 (gCons (gName 5) (gCons (gName 6) gNil))) (tYes) (tCall sp_term_of [] C8.E0 (tCons (tVar 5) (tCons (tVar 6) tNil))) [5, 6]) [some v, some (.ref fa), o, some (.ref t), some (.ref q), none, none] H8 _
        refine ⟨_, rfl, q, rfl, ⟨qvs, sq_of hq8⟩, fun D2 hD2 => ?_⟩
        refine lc_list (xs := qvs) (fun i H' => Ex H8 H' ∧ H' D2 = some (.lst (cV (R.1.take i)))) ⟨Ex.new hD2, upd_same⟩ (fun i H' _ z => sq_of (z.1 q _ hq8)) ?_ ?_
        · rintro i x H9 hi ⟨e9, hacc9⟩
          obtain ⟨y, hy, hent⟩ := hqal.at hi
          obtain ⟨ea, u, rfl, hea, hu⟩ := hent.fx (Fx.of e9)
          obtain ⟨z1, z2, z3⟩ := pf3 y (List.mem_of_getElem? hy)
          refine ⟨ea, _, rfl, st_of hea, rfl, _, _, rfl, _, _, rfl, rfl, rfl, ?_⟩
          refine ⟨_, rfl, _, rfl, u, y, rfl, hu, z1, by omega, by omega, fun H10 e10 => ⟨cV (R.1.take i), e10 _ _ hacc9, ?_, Ex.mut (e9.trans e10) hD2, ?_⟩⟩
          · unfold cV
            rw [List.length_map, List.length_take]
            exact sz_lt (by omega)
          · rw [upd_same, take_snoc hy]
            unfold cV
            rw [List.map_append]
            rfl
        · rintro H9 ⟨e9, hacc9⟩
          rw [hqn, List.take_length] at hacc9
          refine ⟨D2, cV R.1, rfl, .inl ⟨sq_of hacc9, fun p hp => ?_⟩⟩
          have eP : Ex H9 (upd H9 p (.tup (cV R.1))) := Ex.new hp
          generalize hH10 : upd H9 p (.tup (cV R.1)) = H10 at eP
          have hp10 : H10 p = some (.tup (cV R.1)) := by rw [← hH10]; exact upd_same
          have f510 : Fx H5 H10 := (Fx.of e57).trans (f8.trans (Fx.of (e9.trans eP)))
          have hmade := ev_made (σ := [some v, some (.ref fa), o, some (.ref t), some (.ref q), none, none]) TT (ev_var (i := 3) rfl) (htel.fx f510)
          show tFld K (tVar 3) "made" [some v, some (.ref fa), o, some (.ref t), some (.ref q), none, none] H10 _
          refine hmade H10 (Ex.refl _) _ fun H11 e11 => ?_
          have hm11 : H11 m = some (.lst (cV R.2)) := e11 m _ (eP m _ (e9 m _ hm8))
          refine ⟨m, _, rfl, .inl ⟨sq_of hm11, fun c hc => ?_⟩⟩
          have eC : Ex H11 (upd H11 c (.tup (cV R.2))) := Ex.new hc
          generalize hH12 : upd H11 c (.tup (cV R.2)) = H12 at eC
          have hc12 : H12 c = some (.tup (cV R.2)) := by rw [← hH12]; exact upd_same
          intro y ydx hy0 hydx hyne
          have eY := mk_fx (o := .own y) (o' := .ins (He.ga K "Play") ydx []) hy0 hydx
          refine ⟨y, ydx, p, c, R.1, R.2, rfl, upd_same, eY p _ (eC p _ (e11 p _ hp10)), eY c _ hc12, fun H13 k13 hply => ⟨rfl, ?_⟩⟩
          have e13 : Ex H12 H13 := mk_ex hy0 hydx k13
          have k4 : Kp [m] H4 H8 := (Kp.of (e5.trans e57)).trans k8
          have e48 : Ex H4 H8 := fun a o' ho => k4.keep a o' ho (by simp; exact fun z => by rw [z, hm04] at ho; cases ho)
          exact k (.ref y) H13 (e04.trans (e48.trans (e9.trans (eP.trans (e11.trans (eC.trans e13)))))) hply
end
end CF

/-! text CfRB -/
set_option Elab.async false
set_option linter.all false
set_option maxRecDepth 100000
set_option maxHeartbeats 4000000
/-! a whole text carried out: the reading -/
namespace CF
open PySem PySem.Spec PyProof.Rows L2 Evl
theorem joinL_len : ∀ (ps : List (List Nat)) (m : Nat), (∀ p ∈ ps, p.length ≤ m) → (TL.joinL [10] ps).length ≤ (m + 1) * ps.length
  | [], m, _ => Nat.zero_le _
  | [p], m, h => by
    have := h p (List.mem_singleton.mpr rfl)
    show p.length ≤ (m + 1) * 1
    omega
  | p :: q :: r, m, h => by
    have h1 := h p (List.mem_cons_self ..)
    have h2 := joinL_len (q :: r) m fun z hz => h z (List.mem_cons_of_mem _ hz)
    show (p ++ ([10] ++ TL.joinL [10] (q :: r))).length ≤ (m + 1) * (r.length + 1 + 1)
    simp only [List.length_append, List.length_cons, List.length_nil] at h2 ⊢
    rw [Nat.mul_add (m + 1) (r.length + 1) 1]
    omega
theorem flowL_len {l : List (Step Nm)} (hst : ∀ st ∈ l, stB st = true) (h8 : l.length ≤ 8) : (flowL l).length ≤ 10000 := by
  have := joinL_len (l.map (fun st => lineL st.s st.now) ++ [cd "return list(rows)"]) 1000 fun p hp => by
    rcases List.mem_append.mp hp with hp | hp
    · obtain ⟨st, h1, rfl⟩ := List.mem_map.mp hp
      exact line_len (st_sg (hst st h1)) _
    · rw [List.mem_singleton] at hp
      subst hp
      decide +kernel
  rw [List.length_append, List.length_map] at this
  simp only [List.length_cons, List.length_nil] at this
  unfold flowL
  omega
section
variable {K : PySem.W.Frag} {mg : Str → Option Value} {vs : List V} {B H H1 H2 H' : Hp} {Q : VK} {E : XK} {σ : L2.St} {ta tb : TE} {ats : List (List Nm)} {rows : List (List Bool)} {d : Nat}
theorem LPl.cut {pl c : Addr} {xs : List V} (h : LPl H pl c ats rows) (hc : H c = some (.lst xs)) : LPl (Cut [c] H) pl c ats rows := by
  obtain ⟨a, rv, h1, h2, h3, h4⟩ := h
  have f : Fx H (Cut [c] H) := fun y o hy hf => cut_at_ (fun hm => by
    rw [List.mem_singleton] at hm
    subst hm
    rw [hc] at hy
    cases hy
    cases hf) hy
  exact ⟨a, rv, cut_at_ (by simpa using h4) h1, h2.fx f, h3.fx f, h4⟩
theorem Src.first {pl c L x : Addr} {xs : List (Tm Nm)} (hp : LPl H pl c ats rows) (wb : WB ats rows) (hc : H c = some (.lst [])) (hL : H L = some (.lst (cV xs))) (hLc : L ≠ c) (hx : H x = none) (hv : ∀ y ∈ xs, y.2 = [] ∧ y.1 < rows.length) :
    Src (Cut [c] H) (upd H x (.lst [.str "list", .ref L, .int ((0 : Nat) : Int)])) pl c ats rows x [] (ofVals xs) xs.length 0 [] [] := by
  have hxc : x ≠ c := fun z => by rw [z, hc] at hx; cases hx
  refine ⟨hp.cut hc, wb, fun y o hy => ?_, fun y hy => ?_, by simp; exact fun z => hxc z.symm, ?_, ?_, by simp, rfl, by simp⟩
  · have h1 := cut_ex _ _ y o hy
    rw [upd_ne (fun z => by rw [z, hx] at h1; cases h1)]
    exact h1
  · by_cases hm : y ∈ [c]
    · exact cut_none hm
    · have : y = x := by simpa [List.mem_cons, show ¬ y = c by simpa using hm] using hy
      subst this
      unfold Cut
      rw [if_neg hm]
      exact hx
  · exact ⟨L, xs, 0, upd_same, cut_at_ (by simpa using hLc) hL, by simp, by simp, hv⟩
  · rw [upd_ne hxc.symm]
    exact hc
theorem p__law_carried (d : Nat) (h : sp__law_carried d vs H Q E) : r__law_carried K (sp__law_line_done d) (sp__law_all d) (ends Q) (start ["_law_play_here", "_law_written", "_law_values_here", "_law_source", "_law_line"] vs) H := by
  obtain ⟨pl, c, ats, rows, l, vv, rfl, hp, wb, hc, hvv, hvc, hst, h8, hsub, hd, k⟩ := h
  have hr9 := wb.many
  have hfl := flowL_len hst h8
  generalize hxs : ent0 rows.length = xs at hvv k
  have hxn : xs.length ≤ 9 := by rw [← hxs]; unfold ent0; rw [List.length_map, List.length_range]; exact hr9
  have hxv : ∀ y ∈ xs, y.2 = [] ∧ y.1 < rows.length := fun y hy => by
    rw [← hxs] at hy
    unfold ent0 at hy
    obtain ⟨i, hi, rfl⟩ := List.mem_map.mp hy
    exact ⟨rfl, List.mem_range.mp hi⟩
  refine ⟨_, rfl, vv, cV xs, rfl, .inl (sq_of hvv), fun L hL => ⟨by show 3 ≤ sizeLine; decide, fun x hx => ?_⟩⟩
  have e1 : Ex H (upd H L (.lst (cV xs))) := Ex.new hL
  have hLc : L ≠ c := fun z => by rw [z, hc] at hL; cases hL
  have src0 := Src.first (x := x) (hp.ex e1) wb (e1 c _ hc) upd_same hLc hx hxv
  have hx0 := fresh_back e1 hx
  have e2 : Ex H (upd (upd H L (.lst (cV xs))) x (.lst [.str "list", .ref L, .int ((0 : Nat) : Int)])) := e1.trans (Ex.new hx)
  generalize upd (upd H L (.lst (cV xs))) x (.lst [.str "list", .ref L, .int ((0 : Nat) : Int)]) = H2 at src0 e2
  refine ⟨_, rfl, ⟨_, rfl⟩, _, _, rfl, rfl, by decide +kernel, by rw [lenS]; exact sz_of (by omega), ?_⟩
  rw [flow_split hst]
  intro P hP
  rw [mapS]
  have e3 : Ex H2 (upd H2 P (.lst ((l.map (fun st => lineL st.s st.now) ++ [retL]).map nV))) := Ex.new hP
  have hls : (l.map (fun st => lineL st.s st.now) ++ [retL]).map nV = (l.map (fun st => nV (lineL st.s st.now))) ++ [nV retL] := by
    rw [List.map_append, List.map_map]
    rfl
  rw [hls] at e3 ⊢
  refine ⟨1, rfl, -1, rfl, P, _, rfl, sq_of upd_same, fun q hq => ?_⟩
  rw [cut_snoc]
  generalize hH3 : upd H2 P (.lst ((l.map (fun st => nV (lineL st.s st.now))) ++ [nV retL])) = H3 at e3 hq
  have e4 : Ex H3 (upd H3 q (.lst (l.map (fun st => nV (lineL st.s st.now))))) := Ex.new hq
  have hq4 : (upd H3 q (.lst (l.map (fun st => nV (lineL st.s st.now))))) q = some (.lst (l.map (fun st => nV (lineL st.s st.now)))) := upd_same
  generalize upd H3 q (.lst (l.map (fun st => nV (lineL st.s st.now)))) = H4 at e4 hq4
  have e24 := e3.trans e4
  have e04 := e2.trans e24
  refine ⟨q, rfl, ⟨_, sq_of hq4⟩, ?_⟩
  have hqH : H q = none := fresh_back (e2.trans e3) hq
  refine for_list (xs := l.map (fun st => nV (lineL st.s st.now))) (fun i σ' H' => ∃ B a ps t n b cs o, σ' = [some (.ref pl), some (nV (flowL l)), some (.ref vv), some (.ref a), o] ∧ Kp [c] H H' ∧ H' q = some (.lst (l.map (fun st => nV (lineL st.s st.now)))) ∧ (∀ y ∈ a :: ps, H y = none ∧ y ≠ q) ∧ Src B H' pl c ats rows a ps t n b (wordAfter ((l.take i).map (·.s)) []) cs ∧
    lawRun (truthOf ats rows) (l.drop i) t cs = progRun (truthOf ats rows) l xs ∧ ps.length ≤ i ∧ n ≤ 9 ∧ cs.length + b ≤ 36 * i ∧ Fit ats ((l.drop i).map (·.s)) (wordAfter ((l.take i).map (·.s)) [])) ?_ ?_ ?_ ?_
  · refine ⟨_, x, [], _, _, 0, [], none, rfl, Kp.of e04, hq4, ?_, src0.ext e24, ?_, by simp, hxn, by simp, fit_of l [] [] fun u hu => hsub u hu⟩
    · intro y hy
      rw [List.mem_singleton] at hy
      subst hy
      refine ⟨hx0, fun z => ?_⟩
      have := src0.rep.some y (List.mem_cons_self ..)
      have h3 := fresh_back e3 hq
      rw [z] at this
      exact this h3
    · rw [List.drop_zero]
      exact run_eq l xs fun st hs => ok0_of (st_sg (hst st hs))
  · rintro i σ' H' _ ⟨B, a, ps, t, n, b, cs, o, rfl, kp, hq', _⟩
    exact sq_of hq'
  · rintro i y σ' H' hi ⟨B, a, ps, t, n, b, cs, o, rfl, kp, hq', hfr, hS, hrun, hpl, hn, hcb, hfit⟩
    rw [List.getElem?_map] at hi
    cases hst' : l[i]? with
    | none => rw [hst'] at hi; cases hi
    | some st =>
      rw [hst'] at hi
      obtain rfl : nV (lineL st.s st.now) = y := Option.some.inj hi
      have hil : i < l.length := (List.getElem?_eq_some_iff.mp hst').1
      have hstm := List.mem_of_getElem? hst'
      have hsg := st_sg (hst st hstm)
      have hdr : l.drop i = st :: l.drop (i + 1) := by
        rw [List.drop_eq_getElem_cons hil]
        congr 1
        exact (List.getElem?_eq_some_iff.mp hst').2
      rw [hdr] at hrun hfit
      obtain ⟨hf1, hf2⟩ := hfit
      have hwa : wordAfter ((l.take (i + 1)).map (·.s)) [] = eachW st.s (wordAfter ((l.take i).map (·.s)) []) := by
        rw [take_snoc hst', List.map_append, wordAfter_app]
        rfl
      have htk : ∀ st ∈ l.take i, stB st = true := fun st hs => hst st (List.mem_of_mem_take hs)
      have hwl := wordAfter_len (l := l.take i) [] htk
      rw [List.length_take, List.length_nil] at hwl
      have hel := eachW_len (w := wordAfter ((l.take i).map (·.s)) []) hsg
      have hnow : st.now = false → st.s.isList = false := fun h => by
        have := hst st hstm
        unfold stB at this
        rw [h] at this
        cases hL : st.s.isList with
        | false => rfl
        | true => rw [hL] at this; simp at this
      refine ⟨_, rfl, _, rfl, _, rfl, B, pl, c, ats, rows, a, ps, t, n, b, _, cs, st.s, st.now, rfl, hS, by omega, hn, hsg, hf1, by omega, hnow, by omega, fun B' a' ps' t' n' b' cs' H5 k5 s5 r5 p5 n5 c5 ha5 => ?_⟩
      have hac : ∀ y ∈ c :: a :: ps, y ∈ [c] ∨ H y = none := fun y hy => by
        rcases List.mem_cons.mp hy with rfl | hy
        · exact .inl (List.mem_singleton.mpr rfl)
        · exact .inr (hfr y hy).1
      refine ⟨B', a', ps', t', n', b', cs', _, rfl, ?_, ?_, ?_, by rw [hwa]; exact s5, ?_, by have := p5.1; omega, n5, by omega, by rw [hwa]; exact hf2⟩
      · refine ⟨fun y o hy hn => ?_, fun y hy => kp.none_of (k5.none_of hy)⟩
        refine k5.keep y o (kp.keep y o hy hn) fun hm => ?_
        rcases hac y hm with h | h
        · exact hn h
        · rw [h] at hy; cases hy
      · refine k5.keep q _ hq' fun hm => ?_
        rcases List.mem_cons.mp hm with h | h
        · rw [h, hc] at hqH; cases hqH
        · exact (hfr q h).2 rfl
      · intro y hy
        rcases List.mem_cons.mp hy with rfl | hy
        · exact ⟨kp.none_of ha5, fun z => by rw [z, hq'] at ha5; cases ha5⟩
        · exact hfr y (p5.2 y hy)
      · have := r5 (l.drop (i + 1))
        rw [← this]
        exact hrun
  · rintro σ' H' ⟨B, a, ps, t, n, b, cs, o, rfl, kp, hq', hfr, hS, hrun, hpl, hn, hcb, hfit⟩
    rw [List.length_map] at hpl hcb hrun
    rw [List.drop_length] at hrun
    have hrun : ((flat t).1, cs ++ (flat t).2) = progRun (truthOf ats rows) l xs := hrun
    refine ⟨_, rfl, _, rfl, B, pl, c, ats, rows, a, ps, t, n, b, _, cs, rfl, hS, by omega, by omega, fun F H5 k5 hF0 hF5 hc5 hm hb hv => ?_⟩
    refine ⟨F, _, rfl, .inl ⟨sq_of hF5, fun r hr => ?_⟩⟩
    have kp5 : Kp [c] H H5 := by
      refine ⟨fun y o hy hn => k5.keep y o (kp.keep y o hy hn) fun hm => ?_, fun y hy => kp.none_of (k5.none_of hy)⟩
      rcases List.mem_cons.mp hm with h | h
      · exact hn (by rw [h]; exact List.mem_singleton.mpr rfl)
      · rw [(hfr y h).1] at hy
        cases hy
    rw [← hrun] at k
    refine k r _ (kp5.new hr) (kp5.none_of hr) upd_same ?_
    rw [upd_ne (fun z => by rw [← z, hc5] at hr; cases hr)]
    exact hc5
end
end CF

/-! text CfRC -/
set_option Elab.async false
set_option linter.all false
set_option maxRecDepth 100000
set_option maxHeartbeats 4000000
/-! what is told, as data; atoms of a flow -/
namespace CF
open PySem PySem.Spec PyProof.Rows L2 Evl SeqAt
def dT (ts : List (Tm Nm)) : PyData := .tuple (ts.map fun t => dS (termL t))
def dR (es cs : List (Tm Nm)) : PyData := .list [dT es, dT cs]
theorem terms_lay : ∀ {l : List (Tm Nm)}, (∀ t ∈ l, wordB t.2 = true ∧ t.1 ≤ 9) → PyData.canLayAll0 (l.map fun t => dS (termL t)) = true
  | [], _ => rfl
  | t :: l, h => by
    have ih := terms_lay (l := l) fun x hx => h x (List.mem_cons_of_mem _ hx)
    obtain ⟨h1, h2⟩ := h t (List.mem_cons_self ..)
    have := lay_str (l := [termL t]) fun n hn c hc => by
      rw [List.mem_singleton] at hn
      subst hn
      exact term_code h1 (fun c hc => by simp at hc; omega) c hc
    have h3 : (PyData.canLay0 (dS (termL t)) && true) = true := this
    rw [Bool.and_true] at h3
    show (PyData.canLay0 (dS (termL t)) && PyData.canLayAll0 (l.map fun t => dS (termL t))) = true
    rw [h3, ih]
    rfl
theorem terms_show : ∀ l : List (Tm Nm), PyData.showableAll (l.map fun t => dS (termL t)) = true ∧ PyData.hasDictAll (l.map fun t => dS (termL t)) = false ∧ PyData.depthAll (l.map fun t => dS (termL t)) = 0 ∧ PyData.intsShortAll 13 (l.map fun t => dS (termL t)) = true
  | [] => ⟨rfl, rfl, rfl, rfl⟩
  | t :: l => by
    obtain ⟨a, b, c, d⟩ := terms_show l
    refine ⟨?_, ?_, ?_, ?_⟩
    · show (PyData.showable (dS (termL t)) && PyData.showableAll (l.map fun t => dS (termL t))) = true
      rw [a]
      rfl
    · show (PyData.hasDict (dS (termL t)) || PyData.hasDictAll (l.map fun t => dS (termL t))) = false
      rw [b]
      rfl
    · show max (PyData.depth (dS (termL t))) (PyData.depthAll (l.map fun t => dS (termL t))) = 0
      rw [c]
      rfl
    · show (PyData.intsShort 13 (dS (termL t)) && PyData.intsShortAll 13 (l.map fun t => dS (termL t))) = true
      rw [d]
      rfl
end CF

/-! text CfRD -/
set_option Elab.async false
set_option linter.all false
set_option maxRecDepth 100000
set_option maxHeartbeats 4000000
/-! plain: every call of a run is a term -/
namespace CF
open PySem PySem.Spec PyProof.Rows L2 Evl SeqAt
def okT (n m : Nat) (t : Tm Nm) : Prop := wordB t.2 = true ∧ t.1 < n ∧ t.2.length ≤ m
theorem okT.up {n m m' : Nat} {t : Tm Nm} (h : okT n m t) (hm : m ≤ m') : okT n m' t := ⟨h.1, h.2.1, Nat.le_trans h.2.2 hm⟩
variable {T : Nat → List Nm → Bool} {n : Nat}
theorem behC_ok {i m : Nat} (hi : i < n) : ∀ {ns w : List Nm}, wordB ns = true → wordB w = true → w.length ≤ m → ns.length ≤ 4 → ∀ t ∈ behC i ns w, okT n (m + 4) t
  | [], w, _, _, _, _, t, ht => by cases ht
  | a :: r, w, h1, h2, h3, h4, t, ht => by
    have h1' : (nameB a && wordB r) = true := h1
    rw [Bool.and_eq_true] at h1'
    simp only [List.length_cons] at h4
    rcases List.mem_append.mp ht with ht | ht
    · exact behC_ok hi h1'.2 h2 h3 (by omega) t ht
    · rw [List.mem_singleton] at ht
      subst ht
      refine ⟨?_, hi, ?_⟩
      · show (nameB a && wordB (r ++ w)) = true
        rw [h1'.1, wordB_app h1'.2 h2]
        rfl
      · show (a :: (r ++ w)).length ≤ m + 4
        simp only [List.length_cons, List.length_append]
        omega
theorem gstep_ok {s : Sg Nm} {g : GS} {x : Tm Nm} {m : Nat} (hs : sgB s = true) (hx : okT n m x) : (∀ c ∈ (gstep T s g x).1, okT n (m + 4) c) ∧ ∀ y, (gstep T s g x).2.1 = some y → okT n (m + 4) y := by
  obtain ⟨x1, x2, x3⟩ := hx
  have hx0 : okT n (m + 4) x := ⟨x1, x2, by omega⟩
  have bt : ∀ {t : List Nm}, tst s = some t → ∀ c ∈ behC x.1 t x.2, okT n (m + 4) c := fun ht => behC_ok x2 (sg_test hs ht).1 x1 x3 (sg_test hs ht).2
  have ite_ok : ∀ {b : Bool} {y : Tm Nm}, (if b = true then some x else none) = some y → okT n (m + 4) y := fun {b y} h => by
    cases b with
    | true => obtain rfl : x = y := Option.some.inj h; exact hx0
    | false => cases h
  have ite_ok2 : ∀ {b : Bool} {y : Tm Nm}, (if b = true then none else some x) = some y → okT n (m + 4) y := fun {b y} h => by
    cases b with
    | false => obtain rfl : x = y := Option.some.inj h; exact hx0
    | true => cases h
  have ite_ok3 : ∀ {p : Prop} [Decidable p] {y : Tm Nm}, (if p then some x else none) = some y → okT n (m + 4) y := fun {p _ y} h => by
    by_cases hp : p
    · rw [if_pos hp] at h; obtain rfl : x = y := Option.some.inj h; exact hx0
    · rw [if_neg hp] at h; cases h
  have nilC : ∀ c ∈ ([] : List (Tm Nm)), okT n (m + 4) c := fun c h => by cases h
  have sameO : ∀ y, some x = some y → okT n (m + 4) y := fun y h => by cases h; exact hx0
  cases s with
  | each w =>
    simp only [sgB, Bool.and_eq_true, decide_eq_true_eq] at hs
    refine ⟨behC_ok x2 hs.1 x1 x3 (by omega), fun y h => ?_⟩
    obtain rfl : (x.1, w ++ x.2) = y := Option.some.inj h
    exact ⟨wordB_app hs.1 x1, x2, by show (w ++ x.2).length ≤ m + 4; rw [List.length_append]; omega⟩
  | keep t => exact ⟨bt rfl, fun y h => ite_ok h⟩
  | drop t => exact ⟨bt rfl, fun y h => ite_ok2 h⟩
  | whil t => exact ⟨bt rfl, fun y h => ite_ok h⟩
  | from_ t =>
    by_cases hg : g.2 = true
    · simp only [gstep, if_pos hg]
      exact ⟨nilC, sameO⟩
    · simp only [gstep, if_neg hg]
      exact ⟨bt rfl, fun y h => ite_ok2 h⟩
  | first k => exact ⟨nilC, fun y h => ite_ok3 h⟩
  | skip k => exact ⟨nilC, fun y h => ite_ok3 h⟩
  | every k r => exact ⟨nilC, fun y h => ite_ok3 h⟩
  | last k => exact ⟨nilC, sameO⟩
  | butl k => exact ⟨nilC, sameO⟩
  | turned => exact ⟨nilC, sameO⟩
theorem pass_ok : ∀ (ss : List (Sg Nm)) (gs : List GS) (x : Tm Nm) (m : Nat), (∀ s ∈ ss, sgB s = true) → okT n m x → (∀ c ∈ (pass T ss gs x).1, okT n (m + 4 * ss.length) c) ∧ ∀ y, (pass T ss gs x).2.1 = some y → okT n (m + 4 * ss.length) y
  | [], gs, x, m, _, hx => ⟨fun c h => by simp [pass] at h, fun y h => by simp [pass] at h; subst h; exact hx⟩
  | s :: ss, [], x, m, _, hx => ⟨fun c h => by simp [pass] at h, fun y h => by simp [pass] at h; subst h; exact hx.up (by omega)⟩
  | s :: ss, g :: gs, x, m, hs, hx => by
    obtain ⟨g1, g2⟩ := gstep_ok (T := T) (g := g) (hs s (List.mem_cons_self ..)) hx
    simp only [pass, List.length_cons]
    cases hg : (gstep T s g x).2.1 with
    | none => exact ⟨fun c h => (g1 c h).up (by omega), fun y h => by cases h⟩
    | some y =>
      obtain ⟨p1, p2⟩ := pass_ok ss gs y (m + 4) (fun z hz => hs z (List.mem_cons_of_mem _ hz)) (g2 y hg)
      refine ⟨fun c h => ?_, fun z h => (p2 z h).up (by omega)⟩
      rcases List.mem_append.mp h with h | h
      · exact (g1 c h).up (by omega)
      · exact (p1 c h).up (by omega)
theorem run_ok {ss : List (Sg Nm)} {m : Nat} (hs : ∀ s ∈ ss, sgB s = true) : ∀ (xs : List (Tm Nm)) (gs : List GS), (∀ x ∈ xs, okT n m x) → (∀ c ∈ (runPart T ss gs xs).2, okT n (m + 4 * ss.length) c) ∧ ∀ y ∈ (runPart T ss gs xs).1, okT n (m + 4 * ss.length) y
  | [], gs, _ => ⟨fun c h => by simp [runPart] at h, fun y h => by simp [runPart] at h⟩
  | x :: xs, gs, hx => by
    obtain ⟨p1, p2⟩ := pass_ok (T := T) (n := n) ss gs x m hs (hx x (List.mem_cons_self ..))
    have ih := run_ok hs xs (pass T ss gs x).2.2.2 fun z hz => hx z (List.mem_cons_of_mem _ hz)
    simp only [runPart]
    refine ⟨fun c h => ?_, fun y h => ?_⟩
    · rcases List.mem_append.mp h with h | h
      · exact p1 c h
      · split at h
        · cases h
        · exact ih.1 c h
    · rcases List.mem_append.mp h with h | h
      · exact p2 y (by simpa using h)
      · split at h
        · cases h
        · exact ih.2 y h
theorem part_ok {p : List (Step Nm)} {xs : List (Tm Nm)} {m : Nat} (hs : ∀ st ∈ p, sgB st.s = true) (hx : ∀ x ∈ xs, okT n m x) : (∀ c ∈ (partRun T p xs).2, okT n (m + 4 * p.length) c) ∧ ∀ y ∈ (partRun T p xs).1, okT n (m + 4 * p.length) y := by
  cases p with
  | nil => exact ⟨fun c h => by simp [partRun] at h, fun y h => hx y (by simpa [partRun] using h)⟩
  | cons st r =>
    simp only [partRun]
    split
    · exact ⟨fun c h => by simp at h, fun y h => (hx y (left_facts.2 y h)).up (by omega)⟩
    · unfold playPart
      split
      · exact ⟨fun c h => by simp at h, fun y h => by simp at h⟩
      · have := run_ok (T := T) (n := n) (m := m) (ss := (st :: r).map (·.s)) (fun s h => by
          obtain ⟨z, hz, rfl⟩ := List.mem_map.mp h
          exact hs z hz) xs (gs0 ((st :: r).map (·.s))) hx
        rw [List.length_map] at this
        exact this
theorem parts_ok : ∀ (ps : List (List (Step Nm))) (xs cs : List (Tm Nm)) (m : Nat), (∀ st ∈ ps.flatten, sgB st.s = true) → (∀ x ∈ xs, okT n m x) → (∀ c ∈ cs, okT n (m + 4 * ps.flatten.length) c) → ∀ c ∈ (playParts T ps xs cs).2, okT n (m + 4 * ps.flatten.length) c
  | [], xs, cs, m, _, _, hc => hc
  | p :: r, xs, cs, m, hs, hx, hc => by
    rw [List.flatten_cons, List.length_append] at hc ⊢
    obtain ⟨p1, p2⟩ := part_ok (T := T) (n := n) (p := p) (fun st h => hs st (by rw [List.flatten_cons]; exact List.mem_append_left _ h)) hx
    have := parts_ok r (partRun T p xs).1 (cs ++ (partRun T p xs).2) (m + 4 * p.length) (fun st h => hs st (by rw [List.flatten_cons]; exact List.mem_append_right _ h)) p2 fun c h => by
      rcases List.mem_append.mp h with h | h
      · exact (hc c h).up (by omega)
      · exact (p1 c h).up (by omega)
    intro c h
    exact (this c h).up (by omega)
theorem prog_calls {l : List (Step Nm)} (hst : ∀ st ∈ l, stB st = true) (h8 : l.length ≤ 8) : ∀ c ∈ (progRun T l (ent0 n)).2, okT n 40 c := by
  obtain ⟨hfl, hok⟩ := parts_facts l
  have := parts_ok (T := T) (n := n) (partsOf l) (ent0 n) [] 0 (by rw [hfl]; exact fun st h => st_sg (hst st h)) (fun x h => by
    unfold ent0 at h
    obtain ⟨i, hi, rfl⟩ := List.mem_map.mp h
    exact ⟨rfl, List.mem_range.mp hi, by simp⟩) (by simp)
  rw [hfl] at this
  exact fun c h => (this c h).up (by omega)
end CF

/-! text CfRE -/
set_option Elab.async false
set_option linter.all false
set_option maxRecDepth 100000
set_option maxHeartbeats 4000000
/-! repr of what is told; atoms of a flow -/
namespace CF
open PySem PySem.Spec PyProof.Rows L2 Evl SeqAt
theorem terms_weight {m : Nat} : ∀ {l : List (Tm Nm)}, (∀ t ∈ l, (termL t).length ≤ m) → PyData.weightAll (l.map fun t => dS (termL t)) ≤ (m + 1) * l.length
  | [], _ => Nat.le_refl _
  | t :: l, h => by
    have ih := terms_weight (l := l) fun x hx => h x (List.mem_cons_of_mem _ hx)
    have h1 := h t (List.mem_cons_self ..)
    have e : (SX.S (termL t)).cps.size = (termL t).length := SX.S_len (termL t)
    show (SX.S (termL t)).cps.size + 1 + PyData.weightAll (l.map fun t => dS (termL t)) ≤ (m + 1) * (l.length + 1)
    rw [e, Nat.mul_add]
    omega
theorem dR_facts {n : Nat} {es cs : List (Tm Nm)} (hn : n ≤ 9) (h1 : ∀ t ∈ es, okT n 40 t) (h2 : ∀ t ∈ cs, okT n 40 t) (l1 : es.length ≤ 1000) (l2 : cs.length ≤ 1000) :
    (dR es cs).showable = true ∧ (dR es cs).hasDict = false ∧ (dR es cs).depth ≤ 60 ∧ (dR es cs).shown.length ≤ sizeLine := by
  obtain ⟨a1, b1, c1, d1⟩ := terms_show es
  obtain ⟨a2, b2, c2, d2⟩ := terms_show cs
  have y1 := terms_lay (l := es) fun t h => ⟨(h1 t h).1, by have := (h1 t h).2.1; omega⟩
  have y2 := terms_lay (l := cs) fun t h => ⟨(h2 t h).1, by have := (h2 t h).2.1; omega⟩
  have w1 := terms_weight (m := 242) (l := es) fun t h => term_len (h1 t h).1 (h1 t h).2.2
  have w2 := terms_weight (m := 242) (l := cs) fun t h => term_len (h2 t h).1 (h2 t h).2.2
  have hdep : (dR es cs).depth ≤ 60 := by
    show max (PyData.depthAll (es.map fun t => dS (termL t)) + 1) (max (PyData.depthAll (cs.map fun t => dS (termL t)) + 1) 0) + 1 ≤ 60
    rw [c1, c2]
    decide
  refine ⟨?_, ?_, hdep, ?_⟩
  · show (PyData.showableAll (es.map fun t => dS (termL t)) && (PyData.showableAll (cs.map fun t => dS (termL t)) && true)) = true
    rw [a1, a2]
    rfl
  · show (PyData.hasDictAll (es.map fun t => dS (termL t)) || (PyData.hasDictAll (cs.map fun t => dS (termL t)) || false)) = false
    rw [b1, b2]
    rfl
  · refine PyData.shown_fits_of_layable0 (B := 13) (by decide) (by decide) ?_ ?_
    · unfold PyData.layable0
      rw [Bool.and_eq_true, Bool.and_eq_true, decide_eq_true_eq, decide_eq_true_eq]
      refine ⟨⟨?_, by omega⟩, ?_⟩
      · show (PyData.canLayAll0 (es.map fun t => dS (termL t)) && (PyData.canLayAll0 (cs.map fun t => dS (termL t)) && true)) = true
        rw [y1, y2]
        rfl
      · show PyData.weightAll (es.map fun t => dS (termL t)) + 1 + (PyData.weightAll (cs.map fun t => dS (termL t)) + 1 + 0) ≤ 2 ^ 20
        omega
    · show (PyData.intsShortAll 13 (es.map fun t => dS (termL t)) && (PyData.intsShortAll 13 (cs.map fun t => dS (termL t)) && true)) = true
      rw [d1, d2]
      rfl
section
variable {K : PySem.W.Frag} {H : Hp}
theorem dp_terms : ∀ l : List (Tm Nm), DpAll K H (cV l) (l.map fun t => dS (termL t))
  | [] => .nil
  | t :: l => .cons (.str _) (dp_terms l)
theorem dp_dR {a e c : Addr} {es cs : List (Tm Nm)} (ha : H a = some (.lst [.ref e, .ref c])) (he : H e = some (.tup (cV es))) (hc : H c = some (.tup (cV cs))) : Dp K H (.ref a) (dR es cs) :=
  .lst (sq_of ha) (.cons (.tup (st_of he) (dp_terms es)) (.cons (.tup (st_of hc) (dp_terms cs)) .nil))
end
/-! ### atoms -/
theorem atomsGo_nodup : ∀ (l : List (Step Nm)) (fs : List (List Nm)) (w : List Nm), fs.Nodup → (atomsGo l fs w).Nodup
  | [], fs, w, h => h
  | st :: r, fs, w, h => by
    simp only [atomsGo]
    split
    · split
      · exact atomsGo_nodup r _ _ h
      · rename_i t _ hn
        exact atomsGo_nodup r _ _ (List.nodup_append.mpr ⟨h, by simp, fun a ha b hb => by
          rw [List.mem_singleton] at hb
          subst hb
          exact fun e => hn (e ▸ ha)⟩)
    · exact atomsGo_nodup r _ _ h
theorem atomsGo_word : ∀ (l : List (Step Nm)) (fs : List (List Nm)) (w : List Nm) (m : Nat), (∀ st ∈ l, sgB st.s = true) → (∀ u ∈ fs, wordB u = true ∧ 1 ≤ u.length ∧ u.length ≤ m + 3 * l.length + 4) → wordB w = true → w.length ≤ m → ∀ u ∈ atomsGo l fs w, wordB u = true ∧ 1 ≤ u.length ∧ u.length ≤ m + 3 * l.length + 4
  | [], fs, w, m, _, h, _, _ => h
  | st :: r, fs, w, m, hs, h, hw, hl => by
    have hsg := hs st (List.mem_cons_self ..)
    have hr : ∀ st ∈ r, sgB st.s = true := fun x hx => hs x (List.mem_cons_of_mem _ hx)
    have hel := eachW_len (w := w) hsg
    have hew := eachW_word hsg hw
    simp only [List.length_cons] at h ⊢
    have h' : ∀ u ∈ fs, wordB u = true ∧ 1 ≤ u.length ∧ u.length ≤ (m + 3) + 3 * r.length + 4 := fun u hu => by
      obtain ⟨a, b, c⟩ := h u hu
      exact ⟨a, b, by omega⟩
    have fin : ∀ (gs : List (List Nm)), (∀ u ∈ gs, wordB u = true ∧ 1 ≤ u.length ∧ u.length ≤ (m + 3) + 3 * r.length + 4) → ∀ u ∈ atomsGo r gs (eachW st.s w), wordB u = true ∧ 1 ≤ u.length ∧ u.length ≤ m + 3 * (r.length + 1) + 4 := fun gs hg u hu => by
      obtain ⟨a, b, c⟩ := atomsGo_word r gs (eachW st.s w) (m + 3) hr hg hew (by omega) u hu
      exact ⟨a, b, by omega⟩
    simp only [atomsGo]
    split
    · rename_i t ht
      split
      · exact fin fs h'
      · refine fin _ fun u hu => ?_
        rcases List.mem_append.mp hu with hu | hu
        · exact h' u hu
        · rw [List.mem_singleton] at hu
          subst hu
          obtain ⟨t1, t2⟩ := sg_test hsg ht
          have t3 : 1 ≤ t.length := by
            cases hq : st.s <;> rw [hq] at ht hsg <;> simp only [tst, reduceCtorEq, Option.some.injEq] at ht <;> subst ht <;> simp only [sgB, Bool.and_eq_true, decide_eq_true_eq] at hsg <;> exact hsg.1.2
          exact ⟨wordB_app t1 hew, by rw [List.length_append]; omega, by rw [List.length_append]; omega⟩
    · exact fin fs h'
theorem atoms_ok {l : List (Step Nm)} (hst : ∀ st ∈ l, stB st = true) (h8 : l.length ≤ 8) : (atomsOf l).Nodup ∧ ∀ u ∈ atomsOf l, wordB u = true ∧ 1 ≤ u.length ∧ u.length ≤ 30 := by
  refine ⟨atomsGo_nodup l [] [] List.nodup_nil, fun u hu => ?_⟩
  obtain ⟨a, b, c⟩ := atomsGo_word l [] [] 0 (fun st h => st_sg (hst st h)) (by simp) rfl (by simp) u hu
  exact ⟨a, b, by omega⟩
end CF

/-! text CfRF -/
set_option Elab.async false
set_option linter.all false
set_option maxRecDepth 100000
set_option maxHeartbeats 4000000
/-! a flow played right: from the truths on -/
namespace CF
open PySem PySem.Spec PyProof.Rows L2 Evl
/-- a flow drawn is played as its text says -/
def sp__law_played_right (K : PySem.W.Frag) : Sp := fun vs H Q _ => ∃ p fv q l, vs = [.ref p, fv, .ref q] ∧ Pur H p ∧ Flw K H fv l ∧ PaL H q l ∧ q ≠ p ∧ (∀ st ∈ l, stB st = true) ∧ l.length ≤ 8 ∧ (atomsOf l).length ≤ 6 ∧ ∀ H', Kp [p] H H' → Pur H' p → Q (.bl true) H'
theorem ent0_succ (i : Nat) : ent0 (i + 1) = ent0 i ++ [(i, [])] := by
  unfold ent0
  rw [List.range_succ, List.map_append]
  rfl
section
variable {K : PySem.W.Frag} {mg : Str → Option Value} {vs : List V} {B H H1 H2 H' : Hp} {Q : VK} {E : XK} {σ : L2.St} {ta tb : TE}
/-- atoms of a world that fits the flow -/
structure AtsOk (l : List (Step Nm)) (ats : List (List Nm)) : Prop where
  nd : ats.Nodup
  len : ats.length ≤ 6
  word : ∀ w ∈ ats, wordB w = true ∧ 1 ≤ w.length ∧ w.length ≤ 30
  sub : ∀ u ∈ atomsOf l, u ∈ ats
theorem truths_list {p a : Addr} {v1 v2 v5 : V} {m : Nat} {ats : List (List Nm)} (hp : Pur H p) (ha : AtF H a ats) (hl : ats.length ≤ 6) (hm : m ≤ 9)
    (k : ∀ t rows H', Kp [p] H H' → Pur H' p → Rws H' (.ref t) rows → (∀ r ∈ rows, List.length r = ats.length) → rows.length = m → Q (.ref t) H') :
    tCB (cTup K) (tCons (tLc (iRng1 (tCons (tVar 4) tNil)) (gName 10) (tYes) (tCall sp__law_truths [] C8.E0 (tCons (tVar 0) (tCons (tCB (rLen K) (tCons (tVar 3) tNil)) tNil))) [10]) tNil) [some (.ref p), some v1, some v2, some (.ref a), some (.int (m : Nat)), some v5, none, none, none, none, none] H Q := by
  show (tCons (tLc (iRng1 (tCons (tVar 4) tNil)) (gName 10) (tYes) (tCall sp__law_truths [] C8.E0 (tCons (tVar 0) (tCons (tCB (rLen K) (tCons (tVar 3) tNil)) tNil))) [10]) tNil) [some (.ref p), some v1, some v2, some (.ref a), some (.int (m : Nat)), some v5, none, none, none, none, none] H _
  show (tLc (iRng1 (tCons (tVar 4) tNil)) (gName 10) (tYes) (tCall sp__law_truths [] C8.E0 (tCons (tVar 0) (tCons (tCB (rLen K) (tCons (tVar 3) tNil)) tNil))) [10]) [some (.ref p), some v1, some v2, some (.ref a), some (.int (m : Nat)), some v5, none, none, none, none, none] H _
  refine lc_pur (p := p) (n := m) (iv := 4) (jv := 10) (σ := [some (.ref p), some v1, some v2, some (.ref a), some (.int (m : Nat)), some v5, none, none, none, none, none]) rfl (fun x => rfl) (by omega) hp (fun i acc H' => ∃ rows, All2 (Row H') acc rows ∧ (∀ r ∈ rows, List.length r = ats.length) ∧ rows.length = i) (fun i acc H1 H2 f ⟨rows, z1, z2, z3⟩ => ⟨rows, z1.imp fun _ _ z => z.fx f, z2, z3⟩) (fun _ => ⟨[], trivial, by simp, rfl⟩) ?_ ?_
  · rintro i acc H4 Q' hi4 k4 hp4 ⟨rows, z1, z2, z3⟩ qq
    obtain ⟨o, avs, h1, h2, h3, h4⟩ := ha.fx (hp.fx k4)
    have hal := h4.len
    refine ⟨_, rfl, _, rfl, _, ats.length, rfl, .inr ⟨avs, .inl (.inr ⟨o, h1⟩), hal.symm⟩, p, ats.length, rfl, hp4, by omega, fun v r H5 k5 hp5 hrow hrl => qq v H5 k5 hp5 ⟨rows ++ [r], (z1.imp fun _ _ z => z.fx (hp4.fx k5)).snoc hrow, ?_, by rw [List.length_append, z3]; rfl⟩⟩
    intro y hy
    rcases List.mem_append.mp hy with h | h
    · exact z2 y h
    · rw [List.mem_singleton] at h; subst h; exact hrl
  · rintro D acc H4 k4 hp4 hD hd4 hal ⟨rows, z1, z2, z3⟩
    refine ⟨D, acc, rfl, .inl ⟨sq_of hd4, fun t ht => ?_⟩⟩
    exact k t rows _ (k4.new ht) (hp4.ex (Ex.new ht)) ⟨t, acc, rfl, upd_same, z1.imp fun _ _ z => z.fx (Fx.of (Ex.new ht))⟩ z2 z3
theorem names_list {p a t C : Addr} {v1 v2 v5 : V} {m : Nat} (hp : Pur H p) (hm : m ≤ 9)
    (k : ∀ D H', Kp [p] H H' → Pur H' p → H D = none → H' D = some (.lst (cV (ent0 m))) → Q (.ref D) H') :
    tLc (iRng1 (tCons (tVar 4) tNil)) (gName 10) (tYes) (tOp rAddT (tC (.str "x")) (tCB cStrI (tCons (tVar 10) tNil))) [10] [some (.ref p), some v1, some v2, some (.ref a), some (.int (m : Nat)), some v5, some (.ref t), some (.ref C), none, none, none] H Q := by
  refine lc_pur (p := p) (n := m) (iv := 4) (jv := 10) (σ := [some (.ref p), some v1, some v2, some (.ref a), some (.int (m : Nat)), some v5, some (.ref t), some (.ref C), none, none, none]) rfl (fun x => rfl) (by omega) hp (fun i acc H' => acc = cV (ent0 i)) (fun _ _ _ _ _ z => z) (fun _ => rfl) ?_ ?_
  · rintro i acc H4 Q' hi4 k4 hp4 rfl qq
    refine ⟨_, rfl, _, rfl, ?_, ?_⟩
    · rw [Int.natAbs_natCast]
      have : i.log2 ≤ i := Nat.log2_le_self i
      omega
    have e1 : ("x" : Str) = SX.S [120] := by decide +kernel
    have e2 : toString ((i : Nat) : Int) = toString i := rfl
    have e3 : Str.ofString (toString ((i : Nat) : Int)) = SX.S [48 + i] := toS (by omega)
    refine ⟨_, _, rfl, rfl, ?_, ?_⟩
    · rw [e3, e1, lenS, lenS]
      exact sz_of (by simp)
    · rw [e3, e1, SX.S_cat]
      refine qq _ H4 (Kp.refl _ _) hp4 ?_
      rw [ent0_succ, cV_app]
      rfl
  · rintro D acc H4 k4 hp4 hD hd4 hal rfl
    exact k D H4 k4 hp4 hD hd4
end
end CF

/-! text CfRG -/
set_option Elab.async false
set_option linter.all false
set_option maxRecDepth 100000
set_option maxHeartbeats 4000000
/-! a flow played right: what is due, what is told -/
namespace CF
open PySem PySem.Spec PyProof.Rows L2 Evl
section
variable {K : PySem.W.Frag} {mg : Str → Option Value} {vs : List V} {B H H1 H2 H' : Hp} {Q : VK} {E : XK} {σ : L2.St} {ta tb : TE}
theorem AtF.ats {a : Addr} {l : List (List Nm)} (h : AtF H a l) : Ats H (.ref a) l := by
  obtain ⟨o, vs, h1, h2, h3, h4⟩ := h
  exact ⟨a, vs, rfl, .inr ⟨o, h1⟩, h4⟩
theorem Ply.up {v : V} {es cs : List (Tm Nm)} (h : Ply K H v es cs) (e : Ex H H') : Ply K H' v es cs := by
  obtain ⟨a, dx, t, x, c, h0, h1, h2, h3, h4⟩ := h
  exact ⟨a, dx, t, x, c, h0, e a _ h1, e t _ h2, e x _ h3, e c _ h4⟩
theorem played_rest {d : Nat} {p a t : Addr} {fv v2 v5 : V} {m : Nat} {l : List (Step Nm)} {ats : List (List Nm)} {rows : List (List Bool)} (hd : 10 ≤ d) (hp : Pur H p) (hf : Flw K H fv l) (ha : AtF H a ats) (ho : AtsOk l ats) (hr : Rws H (.ref t) rows) (hrl : ∀ r ∈ rows, List.length r = ats.length) (hm : rows.length = m) (hm9 : m ≤ 9)
    (hst : ∀ st ∈ l, stB st = true) (h8 : l.length ≤ 8) (k : ∀ H', Kp [p] H H' → Pur H' p → Q (.bl true) H') :
    tSeq (tAsg (tLst tNil) (gName 7)) (tSeq (tAsg (tCall (sp__law_carried d) [] C8.E0 (tCons (tLst (tCons (tVar 7) (tCons (tVar 3) (tCons (tVar 6) tNil)))) (tCons (tCB (rStrOwn (He.ga K "Flow") (sp_str_Flow K) C8.E0) (tCons (tVar 1) tNil)) (tCons (tLc (iRng1 (tCons (tVar 4) tNil)) (gName 10) (tYes) (tOp rAddT (tC (.str "x")) (tCB cStrI (tCons (tVar 10) tNil))) [10]) tNil)))) (gName 8)) (tSeq (tAsg (tMeth (He.ga K "World") "play" (sp_World_play K) [] C8.E0 (tMake (He.ga K "World") (sp_World K) [] C8.E0 (tCons (tVar 3) (tCons (tVar 6) tNil))) (tCons (tVar 1) tNil)) (gName 9)) (tRet (tOp rEq (tCB (cRepr K) (tCons (tLst (tCons (tProp (He.ga K "Play") (sp_Play_entries K) [] C8.E0 (tVar 9)) (tCons (tProp (He.ga K "Play") (sp_Play_calls K) [] C8.E0 (tVar 9)) tNil))) tNil)) (tCB (cRepr K) (tCons (tLst (tCons (tVar 8) (tCons (tCB (cTup K) (tCons (tVar 7) tNil)) tNil))) tNil)))))) (ends Q)
      [some (.ref p), some fv, some v2, some (.ref a), some (.int (m : Nat)), some v5, some (.ref t), none, none, none, none] H := by
  have wb : WB ats rows := ⟨ho.nd, ho.len, ho.word, hrl, by omega⟩
  have z3 : 3 ≤ sizeLine := by decide
  have z2 : 2 ≤ sizeLine := by decide
  refine ⟨Nat.zero_le _, fun C hC => ?_⟩
  have e1 : Ex H (upd H C (.lst [])) := Ex.new hC
  have hC1 : (upd H C (.lst [])) C = some (.lst []) := upd_same
  generalize upd H C (.lst []) = H1 at e1 hC1
  refine ⟨_, rfl, _, rfl, _, rfl, z3, fun pl hpl => ?_⟩
  have e2 : Ex H1 (upd H1 pl (.lst [.ref C, .ref a, .ref t])) := Ex.new hpl
  have hpl2 : (upd H1 pl (.lst [.ref C, .ref a, .ref t])) pl = some (.lst [.ref C, .ref a, .ref t]) := upd_same
  have hplC : pl ≠ C := fun z => by rw [z, hC1] at hpl; cases hpl
  generalize upd H1 pl (.lst [.ref C, .ref a, .ref t]) = H2 at e2 hpl2
  have e02 := e1.trans e2
  have hf2 := hf.fx (Fx.of e02)
  obtain ⟨fa, fdx, ffs, rfl, hfa⟩ := flw_ins hf2
  refine ⟨_, rfl, fa, fdx, ffs, rfl, hfa, .ref fa, l, rfl, hf2, hst, h8, fun H3 e3 => ⟨_, rfl, ?_⟩⟩
  have e03 := e02.trans e3
  have hp3 := hp.ex e03
  show tLc (iRng1 (tCons (tVar 4) tNil)) (gName 10) (tYes) (tOp rAddT (tC (.str "x")) (tCB cStrI (tCons (tVar 10) tNil))) [10] [some (.ref p), some (.ref fa), some v2, some (.ref a), some (.int (m : Nat)), some v5, some (.ref t), some (.ref C), none, none, none] H3 _
  refine names_list hp3 hm9 fun D H4 k4 hp4 hD hD4 => ?_
  have k04 : Kp [p] H H4 := (Kp.of e03).trans k4
  have f04 : Fx H H4 := hp.fx k04
  have hC4 : H4 C = some (.lst []) := k4.lst (e3 C _ (e2 C _ hC1)) (by
    intro z
    obtain ⟨x, y, w, h, _⟩ := hp
    rw [z, h] at hC
    cases hC)
  have hpl4 : H4 pl = some (.lst [.ref C, .ref a, .ref t]) := k4.lst (e3 pl _ hpl2) (by
    intro z
    obtain ⟨x, y, w, h, _⟩ := hp.ex e1
    rw [z, h] at hpl
    cases hpl)
  have hDC : D ≠ C := fun z => by rw [z, e3 C _ (e2 C _ hC1)] at hD; cases hD
  refine ⟨pl, C, ats, rows, l, D, rfl, ⟨a, .ref t, hpl4, ha.fx f04, hr.fx f04, hplC⟩, wb, hC4, by rw [hm]; exact hD4, hDC, hst, h8, ho.sub, hd, fun r H5 k5 hr0 hr5 hc5 => ?_⟩
  have hpC : p ≠ C := fun z => by
    obtain ⟨x, y, w, h, _⟩ := hp
    rw [← z, h] at hC
    cases hC
  have k05 : Kp [p] H H5 := (k04.mono (S' := [p, C]) (by simp)).trans (k5.mono (by simp)) |>.forget fun y hy => by
    simp only [List.mem_cons, List.not_mem_nil, or_false] at hy
    rcases hy with h | h
    · exact .inl (by rw [h]; exact List.mem_singleton.mpr rfl)
    · exact .inr (by rw [h]; exact hC)
  have f45 : Fx H4 H5 := fxm hC4 k5
  have f05 := f04.trans f45
  have hp5 : Pur H5 p := by
    obtain ⟨x, y, w, h, z⟩ := hp4
    exact ⟨x, y, w, k5.lst h (by simpa using hpC), z⟩
  generalize hR : progRun (truthOf ats rows) l (ent0 rows.length) = R at hr5 hc5
  refine ⟨_, rfl, _, rfl, fun x dx hx hdx hne => ?_⟩
  have eM := mk_fx (o := .own x) (o' := .ins (He.ga K "World") dx []) hx hdx
  refine ⟨x, dx, .ref a, .ref t, ats, rows, rfl, upd_same, ((ha.fx f05).fx (Fx.of eM)).ats, (hr.fx f05).fx (Fx.of eM), wb, fun H7 k7 hwor => ⟨rfl, ?_⟩⟩
  have e57 : Ex H5 H7 := mk_ex hx hdx k7
  have hwor' := hwor
  obtain ⟨wa, wdx, wt, wav, wrv, hwe, hwa, _⟩ := hwor'
  obtain rfl : x = wa := by injection hwe
  have hf7 := hf.fx (f05.trans (Fx.of e57))
  refine ⟨x, wdx, _, rfl, hwa, by rw [List.lookup_cons, show (("play" : Str) == "told") = false by decide +kernel]; rfl, _, rfl, ?_⟩
  refine ⟨.ref x, .ref fa, ats, rows, l, rfl, hwor, wb, hf7, hst, h8, ho.sub, fun v' H8 e8 hply => ?_⟩
  rw [hR] at hply
  have hply0 := hply
  obtain ⟨ya, ydx, yt, ye, yc, rfl, hya, _⟩ := hply0
  have e58 := e57.trans e8
  obtain ⟨pf1, pf2, pf3⟩ := prog_facts (T := truthOf ats rows) (n := rows.length) (by omega) hst h8
  have pc := prog_calls (T := truthOf ats rows) (n := rows.length) hst h8
  rw [hR] at pf1 pf2 pf3 pc
  obtain ⟨q1, q2, q3, q4⟩ := dR_facts (n := rows.length) (es := R.1) (cs := R.2) (by omega) (fun y hy => ⟨(pf3 y hy).1, (pf3 y hy).2.2, by have := (pf3 y hy).2.1; omega⟩) pc (by omega) (by omega)
  refine ⟨_, rfl, ya, ydx, _, rfl, hya, _, R.1, R.2, rfl, hply, fun e H9 e9 he => ?_⟩
  refine ⟨_, rfl, ya, ydx, _, rfl, e9 ya _ hya, _, R.1, R.2, rfl, hply.up e9, fun c H10 e10 hc => ?_⟩
  refine ⟨z2, fun u hu => ?_⟩
  have e11 : Ex H10 (upd H10 u (.lst [.ref e, .ref c])) := Ex.new hu
  have hu11 : (upd H10 u (.lst [.ref e, .ref c])) u = some (.lst [.ref e, .ref c]) := upd_same
  generalize upd H10 u (.lst [.ref e, .ref c]) = H11 at e11 hu11
  refine ⟨dR R.1 R.2, u, rfl, dp_dR hu11 (e11 e _ (e10 e _ (e9 e _ he))) (e11 c _ (e10 c _ hc)), q1, q2, q3, q4, ?_⟩
  have e511 := e58.trans (e9.trans (e10.trans e11))
  refine ⟨_, rfl, _, rfl, C, _, rfl, .inl ⟨sq_of (e511 C _ hc5), fun c2 hc2 => ?_⟩⟩
  have e12 : Ex H11 (upd H11 c2 (.tup (cV R.2))) := Ex.new hc2
  have hc12 : (upd H11 c2 (.tup (cV R.2))) c2 = some (.tup (cV R.2)) := upd_same
  generalize upd H11 c2 (.tup (cV R.2)) = H12 at e12 hc12
  refine ⟨z2, fun w hw => ?_⟩
  have e13 : Ex H12 (upd H12 w (.lst [.ref r, .ref c2])) := Ex.new hw
  have hw13 : (upd H12 w (.lst [.ref r, .ref c2])) w = some (.lst [.ref r, .ref c2]) := upd_same
  generalize upd H12 w (.lst [.ref r, .ref c2]) = H13 at e13 hw13
  refine ⟨dR R.1 R.2, w, rfl, dp_dR hw13 (e13 r _ (e12 r _ (e511 r _ hr5))) (e13 c2 _ hc12), q1, q2, q3, q4, rfl, ?_⟩
  rw [decide_eq_true rfl]
  have e513 := e511.trans (e12.trans e13)
  exact k H13 (k05.trans (Kp.of e513)) (hp5.ex e513)
end
end CF

/-! text CfRH -/
set_option Elab.async false
set_option linter.all false
set_option maxRecDepth 100000
set_option maxHeartbeats 4000000
/-! a flow played right: whole -/
namespace CF
open PySem PySem.Spec PyProof.Rows L2 Evl
def spareW : List Nm := [cd "z999", cd "z998", cd "z997"]
theorem spare_ok : wordB spareW = true ∧ 1 ≤ spareW.length ∧ spareW.length ≤ 30 := by decide +kernel
theorem spare_V : [V.str "z999", V.str "z998", V.str "z997"] = tV spareW := by
  show [V.str (Str.ofString "z999"), V.str (Str.ofString "z998"), V.str (Str.ofString "z997")] = _
  rw [cd_S, cd_S, cd_S]
  rfl
section
variable {K : PySem.W.Frag} {mg : Str → Option Value} {vs : List V} {B H H1 H2 H' : Hp} {Q : VK} {E : XK} {σ : L2.St} {ta tb : TE}
theorem AtsOk.rev {l : List (Step Nm)} {ats : List (List Nm)} (h : AtsOk l ats) : AtsOk l ats.reverse :=
  ⟨List.pairwise_reverse.mpr (h.nd.imp fun hne e => hne e.symm), by rw [List.length_reverse]; exact h.len, fun w hw => h.word w (List.mem_reverse.mp hw), fun u hu => List.mem_reverse.mpr (h.sub u hu)⟩
theorem AtsOk.spare {l : List (Step Nm)} {ats : List (List Nm)} (h : AtsOk l ats) (h6 : ats.length < 6) (hn : spareW ∉ ats) : AtsOk l (ats ++ [spareW]) := by
  refine ⟨List.nodup_append.mpr ⟨h.nd, by simp, fun a ha b hb => ?_⟩, by rw [List.length_append]; simp; omega, fun w hw => ?_, fun u hu => List.mem_append_left _ (h.sub u hu)⟩
  · rw [List.mem_singleton] at hb
    subst hb
    exact fun e => hn (e ▸ ha)
  · rcases List.mem_append.mp hw with hw | hw
    · exact h.word w hw
    · rw [List.mem_singleton] at hw
      subst hw
      exact spare_ok
theorem played_aft {d : Nat} {p a : Addr} {fv v2 v5 : V} {m : Nat} {l : List (Step Nm)} {ats : List (List Nm)} (hd : 10 ≤ d) (hp : Pur H p) (hf : Flw K H fv l) (ha : AtF H a ats) (ho : AtsOk l ats) (hm9 : m ≤ 9)
    (hst : ∀ st ∈ l, stB st = true) (h8 : l.length ≤ 8) (k : ∀ H', Kp [p] H H' → Pur H' p → Q (.bl true) H') :
    (tSeq (tAsg (tCB (cTup K) (tCons (tLc (iRng1 (tCons (tVar 4) tNil)) (gName 10) (tYes) (tCall sp__law_truths [] C8.E0 (tCons (tVar 0) (tCons (tCB (rLen K) (tCons (tVar 3) tNil)) tNil))) [10]) tNil)) (gName 6)) (tSeq (tAsg (tLst tNil) (gName 7)) (tSeq (tAsg (tCall (sp__law_carried d) [] C8.E0 (tCons (tLst (tCons (tVar 7) (tCons (tVar 3) (tCons (tVar 6) tNil)))) (tCons (tCB (rStrOwn (He.ga K "Flow") (sp_str_Flow K) C8.E0) (tCons (tVar 1) tNil)) (tCons (tLc (iRng1 (tCons (tVar 4) tNil)) (gName 10) (tYes) (tOp rAddT (tC (.str "x")) (tCB cStrI (tCons (tVar 10) tNil))) [10]) tNil)))) (gName 8)) (tSeq (tAsg (tMeth (He.ga K "World") "play" (sp_World_play K) [] C8.E0 (tMake (He.ga K "World") (sp_World K) [] C8.E0 (tCons (tVar 3) (tCons (tVar 6) tNil))) (tCons (tVar 1) tNil)) (gName 9)) (tRet (tOp rEq (tCB (cRepr K) (tCons (tLst (tCons (tProp (He.ga K "Play") (sp_Play_entries K) [] C8.E0 (tVar 9)) (tCons (tProp (He.ga K "Play") (sp_Play_calls K) [] C8.E0 (tVar 9)) tNil))) tNil)) (tCB (cRepr K) (tCons (tLst (tCons (tVar 8) (tCons (tCB (cTup K) (tCons (tVar 7) tNil)) tNil))) tNil)))))))) (ends Q) [some (.ref p), some fv, some v2, some (.ref a), some (.int (m : Nat)), some v5, none, none, none, none, none] H := by
  show tAsg (tCB (cTup K) (tCons (tLc (iRng1 (tCons (tVar 4) tNil)) (gName 10) (tYes) (tCall sp__law_truths [] C8.E0 (tCons (tVar 0) (tCons (tCB (rLen K) (tCons (tVar 3) tNil)) tNil))) [10]) tNil)) (gName 6) _ [some (.ref p), some fv, some v2, some (.ref a), some (.int (m : Nat)), some v5, none, none, none, none, none] H
  show (tCB (cTup K) (tCons (tLc (iRng1 (tCons (tVar 4) tNil)) (gName 10) (tYes) (tCall sp__law_truths [] C8.E0 (tCons (tVar 0) (tCons (tCB (rLen K) (tCons (tVar 3) tNil)) tNil))) [10]) tNil)) [some (.ref p), some fv, some v2, some (.ref a), some (.int (m : Nat)), some v5, none, none, none, none, none] H _
  refine truths_list hp ha ho.len hm9 fun t rows H1 k1 hp1 hr hrl hrm => ?_
  exact played_rest hd hp1 (hf.fx (hp.fx k1)) (ha.fx (hp.fx k1)) ho hr hrl hrm hm9 hst h8 fun H2 k2 hp2 => k H2 (k1.trans k2) hp2
theorem played_mid {d : Nat} {p a : Addr} {fv v2 v5 : V} {m : Nat} {l : List (Step Nm)} {ats : List (List Nm)} (hd : 10 ≤ d) (hp : Pur H p) (hf : Flw K H fv l) (ha : AtF H a ats) (ho : AtsOk l ats) (hm9 : m ≤ 9)
    (hst : ∀ st ∈ l, stB st = true) (h8 : l.length ≤ 8) (k : ∀ H', Kp [p] H H' → Pur H' p → Q (.bl true) H') :
    (tSeq (tIfS (tTest (tOp rEq (tCall sp__law_take [] C8.E0 (tCons (tVar 0) (tCons (tC (.int 2)) tNil))) (tC (.int 0)))) (tAsg (tRevTF K (tVar 3)) (gName 3)) (tNext)) (tSeq (tAsg (tCB (cTup K) (tCons (tLc (iRng1 (tCons (tVar 4) tNil)) (gName 10) (tYes) (tCall sp__law_truths [] C8.E0 (tCons (tVar 0) (tCons (tCB (rLen K) (tCons (tVar 3) tNil)) tNil))) [10]) tNil)) (gName 6)) (tSeq (tAsg (tLst tNil) (gName 7)) (tSeq (tAsg (tCall (sp__law_carried d) [] C8.E0 (tCons (tLst (tCons (tVar 7) (tCons (tVar 3) (tCons (tVar 6) tNil)))) (tCons (tCB (rStrOwn (He.ga K "Flow") (sp_str_Flow K) C8.E0) (tCons (tVar 1) tNil)) (tCons (tLc (iRng1 (tCons (tVar 4) tNil)) (gName 10) (tYes) (tOp rAddT (tC (.str "x")) (tCB cStrI (tCons (tVar 10) tNil))) [10]) tNil)))) (gName 8)) (tSeq (tAsg (tMeth (He.ga K "World") "play" (sp_World_play K) [] C8.E0 (tMake (He.ga K "World") (sp_World K) [] C8.E0 (tCons (tVar 3) (tCons (tVar 6) tNil))) (tCons (tVar 1) tNil)) (gName 9)) (tRet (tOp rEq (tCB (cRepr K) (tCons (tLst (tCons (tProp (He.ga K "Play") (sp_Play_entries K) [] C8.E0 (tVar 9)) (tCons (tProp (He.ga K "Play") (sp_Play_calls K) [] C8.E0 (tVar 9)) tNil))) tNil)) (tCB (cRepr K) (tCons (tLst (tCons (tVar 8) (tCons (tCB (cTup K) (tCons (tVar 7) tNil)) tNil))) tNil))))))))) (ends Q) [some (.ref p), some fv, some v2, some (.ref a), some (.int (m : Nat)), some v5, none, none, none, none, none] H := by
  refine ⟨_, rfl, p, 2, rfl, hp, by decide, by decide, fun r H1 k1 hp1 hr => ⟨rfl, _, rfl, ?_⟩⟩
  have ha1 := ha.fx (hp.fx k1)
  have hf1 := hf.fx (hp.fx k1)
  by_cases hb : V.int (r : Int) = V.int 0
  · obtain ⟨o, avs, h1, h2, h3, h4⟩ := id ha1
    refine ifT hb ⟨_, rfl, a, avs, rfl, .inl (.inr ⟨o, h1⟩), fun b o2 hb0 hb1 hb2 => ?_⟩
    have e2 : Ex H1 (upd H1 b (.frz o2 (.tup avs.reverse))) := Ex.new hb0
    have ha2 : AtF (upd H1 b (.frz o2 (.tup avs.reverse))) b ats.reverse := ⟨o2, avs.reverse, upd_same, hb1, hb2, (h4.imp fun _ _ z => z.fx (Fx.of e2)).rev⟩
    exact played_aft hd (hp1.ex e2) (hf1.fx (Fx.of e2)) ha2 ho.rev hm9 hst h8 fun H3 k3 hp3 => k H3 (k1.trans ((Kp.of e2).trans k3)) hp3
  · exact ifF hb (played_aft hd hp1 hf1 ha1 ho hm9 hst h8 fun H3 k3 hp3 => k H3 (k1.trans k3) hp3)
theorem p__law_played_right {d : Nat} (hd : 10 ≤ d) (h : sp__law_played_right K vs H Q E) : r__law_played_right K sp__law_take sp__law_atoms sp__law_truths (sp__law_carried d) (sp_str_Flow K) (sp_World_play K) (sp_World K) (sp_Play_calls K) (sp_Play_entries K) (ends Q) (start ["_law_purse_here", "_law_mine", "_law_steps", "_law_atoms_here", "_law_many", "_law_spare", "_law_truths_here", "_law_calls_here", "_law_due", "_law_told", "_law_k"] vs) H := by
  obtain ⟨p, fv, q, l, rfl, hp, hf, hq, hqp, hst, h8, ha6, k⟩ := h
  obtain ⟨ak1, ak2⟩ := atoms_ok hst h8
  have ok0 : AtsOk l (atomsOf l) := ⟨ak1, ha6, ak2, fun u hu => hu⟩
  have z2 : 2 ≤ sizeLine := by decide
  have z3 : 3 ≤ sizeLine := by decide
  have z1 : 1 ≤ sizeLine := by decide
  refine ⟨_, rfl, q, l, rfl, hq, hst, h8, fun a H1 e1 hat => ?_⟩
  have hp1 := hp.ex e1
  refine ⟨_, rfl, p, 5, rfl, hp1, by decide, by decide, fun r H2 k2 hp2 hr2 => ⟨z2, fun x hx => ?_⟩⟩
  have e3 : Ex H2 (upd H2 x (.lst [.int (r : Nat), .int 9])) := Ex.new hx
  have hx3 : (upd H2 x (.lst [.int (r : Nat), .int 9])) x = some (.lst [.int (r : Nat), .int 9]) := upd_same
  generalize upd H2 x (.lst [.int (r : Nat), .int 9]) = H3 at e3 hx3
  have hp3 := hp2.ex e3
  have hxp : x ≠ p := fun z => by
    obtain ⟨_, _, _, h, _⟩ := hp2
    rw [z, h] at hx
    cases hx
  refine ⟨_, rfl, p, 6, rfl, hp3, by decide, by decide, fun r6 H4 k4 hp4 hr6 => ⟨rfl, ?_⟩⟩
  have hx4 : H4 x = some (.lst [.int (r : Nat), .int 9]) := k4.lst hx3 hxp
  have k14 : Kp [p] H H4 := (((Kp.of e1).trans k2).trans (Kp.of e3)).trans k4
  have hat4 : AtF H4 a (atomsOf l) := hat.fx ((hp1.fx k2).trans ((Fx.of e3).trans (hp3.fx k4)))
  have hf4 : Flw K H4 fv l := hf.fx (hp.fx k14)
  obtain ⟨m, hm9, hmv⟩ : ∃ m : Nat, m ≤ 9 ∧ atI [V.int (r : Nat), V.int 9] (if decide (V.int (r6 : Int) = V.int 0) = true then 1 else 0) = some (.int (m : Nat)) := by
    by_cases hb : V.int (r6 : Int) = V.int 0
    · exact ⟨9, by omega, by rw [if_pos (decide_eq_true hb)]; exact atI_nat (j := 1) rfl⟩
    · exact ⟨r, by omega, by rw [if_neg (by rw [decide_eq_false hb]; simp)]; exact atI_nat (j := 0) rfl⟩
  refine .inr ⟨_, rfl, x, _, _, _, rfl, rfl, sq_of hx4, hmv, ?_⟩
  refine nil_in ⟨z2, fun y hy => ⟨y, _, rfl, st_of upd_same, rfl, _, _, rfl, _, _, rfl, rfl, ?_⟩⟩
  have e5 : Ex H4 (upd H4 y (.tup [.ref a, .int (m : Nat)])) := Ex.new hy
  generalize upd H4 y (.tup [.ref a, .int (m : Nat)]) = H5 at e5
  refine ⟨z3, fun s hs => ?_⟩
  rw [spare_V]
  have e6 : Ex H5 (upd H5 s (.tup (tV spareW))) := Ex.new hs
  have hs6 : (upd H5 s (.tup (tV spareW))) s = some (.tup (tV spareW)) := upd_same
  generalize upd H5 s (.tup (tV spareW)) = H6 at e6 hs6
  have e46 := e5.trans e6
  have hp6 := hp4.ex e46
  have k06 : Kp [p] H H6 := k14.trans (Kp.of e46)
  have hat6 := hat4.fx (Fx.of e46)
  have hf6 := hf4.fx (Fx.of e46)
  obtain ⟨o, avs, h1, h2, h3, h4⟩ := id hat6
  have hal := h4.len
  refine ⟨_, rfl, _, (atomsOf l).length, rfl, .inr ⟨avs, .inl (.inr ⟨o, h1⟩), hal.symm⟩, _, _, rfl, rfl, _, rfl, ?_⟩
  have go0 : ∀ {H7 : Hp}, Kp [p] H6 H7 → Pur H7 p → _ := fun {H7} k7 hp7 => played_mid (K := K) (H := H7) (Q := Q) (d := d) (p := p) (a := a) (fv := fv) (v2 := .ref q) (v5 := .ref s) (m := m) hd hp7 (hf6.fx (hp6.fx k7)) (hat6.fx (hp6.fx k7)) ok0 hm9 hst h8 fun H8 k8 hp8 => k H8 (k06.trans (k7.trans k8)) hp8
  by_cases h6 : (atomsOf l).length < 6
  · refine ibT (decide_eq_true (by omega)) ?_
    refine ⟨_, rfl, _, rfl, rv_notInW (l := atomsOf l) ⟨s, rfl, hs6⟩ (dp_tup (.inl (.inr ⟨o, h1⟩)) h4) spare_ok.1 (fun u hu => (ak2 u hu).1) _ ⟨_, rfl, ?_⟩⟩
    by_cases hin : spareW ∈ atomsOf l
    · exact ibF (by rw [decide_eq_true hin]; rfl) (ibF rfl (go0 (Kp.refl _ _) hp6))
    · refine ibT (by rw [decide_eq_false hin]; rfl) ?_
      refine ⟨_, rfl, p, 3, rfl, hp6, by decide, by decide, fun r7 H7 k7 hp7 hr7 => ⟨rfl, _, rfl, ?_⟩⟩
      by_cases hb : V.int (r7 : Int) = V.int 0
      · refine ifT hb ⟨_, rfl, _, rfl, z1, fun b o2 hb0 hb1 hb2 => ?_⟩
        have e8 : Ex H7 (upd H7 b (.frz o2 (.tup [.ref s]))) := Ex.new hb0
        have hb8 : (upd H7 b (.frz o2 (.tup [.ref s]))) b = some (.frz o2 (.tup [.ref s])) := upd_same
        generalize upd H7 b (.frz o2 (.tup [.ref s])) = H8 at e8 hb8
        have f68 := (hp6.fx k7).trans (Fx.of e8)
        have hs8 := f68 s _ hs6 rfl
        have k68 : Kp [p] H6 H8 := k7.trans (Kp.of e8)
        have hp8 := hp7.ex e8
        have ok8 := ok0.spare h6 hin
        obtain ⟨o', avs', g1, g2, g3, g4⟩ := hat6.fx f68
        refine ⟨a, b, avs', [.ref s], rfl, rfl, .inl (.inr ⟨o', g1⟩), .inl (.inr ⟨o2, hb8⟩), ?_, by simp, fun hnil => ?_, fun hnil c o3 hc0 hc1 hc2 => ?_⟩
        · have := g4.len
          exact sz_of (by simp; omega)
        · subst hnil
          have hl0 : atomsOf l = [] := by
            have := g4.len
            exact List.eq_nil_of_length_eq_zero (by simpa using this.symm)
          refine played_mid (K := K) hd hp8 (hf6.fx f68) (ats := [spareW]) ⟨o2, [.ref s], hb8, hb1, hb2, ⟨s, rfl, hs8⟩, trivial⟩ (by rw [hl0] at ok8; exact ok8) hm9 hst h8 fun H9 k9 hp9 => k H9 (k06.trans (k68.trans k9)) hp9
        · have e9 : Ex H8 (upd H8 c (.frz o3 (.tup (avs' ++ [.ref s])))) := Ex.new hc0
          have hc9 : (upd H8 c (.frz o3 (.tup (avs' ++ [.ref s])))) c = some (.frz o3 (.tup (avs' ++ [.ref s]))) := upd_same
          generalize upd H8 c (.frz o3 (.tup (avs' ++ [.ref s]))) = H9 at e9 hc9
          refine played_mid (K := K) hd (hp8.ex e9) (hf6.fx (f68.trans (Fx.of e9))) (ats := atomsOf l ++ [spareW]) ⟨o3, avs' ++ [.ref s], hc9, hc1, hc2, (g4.imp fun _ _ z => z.fx (Fx.of e9)).snoc ⟨s, rfl, e9 s _ hs8⟩⟩ ok8 hm9 hst h8 fun H10 k10 hp10 => k H10 (k06.trans (k68.trans ((Kp.of e9).trans k10))) hp10
      · exact ifF hb (go0 k7 hp7)
  · exact ibF (decide_eq_false (by omega)) (ibF rfl (go0 (Kp.refl _ _) hp6))
end
end CF

/-! text CfRI -/
set_option Elab.async false
set_option linter.all false
set_option maxRecDepth 100000
set_option maxHeartbeats 4000000
/-! a purse's flows are all played right -/
namespace CF
open PySem PySem.Spec PyProof.Rows L2 Evl
def sp__law_right : Sp := fun vs H Q _ => ∃ p, vs = [.ref p] ∧ Pur H p ∧ ∀ H', Kp [p] H H' → Q (.bl true) H'
section
variable {K : PySem.W.Frag} {mg : Str → Option Value} {vs : List V} {B H H1 H2 H' : Hp} {Q : VK} {E : XK} {σ : L2.St} {ta tb : TE}
theorem all_rep (n : Nat) : (List.replicate n true).all id = true := List.all_eq_true.mpr fun x hx => (List.mem_replicate.mp hx).2
theorem p__law_right (h : sp__law_right vs H Q E) : r__law_right K sp__law_playable (sp__law_flow K) (sp__law_played_right K) (ends Q) (start ["_law_purse_here", "_law_turn", "_law_steps", "_law_mine", "_law_again"] vs) H := by
  obtain ⟨p, rfl, hp, k⟩ := h
  refine ⟨2, rfl, by decide, by decide, ?_⟩
  refine for_range (lo := 0) (n := ((2 : Int)).toNat) (fun i σ' H' => Kp [p] H H' ∧ Pur H' p ∧ ∃ o1 o2 o3, σ' = [some (.ref p), o1, o2, o3, none]) ⟨Kp.refl _ _, hp, none, none, none, rfl⟩ ?_ ?_
  · rintro i σ' H1 hi ⟨k1, hp1, o1, o2, o3, rfl⟩
    refine ⟨_, rfl, p, rfl, hp1, fun q l H2 k2 hp2 hq hqp hst h8 h6 => ?_⟩
    refine ⟨_, rfl, q, l, rfl, hq, hst, h8, fun fv H3 e3 hf => ?_⟩
    have hp3 := hp2.ex e3
    have hq3 := hq.ex e3
    obtain ⟨svs, hqs, hqa⟩ := hq3
    have k13 : Kp [p] H1 H3 := k2.trans (Kp.of e3)
    show tIfS (tNot (tB (tCB (rAll K) (tCons (tLc (iRng1 (tCons (tC (.int 2)) tNil)) (gName 4) (tYes) (tCall (sp__law_played_right K) [] C8.E0 (tCons (tVar 0) (tCons (tVar 3) (tCons (tVar 2) tNil)))) [4]) tNil)))) (tRet (tC (.bl false))) (tNext) _ [some (.ref p), some (.int ((0 : Int) + (i : Int))), some (.ref q), some fv, none] H3
    show tNot (tB (tCB (rAll K) (tCons (tLc (iRng1 (tCons (tC (.int 2)) tNil)) (gName 4) (tYes) (tCall (sp__law_played_right K) [] C8.E0 (tCons (tVar 0) (tCons (tVar 3) (tCons (tVar 2) tNil)))) [4]) tNil))) [some (.ref p), some (.int ((0 : Int) + (i : Int))), some (.ref q), some fv, none] H3 _
    show tB (tCB (rAll K) (tCons (tLc (iRng1 (tCons (tC (.int 2)) tNil)) (gName 4) (tYes) (tCall (sp__law_played_right K) [] C8.E0 (tCons (tVar 0) (tCons (tVar 3) (tCons (tVar 2) tNil)))) [4]) tNil)) [some (.ref p), some (.int ((0 : Int) + (i : Int))), some (.ref q), some fv, none] H3 _
    show tCB (rAll K) (tCons (tLc (iRng1 (tCons (tC (.int 2)) tNil)) (gName 4) (tYes) (tCall (sp__law_played_right K) [] C8.E0 (tCons (tVar 0) (tCons (tVar 3) (tCons (tVar 2) tNil)))) [4]) tNil) [some (.ref p), some (.int ((0 : Int) + (i : Int))), some (.ref q), some fv, none] H3 _
    show (tCons (tLc (iRng1 (tCons (tC (.int 2)) tNil)) (gName 4) (tYes) (tCall (sp__law_played_right K) [] C8.E0 (tCons (tVar 0) (tCons (tVar 3) (tCons (tVar 2) tNil)))) [4]) tNil) [some (.ref p), some (.int ((0 : Int) + (i : Int))), some (.ref q), some fv, none] H3 _
    show (tLc (iRng1 (tCons (tC (.int 2)) tNil)) (gName 4) (tYes) (tCall (sp__law_played_right K) [] C8.E0 (tCons (tVar 0) (tCons (tVar 3) (tCons (tVar 2) tNil)))) [4]) [some (.ref p), some (.int ((0 : Int) + (i : Int))), some (.ref q), some fv, none] H3 _
    refine ⟨2, rfl, by decide, by decide, fun D hD => ?_⟩
    have hpD := hp3.ne hD
    refine lc_range (lo := 0) (n := ((2 : Int)).toNat) (fun j H' => Kp [p] H3 H' ∧ Pur H' p ∧ H' D = some (.lst ((List.replicate j true).map V.bl))) ⟨Kp.of (Ex.new hD), hp3.ex (Ex.new hD), upd_same⟩ ?_ ?_
    · rintro j H4 hj ⟨k4, hp4, hd4⟩
      have hj2 : j < 2 := hj
      refine ⟨rfl, ?_⟩
      have f4 := hp3.fx k4
      refine ⟨_, rfl, _, rfl, _, rfl, p, fv, q, l, rfl, hp4, hf.fx f4, ⟨svs, k4.lst hqs hqp, hqa.imp fun _ _ z => z.fx f4⟩, hqp, hst, h8, h6, fun H5 k5 hp5 => ?_⟩
      have hd5 := k5.lst hd4 hpD.symm
      refine ⟨_, hd5, by rw [List.length_map, List.length_replicate]; exact sz_lt (by omega), (k4.trans k5).own hD, hp5.put hpD, ?_⟩
      rw [upd_same, List.replicate_succ', List.map_append]
      rfl
    · rintro H4 ⟨k4, hp4, hd4⟩
      refine ⟨D, _, rfl, sq_of hd4, _, rfl, ?_⟩
      rw [all_rep]
      exact ibF rfl ⟨(k1.trans k13).trans k4, hp4, _, _, _, rfl⟩
  · rintro σ' H1 ⟨k1, hp1, o1, o2, o3, rfl⟩
    exact k H1 k1
end
end CF

/-! text CfRJ -/
set_option Elab.async false
set_option linter.all false
set_option maxRecDepth 100000
set_option maxHeartbeats 4000000
/-! the law: the first example, plain -/
namespace CF
open PySem PySem.Spec PyProof.Rows L2 Evl
def pN : Nm := cd "p"
def fN : Nm := cd "f"
def exL : List (Step Nm) := [⟨.keep [pN], false⟩, ⟨.first 1, false⟩, ⟨.each [fN], false⟩, ⟨.skip 1, false⟩]
def exA : List (List Nm) := [[pN]]
def exR : List (List Bool) := [[false], [true], [true]]
theorem pN_eq : pN = [112] ∧ fN = [102] := by decide +kernel
theorem ex_run : progRun (truthOf exA exR) exL (ent0 3) = ([], [(0, [pN]), (1, [pN]), (1, [fN])]) := by
  unfold exA exL
  rw [pN_eq.1, pN_eq.2]
  decide +kernel
theorem ex_shown : (dR [] [(0, [pN]), (1, [pN]), (1, [fN])]).shown = ("[(), ('p(x0)', 'p(x1)', 'f(x1)')]" : Str) := by
  rw [pN_eq.1, pN_eq.2]
  decide +kernel
theorem ex_wb : WB exA exR := by
  refine ⟨by unfold exA; simp, by decide, fun w hw => ?_, fun r hr => ?_, by decide⟩
  · have : w = [pN] := by simpa [exA] using hw
    subst this
    decide +kernel
  · simp [exR] at hr
    rcases hr with rfl | rfl <;> rfl
theorem ex_st : ∀ st ∈ exL, stB st = true := by
  unfold exL
  rw [pN_eq.1, pN_eq.2]
  decide +kernel
theorem ex_sub : ∀ w ∈ atomsOf exL, w ∈ exA := by
  unfold exL exA
  rw [pN_eq.1, pN_eq.2]
  decide +kernel
/-- the law answers True, whatever the cells -/
def sp_law (K : PySem.W.Frag) : Sp := fun vs H Q _ => ∃ a, ∃ ns : List Int, vs = [.ref a] ∧ SqL K H a (ns.map V.int) ∧ ns.length ≤ 1000 ∧ ∀ H', Ex H H' → Q (.bl true) H'
end CF

/-! text CfRK -/
set_option Elab.async false
set_option linter.all false
set_option maxRecDepth 100000
set_option maxHeartbeats 4000000
/-! the law: whole -/
namespace CF
open PySem PySem.Spec PyProof.Rows L2 Evl
section
variable {K : PySem.W.Frag} {mg : Str → Option Value} {vs : List V} {B H H1 H2 H' : Hp} {Q : VK} {E : XK} {σ : L2.St} {ta tb : TE}
theorem mk_stage {gv : List V → List V → List V} (hgv : ∀ a b c, gv [a, b, c] [] = [a, b, c, .bl false]) {s : Sg Nm} {te : TE} (hs : sgB s = true) (hl : s.isList = false)
    (he : ∀ Q' : VK, (∀ v H1, Ex H H1 → Det H1 v s → Q' v H1) → te σ H Q') (k : ∀ v H1, Ex H H1 → Stg K H1 v ⟨s, false⟩ → Q v H1) :
    tMakeN (He.ga K "Stage") 2 ([] : List Str).length (sp_Stage K) gv C8.E0 (tCons (tC (.str s.kd)) (tCons te tNil)) tNil σ H Q := by
  refine he _ fun v H1 e1 hd => ⟨rfl, rfl, fun x dx hx hdx hne => ?_⟩
  rw [hgv]
  have eM := mk_fx (o := .own x) (o' := .ins (He.ga K "Stage") dx []) hx hdx
  refine ⟨x, dx, v, s, false, rfl, upd_same, hd.fx (Fx.of eM), hs, fun H2 k2 hst => ⟨rfl, ?_⟩⟩
  rw [hl] at hst
  exact k (.ref x) H2 (e1.trans (mk_ex hx hdx k2)) hst
theorem word1 {n : Nm} {c : Str} (hc : SX.S n = c) (Q' : VK) (q : ∀ v H1, Ex H H1 → Wd H1 v [n] → Q' v H1) : tTup (tCons (tC (.str c)) tNil) σ H Q' := by
  subst hc
  exact ⟨by show 1 ≤ sizeLine; decide, fun p hp => q (.ref p) _ (Ex.new hp) ⟨p, rfl, upd_same⟩⟩
theorem p_S : SX.S pN = ("p" : Str) := (cd_S "p").symm
theorem f_S : SX.S fN = ("f" : Str) := (cd_S "f").symm
theorem row1 {b : Bool} (Q' : VK) (q : ∀ v H1, Ex H H1 → Row H1 v [b] → Q' v H1) : tTup (tCons (tC (.bl b)) tNil) σ H Q' :=
  ⟨by show 1 ≤ sizeLine; decide, fun p hp => q (.ref p) _ (Ex.new hp) ⟨p, rfl, upd_same⟩⟩
abbrev rdSt (K : PySem.W.Frag) (gv : List V → List V → List V) (kd : Str) (te : TE) : TE := tMakeN (He.ga K "Stage") 2 ([] : List Str).length (sp_Stage K) gv C8.E0 (tCons (tC (.str kd)) (tCons te tNil)) tNil
abbrev rdP : TE := tTup (tCons (tC (.str "p")) tNil)
abbrev rdF : TE := tTup (tCons (tC (.str "f")) tNil)
theorem cons_in {t : TE} {r : TA} {Q : List V → Hp → Prop} (h : t σ H fun x H1 => r σ H1 fun xs H2 => Q (x :: xs) H2) : tCons t r σ H Q := h
theorem makeR_in {C : Addr} {sp : Sp} {t : TA} (h : t σ H fun vs H1 => ∀ x dx, H1 x = Option.none → H1 dx = Option.none → dx ≠ x → sp (V.ref x :: vs) (upd (upd H1 dx (.own x)) x (.ins C dx [])) (fun v H2 => v = .non ∧ Q (.ref x) H2) C8.E0) : StX.tMakeR C sp C8.E0 t σ H Q := h
theorem tup_in {t : TA} (h : t σ H fun vs H1 => vs.length ≤ sizeLine ∧ ∀ p, H1 p = none → Q (.ref p) (upd H1 p (.tup vs))) : tTup t σ H Q := h
theorem seqAsg_in {te : TE} {g : TG} {tz : TS} {D : Ends} (h : te σ H fun x H1 => g x σ H1 fun σ2 H2 => tz D σ2 H2) : tSeq (tAsg te g) tz D σ H := h
theorem p_law {gv : List V → List V → List V} (hgv : ∀ a b c, gv [a, b, c] [] = [a, b, c, .bl false]) (h : sp_law K vs H Q E) : r_law K (sp_Flow K) (sp_Stage K) (sp_World_play K) (sp_World K) (sp_Play_calls K) (sp_Play_entries K) sp__law_right sp__law_purse (sp__law_cell K) gv (ends Q) (start ["_law_cells", "_law_mine", "_law_told", "_law_k"] vs) H := by
  obtain ⟨a, ns, rfl, hns, hlen, k⟩ := h
  have z3 : 3 ≤ sizeLine := by decide
  have z2 : 2 ≤ sizeLine := by decide
  have z1 : 1 ≤ sizeLine := by decide
  have exs := ex_st
  refine seqAsg_in ?_
  refine makeR_in ?_
  refine cons_in ?_
  show rdSt K gv "keep" rdP _ _ _
  refine mk_stage (s := .keep [pN]) hgv (exs ⟨.keep [pN], false⟩ (by simp [exL])) rfl (fun Q' q => word1 p_S Q' q) fun v1 H1 e1 s1 => ?_
  refine cons_in ?_
  refine mk_stage (s := .first 1) hgv (by decide) rfl (fun Q' q => q (.int (1 : Nat)) H1 (Ex.refl H1) rfl) fun v2 H2 e2 s2 => ?_
  refine cons_in ?_
  refine mk_stage (s := .each [fN]) hgv (exs ⟨.each [fN], false⟩ (by simp [exL])) rfl (fun Q' q => word1 f_S Q' q) fun v3 H3 e3 s3 => ?_
  refine cons_in ?_
  refine mk_stage (s := .skip 1) hgv (by decide) rfl (fun Q' q => q (.int (1 : Nat)) H3 (Ex.refl H3) rfl) fun v4 H4 e4 s4 => ?_
  refine nil_in ?_
  intro x dx hx hdx hne
  have eM := mk_fx (o := .own x) (o' := .ins (He.ga K "Flow") dx []) hx hdx
  have t1 := (s1.fx (Fx.of (e2.trans (e3.trans e4)))).fx (Fx.of eM)
  have t2 := (s2.fx (Fx.of (e3.trans e4))).fx (Fx.of eM)
  have t3 := (s3.fx (Fx.of e4)).fx (Fx.of eM)
  have t4 := s4.fx (Fx.of eM)
  refine ⟨x, dx, [v1, v2, v3, v4], exL, rfl, upd_same, ⟨t1, t2, t3, t4, trivial⟩, by decide, fun H5 k5 hf => ⟨rfl, ?_⟩⟩
  have e05 : Ex H H5 := (e1.trans (e2.trans (e3.trans e4))).trans (mk_ex hx hdx k5)
  -- the world
  refine seqAsg_in ?_
  show tMeth (He.ga K "World") "play" (sp_World_play K) [] C8.E0 _ _ [some (.ref a), some (.ref x), none, none] H5 _
  show tMake (He.ga K "World") (sp_World K) [] C8.E0 _ [some (.ref a), some (.ref x), none, none] H5 _
  show (tCons (tTup (tCons (tTup (tCons (tC (.str "p")) tNil)) tNil)) (tCons (tTup (tCons (tTup (tCons (tC (.bl false)) tNil)) (tCons (tTup (tCons (tC (.bl true)) tNil)) (tCons (tTup (tCons (tC (.bl true)) tNil)) tNil)))) tNil)) [some (.ref a), some (.ref x), none, none] H5 _
  refine cons_in ?_
  show tTup (tCons (tTup (tCons (tC (.str "p")) tNil)) tNil) [some (.ref a), some (.ref x), none, none] H5 _
  refine tup_in ?_
  refine cons_in ?_
  refine word1 p_S _ fun w1 H6 e6 hw1 => ?_
  refine nil_in ⟨z1, fun A hA => ?_⟩
  have e7 : Ex H6 (upd H6 A (.tup [w1])) := Ex.new hA
  have hA7 : (upd H6 A (.tup [w1])) A = some (.tup [w1]) := upd_same
  generalize upd H6 A (.tup [w1]) = H7 at e7 hA7
  have hats : Ats H7 (.ref A) exA := ⟨A, [w1], rfl, .inl hA7, hw1.fx (Fx.of e7), trivial⟩
  refine cons_in ?_
  show tTup (tCons (tTup (tCons (tC (.bl false)) tNil)) (tCons (tTup (tCons (tC (.bl true)) tNil)) (tCons (tTup (tCons (tC (.bl true)) tNil)) tNil))) [some (.ref a), some (.ref x), none, none] H7 _
  refine tup_in ?_
  refine cons_in ?_
  refine row1 _ fun r1 H8 e8 hr1 => ?_
  refine cons_in ?_
  refine row1 _ fun r2 H9 e9 hr2 => ?_
  refine cons_in ?_
  refine row1 _ fun r3 H10 e10 hr3 => ?_
  refine nil_in ⟨z3, fun R hR => ?_⟩
  have e11 : Ex H10 (upd H10 R (.tup [r1, r2, r3])) := Ex.new hR
  have hR11 : (upd H10 R (.tup [r1, r2, r3])) R = some (.tup [r1, r2, r3]) := upd_same
  generalize upd H10 R (.tup [r1, r2, r3]) = H11 at e11 hR11
  have hrws : Rws H11 (.ref R) exR := ⟨R, _, rfl, hR11, hr1.fx (Fx.of (e9.trans (e10.trans e11))), hr2.fx (Fx.of (e10.trans e11)), hr3.fx (Fx.of e11), trivial⟩
  have e7_11 : Ex H7 H11 := e8.trans (e9.trans (e10.trans e11))
  have hats := hats.fx (Fx.of e7_11)
  have e5_11 : Ex H5 H11 := e6.trans (e7.trans e7_11)
  refine nil_in ?_
  intro y dy hy hdy hny
  have eN := mk_fx (o := .own y) (o' := .ins (He.ga K "World") dy []) hy hdy
  refine ⟨y, dy, .ref A, .ref R, exA, exR, rfl, upd_same, hats.fx (Fx.of eN), hrws.fx (Fx.of eN), ex_wb, fun H12 k12 hwor => ⟨rfl, ?_⟩⟩
  have e11_12 : Ex H11 H12 := mk_ex hy hdy k12
  have hwor' := hwor
  obtain ⟨wa, wdx, wt, wav, wrv, hwe, hwa, _⟩ := hwor'
  obtain rfl : y = wa := by injection hwe
  refine ⟨y, wdx, _, rfl, hwa, by rw [List.lookup_cons, show (("play" : Str) == "told") = false by decide +kernel]; rfl, _, rfl, ?_⟩
  refine ⟨.ref y, .ref x, exA, exR, exL, rfl, hwor, ex_wb, hf.fx (Fx.of (e5_11.trans e11_12)), ex_st, by decide, ex_sub, fun v' H13 e13 hply => ?_⟩
  rw [show exR.length = 3 from rfl, ex_run] at hply
  have hply0 := hply
  obtain ⟨ya, ydx, yt, ye, yc, rfl, hya, _⟩ := hply0
  have e0_13 : Ex H H13 := e05.trans (e5_11.trans (e11_12.trans e13))
  have okc : ∀ t ∈ ([(0, [pN]), (1, [pN]), (1, [fN])] : List (Tm Nm)), okT 9 40 t := by
    intro t ht
    have hb : nameB pN = true ∧ nameB fN = true := by decide +kernel
    simp only [List.mem_cons, List.not_mem_nil, or_false] at ht
    rcases ht with rfl | rfl | rfl
    · exact ⟨by show (nameB pN && true) = true; rw [hb.1]; rfl, by decide, by decide⟩
    · exact ⟨by show (nameB pN && true) = true; rw [hb.1]; rfl, by decide, by decide⟩
    · exact ⟨by show (nameB fN && true) = true; rw [hb.2]; rfl, by decide, by decide⟩
  obtain ⟨q1, q2, q3, q4⟩ := dR_facts (n := 9) (es := []) (cs := [(0, [pN]), (1, [pN]), (1, [fN])]) (by omega) (by simp) okc (by simp) (by simp)
  refine ⟨_, rfl, ya, ydx, _, rfl, hya, _, [], _, rfl, hply, fun e H14 e14 he => ?_⟩
  refine ⟨_, rfl, ya, ydx, _, rfl, e14 ya _ hya, _, [], _, rfl, hply.up e14, fun c H15 e15 hc => ?_⟩
  refine ⟨z2, fun u hu => ?_⟩
  have e16 : Ex H15 (upd H15 u (.lst [.ref e, .ref c])) := Ex.new hu
  have hu16 : (upd H15 u (.lst [.ref e, .ref c])) u = some (.lst [.ref e, .ref c]) := upd_same
  generalize upd H15 u (.lst [.ref e, .ref c]) = H16 at e16 hu16
  refine ⟨dR [] [(0, [pN]), (1, [pN]), (1, [fN])], u, rfl, dp_dR hu16 (e16 e _ (e15 e _ (e14 e _ he))) (e16 c _ (e15 c _ hc)), q1, q2, q3, q4, rfl, _, rfl, ?_⟩
  rw [ex_shown, decide_eq_true rfl]
  refine ibF rfl ?_
  have e0_16 : Ex H H16 := e0_13.trans (e14.trans (e15.trans e16))
  have hns16 : SqL K H16 a (ns.map V.int) := ex_l e0_16 hns
  refine ⟨_, rfl, _, ns.length, rfl, .inl ⟨_, hns16, (List.length_map ..).symm⟩, _, _, rfl, _, _, rfl, ?_⟩
  obtain ⟨n, hn, hn8⟩ : ∃ n : Nat, (if (if (8 : Int) < (ns.length : Int) then (8 : Int) else (ns.length : Int)) > 2 then (if (8 : Int) < (ns.length : Int) then (8 : Int) else (ns.length : Int)) else 2) = (n : Int) ∧ n ≤ 8 := by
    by_cases h8 : (8 : Int) < (ns.length : Int)
    · rw [if_pos h8]; exact ⟨8, by simp, by omega⟩
    · rw [if_neg h8]
      by_cases h2 : (ns.length : Int) > 2
      · rw [if_pos h2]; exact ⟨ns.length, rfl, by omega⟩
      · rw [if_neg h2]; exact ⟨2, rfl, by omega⟩
  refine ⟨(n : Int), by rw [← hn], by omega, by omega, fun D hD => ?_⟩
  refine lc_range (lo := 0) (n := ((n : Nat) : Int).toNat) (fun j H' => Ex H16 H' ∧ H' D = some (.lst ((List.replicate j true).map V.bl))) ⟨Ex.new hD, upd_same⟩ ?_ ?_
  · rintro j H17 hj ⟨e17, hd17⟩
    have hj2 : j < n := hj
    refine ⟨rfl, _, rfl, _, rfl, a, ns, j, ?_, ex_l e17 hns16, hlen, by omega, fun r H18 e18 => ?_⟩
    · show [V.ref a, V.int ((0 : Int) + (j : Int))] = _
      rw [Int.zero_add]
    refine ⟨r, rfl, fun p H19 e19 hp0 hp => ⟨p, rfl, hp, fun H20 k20 => ?_⟩⟩
    have e20 : Ex H18 H20 := fun z o hz => k20.keep z o (e19 z o hz) fun hm => by
      rw [List.mem_singleton] at hm
      rw [hm, hp0] at hz
      cases hz
    have e1720 := e18.trans e20
    refine ⟨_, e1720 D _ hd17, by rw [List.length_map, List.length_replicate]; exact sz_lt (by omega), Ex.mut (e17.trans e1720) hD, ?_⟩
    rw [upd_same, List.replicate_succ', List.map_append]
    rfl
  · rintro H17 ⟨e17, hd17⟩
    refine ⟨D, _, rfl, sq_of hd17, ?_⟩
    rw [all_rep]
    exact k H17 (e0_16.trans e17)
end
end CF

/-! text CfWalk0 -/
set_option Elab.async false
set_option linter.all false
set_option maxRecDepth 100000
set_option maxHeartbeats 4000000
/-! the walks (printed by emit.py) -/
namespace CF
open PySem PySem.Spec PyProof.Rows L2
section
variable {P : Program} {w : World} {K : PySem.W.Frag} {mg : Str → Option Value} {base : Heap}
theorem k_is_integer (T : Tx K mg) {k : Nat} {f : Addr} {cdv : Value} {A : Around} {outer : List Env} {s : Shared} {H : Hp} {E : XK} (hr : Room k (A.deeper (envOfC "is_integer" (defScope (top 23)) s.heap.objs.size f cdv))) :
    PSs (cxOf C8.CX0 P w K mg base ["value"] "is_integer" (defScope (top 23)) f cdv A outer s H E).nox (defBody (top 23)) (r_is_integer K) := by
  have nd : (["value"] : List Str).Nodup := by decide +kernel
  exact (pss_one (ps_ret (pe_and (pe_callB call_isi (by rfl) T.f_isinstance (by decide +kernel) (pa_cons (pv 0) (pa_cons (pe_bltn (by rfl) T.f_int (by decide +kernel) rfl) pa_nil))) (pe_one (pe_not (pe_callB call_isi (by rfl) T.f_isinstance (by decide +kernel) (pa_cons (pv 0) (pa_cons (pe_bltn (by rfl) T.f_bool (by decide +kernel) rfl) pa_nil))))))))
theorem k_is_name (T : Tx K mg) {k : Nat} {f : Addr} {cdv : Value} {A : Around} {outer : List Env} {s : Shared} {H : Hp} {E : XK} (hr : Room k (A.deeper (envOfC "is_name" (defScope (top 24)) s.heap.objs.size f cdv))) :
    PSs (cxOf C8.CX0 P w K mg base ["value", "sign"] "is_name" (defScope (top 24)) f cdv A outer s H E).nox (defBody (top 24)) (r_is_name K) := by
  have nd : (["value", "sign"] : List Str).Nodup := by decide +kernel
  exact (pss_cons (ps_if (PW.pt (pw_or (pt_not (pt_val (pe_callB call_isi (by rfl) T.f_isinstance (by decide +kernel) (pa_cons (pv 0) (pa_cons (pe_bltn (by rfl) T.f_str (by decide +kernel) rfl) pa_nil))))) (pw_or (pt_not (pt_chain op_lt op_le pe_int (pe_callB call_len (by rfl) T.f_len (by decide +kernel) (pa_cons (pv 0) pa_nil)) (pe_op op_add pe_int (C8.pe_gc (by rfl) (glI T.i_MOST_DIGITS))))) (pw_or1 (pt_cmpR op_notIn_sign (pe_ix ix_str (pv 0) pe_int (fun _ _ => rfl)) (C8.pe_gc (by rfl) (glS T.s_LETTERS)) (by rfl)))))) (pss_one (ps_ret pe_bl)) pss_nil) (pss_one (ps_ret (pe_callB (cr_all rfl) (by rfl) T.f_all (by decide +kernel) (pa_cons (pe_lc (own := [("sign", 1)]) (g := gName 1) (tt := tYes) rfl nd (pi_str (pe_slice C8.sl_txt (pv 0) (po_some pe_int) po_none)) (blkOk_by (N := ["value", "sign"]) (sc := defScope (top 24)) (by decide +kernel)) (fun _ _ _ _ _ => (pg_name (i := 1) nd rfl (Or.inl rfl))) (fun _ _ _ _ _ => pts_nil) (fun _ _ _ _ _ => (pe_cmpR op_in_sign (pv 1) (C8.pe_gc (by rfl) (glS T.s_DIGITS)) (by rfl)))) pa_nil)))))
theorem k_are_names (T : Tx K mg) {k k0 : Nat} {sp_is_name : Sp} (c_is_name : C8.Cal P w K mg base k0 "is_name" sp_is_name []) (h0 : k0 + 2 ≤ k) {f : Addr} {cdv : Value} {A : Around} {outer : List Env} {s : Shared} {H : Hp} {E : XK} (hr : Room k (A.deeper (envOfC "are_names" (defScope (top 25)) s.heap.objs.size f cdv))) :
    PSs (cxOf C8.CX0 P w K mg base ["value", "least", "most", "name"] "are_names" (defScope (top 25)) f cdv A outer s H E).nox (defBody (top 25)) (r_are_names K sp_is_name) := by
  have nd : (["value", "least", "most", "name"] : List Str).Nodup := by decide +kernel
  exact (pss_cons (ps_if (PW.pt (pw_or (pt_not (pt_val (pe_callB call_isi (by rfl) T.f_isinstance (by decide +kernel) (pa_cons (pv 0) (pa_cons (pe_bltn (by rfl) T.f_tuple (by decide +kernel) rfl) pa_nil))))) (pw_or1 (pt_not (pt_chain op_le op_le (pv 1) (pe_callB call_len (by rfl) T.f_len (by decide +kernel) (pa_cons (pv 0) pa_nil)) (pv 2)))))) (pss_one (ps_ret pe_bl)) pss_nil) (pss_one (ps_ret (pe_callB (cr_all rfl) (by rfl) T.f_all (by decide +kernel) (pa_cons (pe_lc (own := [("name", 3)]) (g := gName 3) (tt := tYes) rfl nd (pi_tup (pv 0)) (blkOk_by (N := ["value", "least", "most", "name"]) (sc := defScope (top 25)) (by decide +kernel)) (fun _ _ _ _ _ => (pg_name (i := 3) nd rfl (Or.inl rfl))) (fun _ _ _ _ _ => pts_nil) (fun _ _ _ _ _ => (C8.pe_c c_is_name hr (by omega) (by rfl) (pa_cons (pv 3) pa_nil)))) pa_nil)))))
theorem k_is_word (T : Tx K mg) {k k0 : Nat} {sp_are_names : Sp} (c_are_names : C8.Cal P w K mg base k0 "are_names" sp_are_names []) (h0 : k0 + 2 ≤ k) {f : Addr} {cdv : Value} {A : Around} {outer : List Env} {s : Shared} {H : Hp} {E : XK} (hr : Room k (A.deeper (envOfC "is_word" (defScope (top 26)) s.heap.objs.size f cdv))) :
    PSs (cxOf C8.CX0 P w K mg base ["value"] "is_word" (defScope (top 26)) f cdv A outer s H E).nox (defBody (top 26)) (r_is_word K sp_are_names) := by
  have nd : (["value"] : List Str).Nodup := by decide +kernel
  exact (pss_one (ps_ret (C8.pe_c c_are_names hr (by omega) (by rfl) (pa_cons (pv 0) (pa_cons pe_int (pa_cons (C8.pe_gc (by rfl) (glI T.i_MOST_NAMES)) pa_nil))))))
theorem k_is_test (T : Tx K mg) {k k0 : Nat} {sp_are_names : Sp} (c_are_names : C8.Cal P w K mg base k0 "are_names" sp_are_names []) (h0 : k0 + 2 ≤ k) {f : Addr} {cdv : Value} {A : Around} {outer : List Env} {s : Shared} {H : Hp} {E : XK} (hr : Room k (A.deeper (envOfC "is_test" (defScope (top 27)) s.heap.objs.size f cdv))) :
    PSs (cxOf C8.CX0 P w K mg base ["value"] "is_test" (defScope (top 27)) f cdv A outer s H E).nox (defBody (top 27)) (r_is_test K sp_are_names) := by
  have nd : (["value"] : List Str).Nodup := by decide +kernel
  exact (pss_one (ps_ret (C8.pe_c c_are_names hr (by omega) (by rfl) (pa_cons (pv 0) (pa_cons pe_int (pa_cons (pe_op op_add pe_int (C8.pe_gc (by rfl) (glI T.i_MOST_NAMES))) pa_nil))))))
theorem k_applied (T : Tx K mg) {k : Nat} {f : Addr} {cdv : Value} {A : Around} {outer : List Env} {s : Shared} {H : Hp} {E : XK} (hr : Room k (A.deeper (envOfC "applied" (defScope (top 28)) s.heap.objs.size f cdv))) :
    PSs (cxOf C8.CX0 P w K mg base ["names", "argument", "text", "name"] "applied" (defScope (top 28)) f cdv A outer s H E).nox (defBody (top 28)) (r_applied K) := by
  have nd : (["names", "argument", "text", "name"] : List Str).Nodup := by decide +kernel
  exact (pss_cons (ps_set (i := 2) nd rfl (Or.inl rfl) (pv 1)) (pss_cons (ps_for PassesOwn.never rfl (pi_tup (pe_revT (pv 0))) (pg_name (i := 3) nd rfl (Or.inl rfl)) (pss_one (ps_set (i := 2) nd rfl (Or.inl rfl) (pe_joined (PJ.cons (pe_fmt (pv 3)) (PJ.cons pe_str (PJ.cons (pe_fmt (pv 2)) (PJ.cons pe_str PJ.nil)))))))) (pss_one (ps_ret (pv 2)))))
theorem k_is_count (T : Tx K mg) {k k0 : Nat} {sp_is_integer : Sp} (c_is_integer : C8.Cal P w K mg base k0 "is_integer" sp_is_integer []) (h0 : k0 + 2 ≤ k) {f : Addr} {cdv : Value} {A : Around} {outer : List Env} {s : Shared} {H : Hp} {E : XK} (hr : Room k (A.deeper (envOfC "is_count" (defScope (top 33)) s.heap.objs.size f cdv))) :
    PSs (cxOf C8.CX0 P w K mg base ["value", "least"] "is_count" (defScope (top 33)) f cdv A outer s H E).nox (defBody (top 33)) (r_is_count K sp_is_integer) := by
  have nd : (["value", "least"] : List Str).Nodup := by decide +kernel
  exact (pss_one (ps_ret (pe_and (C8.pe_c c_is_integer hr (by omega) (by rfl) (pa_cons (pv 0) pa_nil)) (pe_one (pe_chain op_le op_le (pv 1) (pv 0) (C8.pe_gc (by rfl) (glI T.i_MOST)))))))
theorem k_is_detail (T : Tx K mg) {k k0 k1 k2 : Nat} {sp_is_word sp_is_test sp_is_count : Sp} (c_is_word : C8.Cal P w K mg base k0 "is_word" sp_is_word []) (h0 : k0 + 2 ≤ k) (c_is_test : C8.Cal P w K mg base k1 "is_test" sp_is_test []) (h1 : k1 + 2 ≤ k) (c_is_count : C8.Cal P w K mg base k2 "is_count" sp_is_count []) (h2 : k2 + 2 ≤ k) {f : Addr} {cdv : Value} {A : Around} {outer : List Env} {s : Shared} {H : Hp} {E : XK} (hr : Room k (A.deeper (envOfC "is_detail" (defScope (top 34)) s.heap.objs.size f cdv))) :
    PSs (cxOf C8.CX0 P w K mg base ["kind", "detail"] "is_detail" (defScope (top 34)) f cdv A outer s H E).nox (defBody (top 34)) (r_is_detail K sp_is_word sp_is_test sp_is_count) := by
  have nd : (["kind", "detail"] : List Str).Nodup := by decide +kernel
  exact (pss_cons (ps_if (pt_cmpR op_eq (pv 0) pe_str (nomark _)) (pss_one (ps_ret (C8.pe_c c_is_word hr (by omega) (by rfl) (pa_cons (pv 1) pa_nil)))) pss_nil) (pss_cons (ps_if (pt_cmpR op_in_seq (pv 0) (pe_glob (by rfl) T.g_TESTED rfl) (by rfl)) (pss_one (ps_ret (C8.pe_c c_is_test hr (by omega) (by rfl) (pa_cons (pv 1) pa_nil)))) pss_nil) (pss_cons (ps_if (pt_cmpR op_eq (pv 0) pe_str (nomark _)) (pss_one (ps_ret (pe_cmpR op_isN (pv 1) pe_non (nomark _)))) pss_nil) (pss_cons (ps_if (pt_cmpR op_eq (pv 0) pe_str (nomark _)) (pss_one (ps_ret (pe_and (pe_callB call_isi (by rfl) T.f_isinstance (by decide +kernel) (pa_cons (pv 1) (pa_cons (pe_bltn (by rfl) T.f_tuple (by decide +kernel) rfl) pa_nil))) (pe_and (pe_cmpR op_eq (pe_callB call_len (by rfl) T.f_len (by decide +kernel) (pa_cons (pv 1) pa_nil)) pe_int (nomark _)) (pe_and (C8.pe_c c_is_count hr (by omega) (by rfl) (pa_cons (pe_ix ix_tup (pv 1) pe_int (fun _ _ => rfl)) (pa_cons pe_int pa_nil))) (pe_one (C8.pe_c c_is_count hr (by omega) (by rfl) (pa_cons (pe_ix ix_tup (pv 1) pe_int (fun _ _ => rfl)) (pa_cons pe_int pa_nil))))))))) pss_nil) (pss_one (ps_ret (C8.pe_c c_is_count hr (by omega) (by rfl) (pa_cons (pv 1) (pa_cons (pe_ifExp (pt_cmpR op_in_seq (pv 0) (pe_tup (pa_cons pe_str (pa_cons pe_str pa_nil))) (by rfl)) pe_int pe_int) pa_nil)))))))))
theorem k_comprehension (T : Tx K mg) {k k0 : Nat} {sp_applied : Sp} (c_applied : C8.Cal P w K mg base k0 "applied" sp_applied []) (h0 : k0 + 2 ≤ k) {f : Addr} {cdv : Value} {A : Around} {outer : List Env} {s : Shared} {H : Hp} {E : XK} (hr : Room k (A.deeper (envOfC "comprehension" (defScope (top 35)) s.heap.objs.size f cdv))) :
    PSs (cxOf C8.CX0 P w K mg base ["kind", "detail", "text"] "comprehension" (defScope (top 35)) f cdv A outer s H E).nox (defBody (top 35)) (r_comprehension K sp_applied) := by
  have nd : (["kind", "detail", "text"] : List Str).Nodup := by decide +kernel
  exact (pss_cons (ps_set (i := 2) nd rfl (Or.inl rfl) (C8.pe_c c_applied hr (by omega) (by rfl) (pa_cons (pv 1) (pa_cons pe_str pa_nil)))) (pss_cons (ps_if (pt_cmpR op_eq (pv 0) pe_str (nomark _)) (pss_one (ps_ret (pe_joined (PJ.cons (pe_fmt (pv 2)) (PJ.cons pe_str PJ.nil))))) pss_nil) (pss_one (ps_ret (pe_ifExp (pt_cmpR op_eq (pv 0) pe_str (nomark _)) (pe_joined (PJ.cons pe_str (PJ.cons (pe_fmt (pv 2)) PJ.nil))) (pe_joined (PJ.cons pe_str (PJ.cons (pe_fmt (pv 2)) PJ.nil))))))))
theorem k_call (T : Tx K mg) {k k0 : Nat} {sp_applied : Sp} (c_applied : C8.Cal P w K mg base k0 "applied" sp_applied []) (h0 : k0 + 2 ≤ k) {f : Addr} {cdv : Value} {A : Around} {outer : List Env} {s : Shared} {H : Hp} {E : XK} (hr : Room k (A.deeper (envOfC "call" (defScope (top 36)) s.heap.objs.size f cdv))) :
    PSs (cxOf C8.CX0 P w K mg base ["kind", "detail", "text"] "call" (defScope (top 36)) f cdv A outer s H E).nox (defBody (top 36)) (r_call K sp_applied) := by
  have nd : (["kind", "detail", "text"] : List Str).Nodup := by decide +kernel
  exact (pss_cons (ps_if (pt_cmpR op_in_seq (pv 0) (pe_tup (pa_cons pe_str (pa_cons pe_str pa_nil))) (by rfl)) (pss_cons (ps_set (i := 2) nd rfl (Or.inl rfl) (C8.pe_c c_applied hr (by omega) (by rfl) (pa_cons (pv 1) (pa_cons pe_str pa_nil)))) (pss_one (ps_ret (pe_ifExp (pt_cmpR op_eq (pv 0) pe_str (nomark _)) (pe_joined (PJ.cons pe_str (PJ.cons (pe_fmt (pv 2)) (PJ.cons pe_str PJ.nil)))) (pe_joined (PJ.cons pe_str (PJ.cons (pe_fmt (pv 2)) (PJ.cons pe_str PJ.nil)))))))) pss_nil) (pss_cons (ps_if (pt_cmpR op_eq (pv 0) pe_str (nomark _)) (pss_one (ps_ret (pe_joined (PJ.cons pe_str (PJ.cons (pe_fmt (pe_ix ix_tup (pv 1) pe_int (fun _ _ => rfl))) (PJ.cons pe_str (PJ.cons (pe_fmt (pe_ix ix_tup (pv 1) pe_int (fun _ _ => rfl))) (PJ.cons pe_str PJ.nil)))))))) pss_nil) (pss_one (ps_ret (pe_ifExp (pt_cmpR op_eq (pv 0) pe_str (nomark _)) (pe_joined (PJ.cons pe_str (PJ.cons (pe_fmt (pv 1)) (PJ.cons pe_str PJ.nil)))) (pe_joined (PJ.cons pe_str (PJ.cons (pe_fmt (pv 1)) (PJ.cons pe_str PJ.nil)))))))))
theorem k_line_of (T : Tx K mg) {k k0 k1 : Nat} {sp_comprehension sp_call : Sp} (c_comprehension : C8.Cal P w K mg base k0 "comprehension" sp_comprehension []) (h0 : k0 + 2 ≤ k) (c_call : C8.Cal P w K mg base k1 "call" sp_call []) (h1 : k1 + 2 ≤ k) {f : Addr} {cdv : Value} {A : Around} {outer : List Env} {s : Shared} {H : Hp} {E : XK} (hr : Room k (A.deeper (envOfC "line_of" (defScope (top 37)) s.heap.objs.size f cdv))) :
    PSs (cxOf C8.CX0 P w K mg base ["kind", "detail", "now", "text"] "line_of" (defScope (top 37)) f cdv A outer s H E).nox (defBody (top 37)) (r_line_of K sp_comprehension sp_call) := by
  have nd : (["kind", "detail", "now", "text"] : List Str).Nodup := by decide +kernel
  exact (pss_cons (ps_if (pt_cmpR op_eq (pv 0) pe_str (nomark _)) (pss_one (ps_ret pe_str)) pss_nil) (pss_cons (ps_if (pt_cmpR op_in_seq (pv 0) (pe_glob (by rfl) T.g_LIST_KINDS rfl) (by rfl)) (pss_one (ps_ret (pe_ifExp (pt_cmpR op_eq (pv 0) pe_str (nomark _)) (pe_joined (PJ.cons pe_str (PJ.cons (pe_fmt (pv 1)) (PJ.cons pe_str PJ.nil)))) (pe_joined (PJ.cons pe_str (PJ.cons (pe_fmt (pv 1)) (PJ.cons pe_str PJ.nil))))))) pss_nil) (pss_cons (ps_if (pt_cmpR op_in_seq (pv 0) (pe_tup (pa_cons pe_str (pa_cons pe_str (pa_cons pe_str pa_nil)))) (by rfl)) (pss_cons (ps_set (i := 3) nd rfl (Or.inl rfl) (C8.pe_c c_comprehension hr (by omega) (by rfl) (pa_cons (pv 0) (pa_cons (pv 1) pa_nil)))) (pss_one (ps_ret (pe_ifExp (pt_val (pv 2)) (pe_joined (PJ.cons pe_str (PJ.cons (pe_fmt (pv 3)) (PJ.cons pe_str PJ.nil)))) (pe_joined (PJ.cons pe_str (PJ.cons (pe_fmt (pv 3)) (PJ.cons pe_str PJ.nil)))))))) pss_nil) (pss_cons (ps_set (i := 3) nd rfl (Or.inl rfl) (C8.pe_c c_call hr (by omega) (by rfl) (pa_cons (pv 0) (pa_cons (pv 1) pa_nil)))) (pss_one (ps_ret (pe_ifExp (pt_val (pv 2)) (pe_joined (PJ.cons pe_str (PJ.cons (pe_fmt (pv 3)) (PJ.cons pe_str PJ.nil)))) (pe_joined (PJ.cons pe_str (PJ.cons (pe_fmt (pv 3)) PJ.nil))))))))))
theorem k_Stage___init__ (T : Tx K mg) {k k0 : Nat} {sp_is_detail : Sp} (c_is_detail : C8.Cal P w K mg base k0 "is_detail" sp_is_detail []) (h0 : k0 + 2 ≤ k) {f : Addr} {cdv : Value} {A : Around} {outer : List Env} {s : Shared} {H : Hp} {E : XK} (hr : Room k (A.deeper (envOfC "Stage.__init__" (defScope (inClass (top 38) 0)) s.heap.objs.size f cdv))) :
    PSs (cxOf C8.CX0 P w K mg base ["self", "kind", "detail", "now"] "Stage.__init__" (defScope (inClass (top 38) 0)) f cdv A outer s H E).nox (defBody (inClass (top 38) 0)) (r_Stage___init__ K sp_is_detail) := by
  have nd : (["self", "kind", "detail", "now"] : List Str).Nodup := by decide +kernel
  exact (pss_cons (ps_if (PW.pt (pw_or (pt_not (pt_val (pe_callB call_isi (by rfl) T.f_isinstance (by decide +kernel) (pa_cons (pv 1) (pa_cons (pe_bltn (by rfl) T.f_str (by decide +kernel) rfl) pa_nil))))) (pw_or1 (pt_cmpR op_notIn_seq (pv 1) (pe_glob (by rfl) T.g_KINDS rfl) (by rfl))))) pss_never pss_nil) (pss_cons (ps_if (pt_not (pt_val (C8.pe_c c_is_detail hr (by omega) (by rfl) (pa_cons (pv 1) (pa_cons (pv 2) pa_nil))))) pss_never pss_nil) (pss_cons (ps_if (pt_not (pt_val (pe_callB call_isi (by rfl) T.f_isinstance (by decide +kernel) (pa_cons (pv 3) (pa_cons (pe_bltn (by rfl) T.f_bool (by decide +kernel) rfl) pa_nil))))) pss_never pss_nil) (pss_one (ps_fld (pv 0) (pe_tup (pa_cons (pv 1) (pa_cons (pv 2) (pa_cons (pe_or (pv 3) (pe_one (pe_cmpR op_in_seq (pv 1) (pe_glob (by rfl) T.g_LIST_KINDS rfl) (by rfl)))) pa_nil)))) rfl)))))
theorem k_Stage_kind (T : Tx K mg) {k : Nat} {f : Addr} {cdv : Value} {A : Around} {outer : List Env} {s : Shared} {H : Hp} {E : XK} (hr : Room k (A.deeper (envOfC "Stage.kind" (defScope (inClass (top 38) 1)) s.heap.objs.size f cdv))) :
    PSs (cxOf C8.CX0 P w K mg base ["self"] "Stage.kind" (defScope (inClass (top 38) 1)) f cdv A outer s H E).nox (defBody (inClass (top 38) 1)) (r_Stage_kind K) := by
  have nd : (["self"] : List Str).Nodup := by decide +kernel
  exact (pss_one (ps_ret (pe_ix ix_tup (pe_fld (pv 0) rfl) pe_int (fun _ _ => rfl))))
theorem k_Stage_detail (T : Tx K mg) {k : Nat} {f : Addr} {cdv : Value} {A : Around} {outer : List Env} {s : Shared} {H : Hp} {E : XK} (hr : Room k (A.deeper (envOfC "Stage.detail" (defScope (inClass (top 38) 2)) s.heap.objs.size f cdv))) :
    PSs (cxOf C8.CX0 P w K mg base ["self"] "Stage.detail" (defScope (inClass (top 38) 2)) f cdv A outer s H E).nox (defBody (inClass (top 38) 2)) (r_Stage_detail K) := by
  have nd : (["self"] : List Str).Nodup := by decide +kernel
  exact (pss_one (ps_ret (pe_ix ix_tup (pe_fld (pv 0) rfl) pe_int (fun _ _ => rfl))))
end
end CF

/-! text CfWalk1 -/
set_option Elab.async false
set_option linter.all false
set_option maxRecDepth 100000
set_option maxHeartbeats 4000000
/-! the walks (printed by emit.py) -/
namespace CF
open PySem PySem.Spec PyProof.Rows L2
section
variable {P : Program} {w : World} {K : PySem.W.Frag} {mg : Str → Option Value} {base : Heap}
theorem k_Stage_now (T : Tx K mg) {k : Nat} {f : Addr} {cdv : Value} {A : Around} {outer : List Env} {s : Shared} {H : Hp} {E : XK} (hr : Room k (A.deeper (envOfC "Stage.now" (defScope (inClass (top 38) 3)) s.heap.objs.size f cdv))) :
    PSs (cxOf C8.CX0 P w K mg base ["self"] "Stage.now" (defScope (inClass (top 38) 3)) f cdv A outer s H E).nox (defBody (inClass (top 38) 3)) (r_Stage_now K) := by
  have nd : (["self"] : List Str).Nodup := by decide +kernel
  exact (pss_one (ps_ret (pe_ix ix_tup (pe_fld (pv 0) rfl) pe_int (fun _ _ => rfl))))
theorem k_Stage___str__ (T : Tx K mg) {k k0 : Nat} {sp_line_of : Sp} (c_line_of : C8.Cal P w K mg base k0 "line_of" sp_line_of []) (h0 : k0 + 2 ≤ k) {f : Addr} {cdv : Value} {A : Around} {outer : List Env} {s : Shared} {H : Hp} {E : XK} (hr : Room k (A.deeper (envOfC "Stage.__str__" (defScope (inClass (top 38) 7)) s.heap.objs.size f cdv))) :
    PSs (cxOf C8.CX0 P w K mg base ["self"] "Stage.__str__" (defScope (inClass (top 38) 7)) f cdv A outer s H E).nox (defBody (inClass (top 38) 7)) (r_Stage___str__ K sp_line_of) := by
  have nd : (["self"] : List Str).Nodup := by decide +kernel
  exact (pss_one (ps_ret (pe_callTy SkE.call_str_str (by rfl) T.f_str (by decide +kernel) (pa_cons (C8.pe_c c_line_of hr (by omega) (by rfl) (pa_cons (pe_ix ix_tup (pe_fld (pv 0) rfl) pe_int (fun _ _ => rfl)) (pa_cons (pe_ix ix_tup (pe_fld (pv 0) rfl) pe_int (fun _ _ => rfl)) (pa_cons (pe_ix ix_tup (pe_fld (pv 0) rfl) pe_int (fun _ _ => rfl)) pa_nil)))) pa_nil))))
theorem k_Flow___init__ (T : Tx K mg) {k : Nat} {f : Addr} {cdv : Value} {A : Around} {outer : List Env} {s : Shared} {H : Hp} {E : XK} (hr : Room k (A.deeper (envOfC "Flow.__init__" (defScope (inClass (top 57) 0)) s.heap.objs.size f cdv))) :
    PSs (cxOf C8.CX0 P w K mg base ["self", "stages", "index", "stage"] "Flow.__init__" (defScope (inClass (top 57) 0)) f cdv A outer s H E).nox (defBody (inClass (top 57) 0)) (r_Flow___init__ K) := by
  have nd : (["self", "stages", "index", "stage"] : List Str).Nodup := by decide +kernel
  exact (pss_cons (ps_for PassesOwn.never rfl (pi_enumT (by rfl) T.f_enumerate (pa_cons (pv 1) pa_nil)) (pg_tup rfl (pgs_cons (pg_name (i := 2) nd rfl (Or.inl rfl)) (pgs_cons (pg_name (i := 3) nd rfl (Or.inl rfl)) pgs_nil))) (pss_one (ps_if (PW.pt (pw_or (pt_cmpR op_ge (pv 2) (C8.pe_gc (by rfl) (glI T.i_MOST_STAGES)) (nomark _)) (pw_or1 (pt_not (pt_val (pe_callB call_isi (by rfl) T.f_isinstance (by decide +kernel) (pa_cons (pv 3) (pa_cons (pe_glob (by rfl) T.g_Stage rfl) pa_nil)))))))) pss_never pss_nil))) (pss_one (ps_fld (pv 0) (pv 1) rfl)))
theorem k_Flow_of (T : Tx K mg) {k k0 : Nat} {sp_Flow : Sp} (F_Flow : FnR P w K mg base C8.CX0 k0 (He.ma K (He.ga K "Flow") "__init__") sp_Flow) (h0 : k0 + 2 ≤ k) {f : Addr} {cdv : Value} {A : Around} {outer : List Env} {s : Shared} {H : Hp} {E : XK} (hr : Room k (A.deeper (envOfC "Flow.of" (defScope (inClass (top 57) 1)) s.heap.objs.size f cdv))) :
    PSs (cxOf C8.CX0 P w K mg base ["cls", "stages"] "Flow.of" (defScope (inClass (top 57) 1)) f cdv A outer s H E).nox (defBody (inClass (top 57) 1)) (r_Flow_of K sp_Flow) := by
  have nd : (["cls", "stages"] : List Str).Nodup := by decide +kernel
  exact (pss_cons (ps_if (pt_not (pt_val (pe_callB call_isi (by rfl) T.f_isinstance (by decide +kernel) (pa_cons (pv 1) (pa_cons (pe_bltn (by rfl) T.f_tuple (by decide +kernel) rfl) pa_nil))))) pss_never pss_nil) (pss_one (ps_ret (pe_makeV1 (i := 0) T.mk_Flow F_Flow (hr.mono (by omega)) C8.pass0 rfl (Or.inl rfl) (pv 1)))))
theorem k_Flow_stages (T : Tx K mg) {k : Nat} {f : Addr} {cdv : Value} {A : Around} {outer : List Env} {s : Shared} {H : Hp} {E : XK} (hr : Room k (A.deeper (envOfC "Flow.stages" (defScope (inClass (top 57) 3)) s.heap.objs.size f cdv))) :
    PSs (cxOf C8.CX0 P w K mg base ["self"] "Flow.stages" (defScope (inClass (top 57) 3)) f cdv A outer s H E).nox (defBody (inClass (top 57) 3)) (r_Flow_stages K) := by
  have nd : (["self"] : List Str).Nodup := by decide +kernel
  exact (pss_one (ps_ret (pe_fld (pv 0) rfl)))
theorem k_Flow_atoms (T : Tx K mg) {k k0 k1 : Nat} {sp_Stage_kind sp_Stage_detail : Sp} (c_Stage_kind : Gtr P w K mg base k0 (He.ga K "Stage") "kind" sp_Stage_kind) (h0 : k0 + 2 ≤ k) (c_Stage_detail : Gtr P w K mg base k1 (He.ga K "Stage") "detail" sp_Stage_detail) (h1 : k1 + 2 ≤ k) {f : Addr} {cdv : Value} {A : Around} {outer : List Env} {s : Shared} {H : Hp} {E : XK} (hr : Room k (A.deeper (envOfC "Flow.atoms" (defScope (inClass (top 57) 7)) s.heap.objs.size f cdv))) :
    PSs (cxOf C8.CX0 P w K mg base ["self", "found", "word", "stage"] "Flow.atoms" (defScope (inClass (top 57) 7)) f cdv A outer s H E).nox (defBody (inClass (top 57) 7)) (r_Flow_atoms K sp_Stage_kind sp_Stage_detail) := by
  have nd : (["self", "found", "word", "stage"] : List Str).Nodup := by decide +kernel
  exact (pss_cons (ps_asg (pe_tup (pa_cons (pe_tup pa_nil) (pa_cons (pe_tup pa_nil) pa_nil))) (pg_tup rfl (pgs_cons (pg_name (i := 1) nd rfl (Or.inl rfl)) (pgs_cons (pg_name (i := 2) nd rfl (Or.inl rfl)) pgs_nil)))) (pss_cons (ps_for PassesOwn.never rfl (pi_tup (pe_fld (pv 0) rfl)) (pg_name (i := 3) nd rfl (Or.inl rfl)) (pss_cons (ps_if (pt_cmpR op_eq (pe_gt c_Stage_kind hr (by omega) (pv 3)) pe_str (nomark _)) (pss_one (ps_set (i := 2) nd rfl (Or.inl rfl) (pe_op op_catA (pe_gt c_Stage_detail hr (by omega) (pv 3)) (pv 2)))) pss_nil) (pss_one (ps_if (PW.pt (pw_and (pt_cmpR op_in_seq (pe_gt c_Stage_kind hr (by omega) (pv 3)) (pe_glob (by rfl) T.g_TESTED rfl) (by rfl)) (pw_and1 (pt_cmpR (op_notInDT (hu65 hr)) (pe_op op_catA (pe_gt c_Stage_detail hr (by omega) (pv 3)) (pv 2)) (pv 1) (by rfl))))) (pss_one (ps_set (i := 1) nd rfl (Or.inl rfl) (pe_tup (StX.pa_star (pv 1) (pa_cons (pe_op op_catA (pe_gt c_Stage_detail hr (by omega) (pv 3)) (pv 2)) pa_nil))))) pss_nil)))) (pss_one (ps_ret (pv 1)))))
theorem k_Flow___str__ (T : Tx K mg) {k k0 : Nat} {sp_str_Stage : Sp} (F_str_Stage : FnR P w K mg base C8.CX0 k0 (He.ma K (He.ga K "Stage") "__str__") sp_str_Stage) (h0 : k0 + 2 ≤ k) {f : Addr} {cdv : Value} {A : Around} {outer : List Env} {s : Shared} {H : Hp} {E : XK} (hr : Room k (A.deeper (envOfC "Flow.__str__" (defScope (inClass (top 57) 14)) s.heap.objs.size f cdv))) :
    PSs (cxOf C8.CX0 P w K mg base ["self", "stage"] "Flow.__str__" (defScope (inClass (top 57) 14)) f cdv A outer s H E).nox (defBody (inClass (top 57) 14)) (r_Flow___str__ K sp_str_Stage) := by
  have nd : (["self", "stage"] : List Str).Nodup := by decide +kernel
  exact (pss_one (ps_ret (pe_join pe_str (pe_lst (StX.pa_star (pe_lc (own := [("stage", 1)]) (g := gName 1) (tt := tYes) rfl nd (pi_tup (pe_fld (pv 0) rfl)) (blkOk_by (N := ["self", "stage"]) (sc := defScope (inClass (top 57) 14)) (by decide +kernel)) (fun _ _ _ _ _ => (pg_name (i := 1) nd rfl (Or.inl rfl))) (fun _ _ _ _ _ => pts_nil) (fun _ _ _ _ _ => (pe_callTy (call_strOwn T.str_Stage.1 T.str_Stage.2 F_str_Stage (hr.mono (by omega)) C8.pass0) (by rfl) T.f_str (by decide +kernel) (pa_cons (pv 1) pa_nil)))) (pa_cons (C8.pe_gc (by rfl) (glS T.s_LAST_LINE)) pa_nil))))))
theorem k_check_flow (T : Tx K mg) {k : Nat} {f : Addr} {cdv : Value} {A : Around} {outer : List Env} {s : Shared} {H : Hp} {E : XK} (hr : Room k (A.deeper (envOfC "check_flow" (defScope (top 58)) s.heap.objs.size f cdv))) :
    PSs (cxOf C8.CX0 P w K mg base ["value"] "check_flow" (defScope (top 58)) f cdv A outer s H E).nox (defBody (top 58)) (r_check_flow K) := by
  have nd : (["value"] : List Str).Nodup := by decide +kernel
  exact (pss_one (ps_if (pt_not (pt_val (pe_callB call_isi (by rfl) T.f_isinstance (by decide +kernel) (pa_cons (pv 0) (pa_cons (pe_glob (by rfl) T.g_Flow rfl) pa_nil))))) pss_never pss_nil))
theorem k_parts_of (T : Tx K mg) {k k0 k1 k2 : Nat} {sp_Flow_stages sp_Stage_kind sp_Stage_now : Sp} (c_Flow_stages : Gtr P w K mg base k0 (He.ga K "Flow") "stages" sp_Flow_stages) (h0 : k0 + 2 ≤ k) (c_Stage_kind : Gtr P w K mg base k1 (He.ga K "Stage") "kind" sp_Stage_kind) (h1 : k1 + 2 ≤ k) (c_Stage_now : Gtr P w K mg base k2 (He.ga K "Stage") "now" sp_Stage_now) (h2 : k2 + 2 ≤ k) {f : Addr} {cdv : Value} {A : Around} {outer : List Env} {s : Shared} {H : Hp} {E : XK} (hr : Room k (A.deeper (envOfC "parts_of" (defScope (top 61)) s.heap.objs.size f cdv))) :
    PSs (cxOf C8.CX0 P w K mg base ["flow", "found", "part", "stage", "one"] "parts_of" (defScope (top 61)) f cdv A outer s H E).nox (defBody (top 61)) (r_parts_of K sp_Flow_stages sp_Stage_kind sp_Stage_now) := by
  have nd : (["flow", "found", "part", "stage", "one"] : List Str).Nodup := by decide +kernel
  exact (pss_cons (ps_par (i := 1) (j := 2) rfl nd rfl rfl (by decide) rfl rfl (pa_cons (pe_lst pa_nil) (pa_cons (pe_lst pa_nil) pa_nil)) (by rfl)) (pss_cons (ps_for PassesOwn.never rfl (pi_tup (pe_gt c_Flow_stages hr (by omega) (pv 0))) (pg_name (i := 3) nd rfl (Or.inl rfl)) (pss_one (ps_if (pt_cmpR op_in_seq (pe_gt c_Stage_kind hr (by omega) (pv 3)) (pe_glob (by rfl) T.g_LIST_KINDS rfl) (by rfl)) (pss_cons (ps_aug (i := 1) nd rfl (Or.inl rfl) (pe_lst (pa_cons (pv 2) (pa_cons (pe_lst (pa_cons (pv 3) pa_nil)) pa_nil))) pip_ext) (pss_one (ps_set (i := 2) nd rfl (Or.inl rfl) (pe_lst pa_nil)))) (pss_cons (ps_set (i := 2) nd rfl (Or.inl rfl) (pe_op op_cat (pv 2) (pe_lst (pa_cons (pv 3) pa_nil)))) (pss_one (ps_if (pt_val (pe_gt c_Stage_now hr (by omega) (pv 3))) (pss_cons (ps_expr (pe_bm PySem.F.plainAttrs_list PySem.F.slot_list_append PySem.F.type_list_append mt_append (pv 1) (pa_cons (pv 2) pa_nil))) (pss_one (ps_set (i := 2) nd rfl (Or.inl rfl) (pe_lst pa_nil)))) pss_nil)))))) (pss_cons (ps_expr (pe_bm PySem.F.plainAttrs_list PySem.F.slot_list_append PySem.F.type_list_append mt_append (pv 1) (pa_cons (pv 2) pa_nil))) (pss_one (ps_ret (pe_lc (own := [("one", 4)]) (g := gName 4) (tt := tTest (tOp rGtI (tCB (rLen K) (tCons (tVar 4) tNil)) (tC (.int 0)))) rfl nd (pi_list (pv 1)) (blkOk_by (N := ["flow", "found", "part", "stage", "one"]) (sc := defScope (top 61)) (by decide +kernel)) (fun _ _ _ _ _ => (pg_name (i := 4) nd rfl (Or.inl rfl))) (fun _ _ _ _ _ => (pts_one (pt_cmpR op_gt (pe_callB call_len (by rfl) T.f_len (by decide +kernel) (pa_cons (pv 4) pa_nil)) pe_int (nomark _)))) (fun _ _ _ _ _ => (pv 4))))))))
theorem k_left_of (T : Tx K mg) {k k0 k1 : Nat} {sp_Stage_kind sp_Stage_detail : Sp} (c_Stage_kind : Gtr P w K mg base k0 (He.ga K "Stage") "kind" sp_Stage_kind) (h0 : k0 + 2 ≤ k) (c_Stage_detail : Gtr P w K mg base k1 (He.ga K "Stage") "detail" sp_Stage_detail) (h1 : k1 + 2 ≤ k) {f : Addr} {cdv : Value} {A : Around} {outer : List Env} {s : Shared} {H : Hp} {E : XK} (hr : Room k (A.deeper (envOfC "left_of" (defScope (top 62)) s.heap.objs.size f cdv))) :
    PSs (cxOf C8.CX0 P w K mg base ["stage", "values", "many"] "left_of" (defScope (top 62)) f cdv A outer s H E).nox (defBody (top 62)) (r_left_of K sp_Stage_kind sp_Stage_detail) := by
  have nd : (["stage", "values", "many"] : List Str).Nodup := by decide +kernel
  exact (pss_cons (ps_if (pt_cmpR op_eq (pe_gt c_Stage_kind hr (by omega) (pv 0)) pe_str (nomark _)) (pss_one (ps_ret (pe_revL (pv 1)))) pss_nil) (pss_cons (ps_set (i := 2) nd rfl (Or.inl rfl) (pe_callB (call_max2 rfl) (by rfl) T.f_max (by decide +kernel) (pa_cons pe_int (pa_cons (pe_op op_sub (pe_callB call_len (by rfl) T.f_len (by decide +kernel) (pa_cons (pv 1) pa_nil)) (pe_gt c_Stage_detail hr (by omega) (pv 0))) pa_nil)))) (pss_one (ps_ret (pe_ifExp (pt_cmpR op_eq (pe_gt c_Stage_kind hr (by omega) (pv 0)) pe_str (nomark _)) (pe_slice sl_list (pv 1) (po_some (pv 2)) po_none) (pe_slice sl_list (pv 1) po_none (po_some (pv 2))))))))
theorem k_is_counted_in (T : Tx K mg) {k : Nat} {f : Addr} {cdv : Value} {A : Around} {outer : List Env} {s : Shared} {H : Hp} {E : XK} (hr : Room k (A.deeper (envOfC "is_counted_in" (defScope (top 63)) s.heap.objs.size f cdv))) :
    PSs (cxOf C8.CX0 P w K mg base ["kind", "detail", "seen", "period", "start"] "is_counted_in" (defScope (top 63)) f cdv A outer s H E).nox (defBody (top 63)) (r_is_counted_in K) := by
  have nd : (["kind", "detail", "seen", "period", "start"] : List Str).Nodup := by decide +kernel
  exact (pss_cons (ps_if (pt_cmpR op_eq (pv 0) pe_str (nomark _)) (pss_one (ps_ret (pe_cmpR op_le (pv 2) (pv 1) (nomark _)))) pss_nil) (pss_cons (ps_if (pt_cmpR op_eq (pv 0) pe_str (nomark _)) (pss_one (ps_ret (pe_cmpR op_gt (pv 2) (pv 1) (nomark _)))) pss_nil) (pss_cons (ps_asg (pv 1) (pg_tup rfl (pgs_cons (pg_name (i := 3) nd rfl (Or.inl rfl)) (pgs_cons (pg_name (i := 4) nd rfl (Or.inl rfl)) pgs_nil)))) (pss_one (ps_ret (pe_and (pe_cmpR op_gt (pv 2) (pv 4) (nomark _)) (pe_one (pe_cmpR op_eq (pe_op op_mod (pe_op op_sub (pe_op op_sub (pv 2) pe_int) (pv 4)) (pv 3)) pe_int (nomark _)))))))))
theorem k_Gate___init__ (T : Tx K mg) {k : Nat} {f : Addr} {cdv : Value} {A : Around} {outer : List Env} {s : Shared} {H : Hp} {E : XK} (hr : Room k (A.deeper (envOfC "Gate.__init__" (defScope (inClass (top 64) 0)) s.heap.objs.size f cdv))) :
    PSs (cxOf C8.CX0 P w K mg base ["self", "stage"] "Gate.__init__" (defScope (inClass (top 64) 0)) f cdv A outer s H E).nox (defBody (inClass (top 64) 0)) (r_Gate___init__ K) := by
  have nd : (["self", "stage"] : List Str).Nodup := by decide +kernel
  exact (pss_cons (ps_fld (pv 0) (pv 1) rfl) (pss_cons (ps_fld (pv 0) pe_int rfl) (pss_one (ps_fld (pv 0) pe_bl rfl))))
theorem k_Gate_passed (T : Tx K mg) {k k0 k1 k2 k3 k4 : Nat} {sp_Stage_detail sp_Stage_kind sp_Teller_behind sp_is_counted_in sp_Teller_is_true : Sp} (c_Stage_detail : Gtr P w K mg base k0 (He.ga K "Stage") "detail" sp_Stage_detail) (h0 : k0 + 2 ≤ k) (c_Stage_kind : Gtr P w K mg base k1 (He.ga K "Stage") "kind" sp_Stage_kind) (h1 : k1 + 2 ≤ k) (c_Teller_behind : C8.Met P w K mg base k2 (He.ga K "Teller") "behind" sp_Teller_behind []) (h2 : k2 + 2 ≤ k) (c_is_counted_in : C8.Cal P w K mg base k3 "is_counted_in" sp_is_counted_in []) (h3 : k3 + 2 ≤ k) (c_Teller_is_true : C8.Met P w K mg base k4 (He.ga K "Teller") "is_true" sp_Teller_is_true []) (h4 : k4 + 2 ≤ k) {f : Addr} {cdv : Value} {A : Around} {outer : List Env} {s : Shared} {H : Hp} {E : XK} (hr : Room k (A.deeper (envOfC "Gate.passed" (defScope (inClass (top 64) 1)) s.heap.objs.size f cdv))) :
    PSs (cxOf C8.CX0 P w K mg base ["self", "value", "caller", "kind", "detail", "truth"] "Gate.passed" (defScope (inClass (top 64) 1)) f cdv A outer s H E).nox (defBody (inClass (top 64) 1)) (r_Gate_passed K sp_Stage_detail sp_Stage_kind sp_Teller_behind sp_is_counted_in sp_Teller_is_true) := by
  have nd : (["self", "value", "caller", "kind", "detail", "truth"] : List Str).Nodup := by decide +kernel
  exact (pss_cons (ps_par (i := 3) (j := 4) rfl nd rfl rfl (by decide) rfl rfl (pa_cons (pe_gt c_Stage_kind hr (by omega) (pe_fld (pv 0) rfl)) (pa_cons (pe_gt c_Stage_detail hr (by omega) (pe_fld (pv 0) rfl)) pa_nil)) (by rfl)) (pss_cons (ps_fldaug (pv 0) pe_int in_add) (pss_cons (ps_if (pt_cmpR op_eq (pv 3) pe_str (nomark _)) (pss_one (ps_ret (pe_tup (pa_cons (C8.pe_mt c_Teller_behind hr (by omega) (pv 2) (pa_cons (pv 4) (pa_cons (pv 1) pa_nil))) (pa_cons pe_bl (pa_cons pe_bl pa_nil)))))) pss_nil) (pss_cons (ps_if (pt_cmpR op_in_seq (pv 3) (pe_glob (by rfl) T.g_COUNTED rfl) (by rfl)) (pss_one (ps_ret (pe_tup (pa_cons (pv 1) (pa_cons (C8.pe_c c_is_counted_in hr (by omega) (by rfl) (pa_cons (pv 3) (pa_cons (pv 4) (pa_cons (pe_fld (pv 0) rfl) pa_nil)))) (pa_cons (pe_and (pe_cmpR op_eq (pv 3) pe_str (nomark _)) (pe_one (pe_cmpR op_eq (pe_fld (pv 0) rfl) (pv 4) (nomark _)))) pa_nil)))))) pss_nil) (pss_cons (ps_if (pt_val (pe_fld (pv 0) rfl)) (pss_one (ps_ret (pe_tup (pa_cons (pv 1) (pa_cons pe_bl (pa_cons pe_bl pa_nil)))))) pss_nil) (pss_cons (ps_set (i := 5) nd rfl (Or.inl rfl) (C8.pe_mt c_Teller_is_true hr (by omega) (pv 2) (pa_cons (pv 4) (pa_cons (pv 1) pa_nil)))) (pss_cons (ps_if (pt_cmpR op_eq (pv 3) pe_str (nomark _)) (pss_cons (ps_fld (pv 0) (pe_not (pv 5)) rfl) (pss_one (ps_ret (pe_tup (pa_cons (pv 1) (pa_cons (pe_not (pv 5)) (pa_cons pe_bl pa_nil))))))) pss_nil) (pss_one (ps_ret (pe_tup (pa_cons (pv 1) (pa_cons (pe_cmpR op_eq (pv 5) (pe_cmpR op_ne (pv 3) pe_str (nomark _)) (nomark _)) (pa_cons (pe_and (pe_cmpR op_eq (pv 3) pe_str (nomark _)) (pe_one (pe_not (pv 5)))) pa_nil)))))))))))))
theorem k_played_part (T : Tx K mg) {k k0 k1 k2 k3 : Nat} {sp_Gate sp_Stage_kind sp_Stage_detail sp_Gate_passed : Sp} (c_Gate : C8.Mak P w K mg base k0 "Gate" (He.ga K "Gate") sp_Gate []) (h0 : k0 + 2 ≤ k) (c_Stage_kind : Gtr P w K mg base k1 (He.ga K "Stage") "kind" sp_Stage_kind) (h1 : k1 + 2 ≤ k) (c_Stage_detail : Gtr P w K mg base k2 (He.ga K "Stage") "detail" sp_Stage_detail) (h2 : k2 + 2 ≤ k) (c_Gate_passed : C8.Met P w K mg base k3 (He.ga K "Gate") "passed" sp_Gate_passed []) (h3 : k3 + 2 ≤ k) {f : Addr} {cdv : Value} {A : Around} {outer : List Env} {s : Shared} {H : Hp} {E : XK} (hr : Room k (A.deeper (envOfC "played_part" (defScope (top 65)) s.heap.objs.size f cdv))) :
    PSs (cxOf C8.CX0 P w K mg base ["stages", "values", "caller", "gates", "left", "value", "now", "goes", "is_over", "gate", "ends", "stage"] "played_part" (defScope (top 65)) f cdv A outer s H E).nox (defBody (top 65)) (r_played_part K sp_Gate sp_Stage_kind sp_Stage_detail sp_Gate_passed) := by
  have nd : (["stages", "values", "caller", "gates", "left", "value", "now", "goes", "is_over", "gate", "ends", "stage"] : List Str).Nodup := by decide +kernel
  exact (pss_cons (ps_par (i := 3) (j := 4) rfl nd rfl rfl (by decide) rfl rfl (pa_cons (pe_lc (own := [("stage", 11)]) (g := gName 11) (tt := tYes) rfl nd (pi_list (pv 0)) (blkOk_by (N := ["stages", "values", "caller", "gates", "left", "value", "now", "goes", "is_over", "gate", "ends", "stage"]) (sc := defScope (top 65)) (by decide +kernel)) (fun _ _ _ _ _ => (pg_name (i := 11) nd rfl (Or.inl rfl))) (fun _ _ _ _ _ => pts_nil) (fun _ _ _ _ _ => (C8.pe_mk c_Gate hr (by omega) (by rfl) (pa_cons (pv 11) pa_nil)))) (pa_cons (pe_lst pa_nil) pa_nil)) (by rfl)) (pss_cons (ps_if (pt_val (pe_callB (cr_any rfl) (by rfl) T.f_any (by decide +kernel) (pa_cons (pe_lc (own := [("stage", 11)]) (g := gName 11) (tt := tYes) rfl nd (pi_list (pv 0)) (blkOk_by (N := ["stages", "values", "caller", "gates", "left", "value", "now", "goes", "is_over", "gate", "ends", "stage"]) (sc := defScope (top 65)) (by decide +kernel)) (fun _ _ _ _ _ => (pg_name (i := 11) nd rfl (Or.inl rfl))) (fun _ _ _ _ _ => pts_nil) (fun _ _ _ _ _ => (pe_and (pe_cmpR op_eq (pe_gt c_Stage_kind hr (by omega) (pv 11)) pe_str (nomark _)) (pe_one (pe_cmpR op_eq (pe_gt c_Stage_detail hr (by omega) (pv 11)) pe_int (nomark _)))))) pa_nil))) (pss_one (ps_ret (pv 4))) pss_nil) (pss_cons (ps_for PassesOwn.never rfl (pi_list (pv 1)) (pg_name (i := 5) nd rfl (Or.inl rfl)) (pss_cons (ps_par3 (i := 6) (j := 7) (l := 8) rfl nd rfl rfl rfl (by decide) (by decide) (by decide) rfl rfl rfl (pa_cons (pv 5) (pa_cons pe_bl (pa_cons pe_bl pa_nil))) (by rfl)) (pss_cons (ps_for PassesOwn.never rfl (pi_list (pv 3)) (pg_name (i := 9) nd rfl (Or.inl rfl)) (pss_one (ps_if (pt_val (pv 7)) (pss_cons (ps_asg (C8.pe_mt c_Gate_passed hr (by omega) (pv 9) (pa_cons (pv 6) (pa_cons (pv 2) pa_nil))) (pg_tup rfl (pgs_cons (pg_name (i := 6) nd rfl (Or.inl rfl)) (pgs_cons (pg_name (i := 7) nd rfl (Or.inl rfl)) (pgs_cons (pg_name (i := 10) nd rfl (Or.inl rfl)) pgs_nil))))) (pss_one (ps_set (i := 8) nd rfl (Or.inl rfl) (pe_or (pv 8) (pe_one (pv 10)))))) pss_nil))) (pss_cons (ps_if (pt_val (pv 7)) (pss_one (ps_expr (pe_bm PySem.F.plainAttrs_list PySem.F.slot_list_append PySem.F.type_list_append mt_append (pv 4) (pa_cons (pv 6) pa_nil)))) pss_nil) (pss_one (ps_if (pt_val (pv 8)) (pss_one ps_break) pss_nil)))))) (pss_one (ps_ret (pv 4))))))
end
end CF

/-! text CfWalk2 -/
set_option Elab.async false
set_option linter.all false
set_option maxRecDepth 100000
set_option maxHeartbeats 4000000
/-! the walks (printed by emit.py) -/
namespace CF
open PySem PySem.Spec PyProof.Rows L2
section
variable {P : Program} {w : World} {K : PySem.W.Frag} {mg : Str → Option Value} {base : Heap}
theorem k_played (T : Tx K mg) {k k0 k1 k2 k3 : Nat} {sp_parts_of sp_Stage_kind sp_left_of sp_played_part : Sp} (c_parts_of : C8.Cal P w K mg base k0 "parts_of" sp_parts_of []) (h0 : k0 + 2 ≤ k) (c_Stage_kind : Gtr P w K mg base k1 (He.ga K "Stage") "kind" sp_Stage_kind) (h1 : k1 + 2 ≤ k) (c_left_of : C8.Cal P w K mg base k2 "left_of" sp_left_of []) (h2 : k2 + 2 ≤ k) (c_played_part : C8.Cal P w K mg base k3 "played_part" sp_played_part []) (h3 : k3 + 2 ≤ k) {f : Addr} {cdv : Value} {A : Around} {outer : List Env} {s : Shared} {H : Hp} {E : XK} (hr : Room k (A.deeper (envOfC "played" (defScope (top 66)) s.heap.objs.size f cdv))) :
    PSs (cxOf C8.CX0 P w K mg base ["flow", "values", "caller", "left", "part"] "played" (defScope (top 66)) f cdv A outer s H E).nox (defBody (top 66)) (r_played K sp_parts_of sp_Stage_kind sp_left_of sp_played_part) := by
  have nd : (["flow", "values", "caller", "left", "part"] : List Str).Nodup := by decide +kernel
  exact (pss_cons (ps_set (i := 3) nd rfl (Or.inl rfl) (pe_callTy call_list_of (by rfl) T.f_list (by decide +kernel) (pa_cons (pv 1) pa_nil))) (pss_cons (ps_for PassesOwn.never rfl (pi_list (C8.pe_c c_parts_of hr (by omega) (by rfl) (pa_cons (pv 0) pa_nil))) (pg_name (i := 4) nd rfl (Or.inl rfl)) (pss_one (ps_set (i := 3) nd rfl (Or.inl rfl) (pe_ifExp (pt_cmpR op_in_seq (pe_gt c_Stage_kind hr (by omega) (pe_ix ix_list (pv 4) pe_int (fun _ _ => rfl))) (pe_glob (by rfl) T.g_LIST_KINDS rfl) (by rfl)) (C8.pe_c c_left_of hr (by omega) (by rfl) (pa_cons (pe_ix ix_list (pv 4) pe_int (fun _ _ => rfl)) (pa_cons (pv 3) pa_nil))) (C8.pe_c c_played_part hr (by omega) (by rfl) (pa_cons (pv 4) (pa_cons (pv 3) (pa_cons (pv 2) pa_nil)))))))) (pss_one (ps_ret (pv 3)))))
theorem k_check_atoms (T : Tx K mg) {k k0 : Nat} {sp_are_names : Sp} (c_are_names : C8.Cal P w K mg base k0 "are_names" sp_are_names []) (h0 : k0 + 2 ≤ k) {f : Addr} {cdv : Value} {A : Around} {outer : List Env} {s : Shared} {H : Hp} {E : XK} (hr : Room k (A.deeper (envOfC "check_atoms" (defScope (top 70)) s.heap.objs.size f cdv))) :
    PSs (cxOf C8.CX0 P w K mg base ["atoms", "index", "atom"] "check_atoms" (defScope (top 70)) f cdv A outer s H E).nox (defBody (top 70)) (r_check_atoms K sp_are_names) := by
  have nd : (["atoms", "index", "atom"] : List Str).Nodup := by decide +kernel
  exact (pss_cons (ps_if (pt_not (pt_val (pe_callB call_isi (by rfl) T.f_isinstance (by decide +kernel) (pa_cons (pv 0) (pa_cons (pe_bltn (by rfl) T.f_tuple (by decide +kernel) rfl) pa_nil))))) pss_never pss_nil) (pss_one (ps_for PassesOwn.never rfl (pi_enumT (by rfl) T.f_enumerate (pa_cons (pv 0) pa_nil)) (pg_tup rfl (pgs_cons (pg_name (i := 1) nd rfl (Or.inl rfl)) (pgs_cons (pg_name (i := 2) nd rfl (Or.inl rfl)) pgs_nil))) (pss_one (ps_if (PW.pt (pw_or (pt_cmpR op_eq (pv 1) (C8.pe_gc (by rfl) (glI T.i_MOST_WORLD_ATOMS)) (nomark _)) (pw_or (pt_not (pt_val (C8.pe_c c_are_names hr (by omega) (by rfl) (pa_cons (pv 2) (pa_cons pe_int (pa_cons (C8.pe_gc (by rfl) (glI T.i_MOST_ATOM_NAMES)) pa_nil)))))) (pw_or1 (pt_cmpR (op_inDT (hu65 hr)) (pv 2) (pe_slice sl_tupA (pv 0) po_none (po_some (pv 1))) (by rfl)))))) pss_never pss_nil)))))
theorem k_is_row (T : Tx K mg) {k : Nat} {f : Addr} {cdv : Value} {A : Around} {outer : List Env} {s : Shared} {H : Hp} {E : XK} (hr : Room k (A.deeper (envOfC "is_row" (defScope (top 71)) s.heap.objs.size f cdv))) :
    PSs (cxOf C8.CX0 P w K mg base ["value", "many", "truth"] "is_row" (defScope (top 71)) f cdv A outer s H E).nox (defBody (top 71)) (r_is_row K) := by
  have nd : (["value", "many", "truth"] : List Str).Nodup := by decide +kernel
  exact (pss_one (ps_ret (pe_and (pe_callB call_isi (by rfl) T.f_isinstance (by decide +kernel) (pa_cons (pv 0) (pa_cons (pe_bltn (by rfl) T.f_tuple (by decide +kernel) rfl) pa_nil))) (pe_and (pe_cmpR op_eq (pe_callB call_len (by rfl) T.f_len (by decide +kernel) (pa_cons (pv 0) pa_nil)) (pv 1) (nomark _)) (pe_one (pe_callB (cr_all rfl) (by rfl) T.f_all (by decide +kernel) (pa_cons (pe_lc (own := [("truth", 2)]) (g := gName 2) (tt := tYes) rfl nd (pi_tup (pv 0)) (blkOk_by (N := ["value", "many", "truth"]) (sc := defScope (top 71)) (by decide +kernel)) (fun _ _ _ _ _ => (pg_name (i := 2) nd rfl (Or.inl rfl))) (fun _ _ _ _ _ => pts_nil) (fun _ _ _ _ _ => (pe_callB call_isi (by rfl) T.f_isinstance (by decide +kernel) (pa_cons (pv 2) (pa_cons (pe_bltn (by rfl) T.f_bool (by decide +kernel) rfl) pa_nil))))) pa_nil)))))))
theorem k_check_rows (T : Tx K mg) {k k0 : Nat} {sp_is_row : Sp} (c_is_row : C8.Cal P w K mg base k0 "is_row" sp_is_row []) (h0 : k0 + 2 ≤ k) {f : Addr} {cdv : Value} {A : Around} {outer : List Env} {s : Shared} {H : Hp} {E : XK} (hr : Room k (A.deeper (envOfC "check_rows" (defScope (top 72)) s.heap.objs.size f cdv))) :
    PSs (cxOf C8.CX0 P w K mg base ["rows", "many", "index", "row"] "check_rows" (defScope (top 72)) f cdv A outer s H E).nox (defBody (top 72)) (r_check_rows K sp_is_row) := by
  have nd : (["rows", "many", "index", "row"] : List Str).Nodup := by decide +kernel
  exact (pss_cons (ps_if (pt_not (pt_val (pe_callB call_isi (by rfl) T.f_isinstance (by decide +kernel) (pa_cons (pv 0) (pa_cons (pe_bltn (by rfl) T.f_tuple (by decide +kernel) rfl) pa_nil))))) pss_never pss_nil) (pss_one (ps_for PassesOwn.never rfl (pi_enumT (by rfl) T.f_enumerate (pa_cons (pv 0) pa_nil)) (pg_tup rfl (pgs_cons (pg_name (i := 2) nd rfl (Or.inl rfl)) (pgs_cons (pg_name (i := 3) nd rfl (Or.inl rfl)) pgs_nil))) (pss_one (ps_if (pt_not (pt_val (C8.pe_c c_is_row hr (by omega) (by rfl) (pa_cons (pv 3) (pa_cons (pv 1) pa_nil))))) pss_never pss_nil)))))
theorem k_term_of (T : Tx K mg) {k k0 : Nat} {sp_applied : Sp} (c_applied : C8.Cal P w K mg base k0 "applied" sp_applied []) (h0 : k0 + 2 ≤ k) {f : Addr} {cdv : Value} {A : Around} {outer : List Env} {s : Shared} {H : Hp} {E : XK} (hr : Room k (A.deeper (envOfC "term_of" (defScope (top 73)) s.heap.objs.size f cdv))) :
    PSs (cxOf C8.CX0 P w K mg base ["index", "word"] "term_of" (defScope (top 73)) f cdv A outer s H E).nox (defBody (top 73)) (r_term_of K sp_applied) := by
  have nd : (["index", "word"] : List Str).Nodup := by decide +kernel
  exact (pss_one (ps_ret (C8.pe_c c_applied hr (by omega) (by rfl) (pa_cons (pv 1) (pa_cons (pe_joined (PJ.cons pe_str (PJ.cons (pe_fmt (pv 0)) PJ.nil))) pa_nil)))))
theorem k_Teller___init__ (T : Tx K mg) {k : Nat} {f : Addr} {cdv : Value} {A : Around} {outer : List Env} {s : Shared} {H : Hp} {E : XK} (hr : Room k (A.deeper (envOfC "Teller.__init__" (defScope (inClass (top 74) 0)) s.heap.objs.size f cdv))) :
    PSs (cxOf C8.CX0 P w K mg base ["self", "atoms", "rows", "atom", "place"] "Teller.__init__" (defScope (inClass (top 74) 0)) f cdv A outer s H E).nox (defBody (inClass (top 74) 0)) (r_Teller___init__ K) := by
  have nd : (["self", "atoms", "rows", "atom", "place"] : List Str).Nodup := by decide +kernel
  exact (pss_cons (ps_fld (pv 0) (pv 2) rfl) (pss_cons (ps_fld (pv 0) (pe_dcT (own := [("place", 4), ("atom", 3)]) (g := gTup K 2 (gCons (gName 4) (gCons (gName 3) gNil))) (tt := tYes) (hu_of hr) rfl nd (pi_enumT (by rfl) T.f_enumerate (pa_cons (pv 1) pa_nil)) (blkOk_by (N := ["self", "atoms", "rows", "atom", "place"]) (sc := defScope (inClass (top 74) 0)) (by decide +kernel)) (fun _ _ _ _ _ => (pg_tup rfl (pgs_cons (pg_name (i := 4) nd rfl (Or.inl rfl)) (pgs_cons (pg_name (i := 3) nd rfl (Or.inl rfl)) pgs_nil)))) (fun _ _ _ _ _ => pts_nil) (fun _ _ _ _ _ => (pv 3)) (fun _ _ _ _ _ => (pv 4))) rfl) (pss_one (ps_fld (pv 0) (pe_lst pa_nil) rfl))))
theorem k_Teller_behind (T : Tx K mg) {k k0 : Nat} {sp_term_of : Sp} (c_term_of : C8.Cal P w K mg base k0 "term_of" sp_term_of []) (h0 : k0 + 2 ≤ k) {f : Addr} {cdv : Value} {A : Around} {outer : List Env} {s : Shared} {H : Hp} {E : XK} (hr : Room k (A.deeper (envOfC "Teller.behind" (defScope (inClass (top 74) 1)) s.heap.objs.size f cdv))) :
    PSs (cxOf C8.CX0 P w K mg base ["self", "names", "value", "index", "word", "name"] "Teller.behind" (defScope (inClass (top 74) 1)) f cdv A outer s H E).nox (defBody (inClass (top 74) 1)) (r_Teller_behind K sp_term_of) := by
  have nd : (["self", "names", "value", "index", "word", "name"] : List Str).Nodup := by decide +kernel
  exact (pss_cons (ps_asg (pv 2) (pg_tup rfl (pgs_cons (pg_name (i := 3) nd rfl (Or.inl rfl)) (pgs_cons (pg_name (i := 4) nd rfl (Or.inl rfl)) pgs_nil)))) (pss_cons (ps_for PassesOwn.never rfl (pi_tup (pe_revT (pv 1))) (pg_name (i := 5) nd rfl (Or.inl rfl)) (pss_cons (ps_set (i := 4) nd rfl (Or.inl rfl) (pe_tup (pa_cons (pv 5) (StX.pa_star (pv 4) pa_nil)))) (pss_one (ps_expr (pe_bm PySem.F.plainAttrs_list PySem.F.slot_list_append PySem.F.type_list_append mt_append (pe_fld (pv 0) rfl) (pa_cons (C8.pe_c c_term_of hr (by omega) (by rfl) (pa_cons (pv 3) (pa_cons (pv 4) pa_nil))) pa_nil)))))) (pss_one (ps_ret (pe_tup (pa_cons (pv 3) (pa_cons (pv 4) pa_nil)))))))
theorem k_Teller_is_true (T : Tx K mg) {k k0 : Nat} {sp_Teller_behind : Sp} (c_Teller_behind : C8.Met P w K mg base k0 (He.ga K "Teller") "behind" sp_Teller_behind []) (h0 : k0 + 2 ≤ k) {f : Addr} {cdv : Value} {A : Around} {outer : List Env} {s : Shared} {H : Hp} {E : XK} (hr : Room k (A.deeper (envOfC "Teller.is_true" (defScope (inClass (top 74) 2)) s.heap.objs.size f cdv))) :
    PSs (cxOf C8.CX0 P w K mg base ["self", "test", "value", "index", "atom"] "Teller.is_true" (defScope (inClass (top 74) 2)) f cdv A outer s H E).nox (defBody (inClass (top 74) 2)) (r_Teller_is_true K sp_Teller_behind) := by
  have nd : (["self", "test", "value", "index", "atom"] : List Str).Nodup := by decide +kernel
  exact (pss_cons (ps_asg (C8.pe_mt c_Teller_behind hr (by omega) (pv 0) (pa_cons (pv 1) (pa_cons (pv 2) pa_nil))) (pg_tup rfl (pgs_cons (pg_name (i := 3) nd rfl (Or.inl rfl)) (pgs_cons (pg_name (i := 4) nd rfl (Or.inl rfl)) pgs_nil)))) (pss_one (ps_ret (pe_ix ix_tup (pe_ix ix_tup (pe_fld (pv 0) rfl) (pv 3) (fun _ _ => rfl)) (pe_dget (hu_of hr) (pe_fld (pv 0) rfl) (pv 4) (fun _ _ => rfl)) (fun _ _ => rfl)))))
theorem k_Play___init__ (T : Tx K mg) {k : Nat} {f : Addr} {cdv : Value} {A : Around} {outer : List Env} {s : Shared} {H : Hp} {E : XK} (hr : Room k (A.deeper (envOfC "Play.__init__" (defScope (inClass (top 75) 0)) s.heap.objs.size f cdv))) :
    PSs (cxOf C8.CX0 P w K mg base ["self", "entries", "calls"] "Play.__init__" (defScope (inClass (top 75) 0)) f cdv A outer s H E).nox (defBody (inClass (top 75) 0)) (r_Play___init__ K) := by
  have nd : (["self", "entries", "calls"] : List Str).Nodup := by decide +kernel
  exact (pss_one (ps_fld (pv 0) (pe_tup (pa_cons (pv 1) (pa_cons (pv 2) pa_nil))) rfl))
theorem k_Play_entries (T : Tx K mg) {k : Nat} {f : Addr} {cdv : Value} {A : Around} {outer : List Env} {s : Shared} {H : Hp} {E : XK} (hr : Room k (A.deeper (envOfC "Play.entries" (defScope (inClass (top 75) 1)) s.heap.objs.size f cdv))) :
    PSs (cxOf C8.CX0 P w K mg base ["self"] "Play.entries" (defScope (inClass (top 75) 1)) f cdv A outer s H E).nox (defBody (inClass (top 75) 1)) (r_Play_entries K) := by
  have nd : (["self"] : List Str).Nodup := by decide +kernel
  exact (pss_one (ps_ret (pe_ix ix_tup (pe_fld (pv 0) rfl) pe_int (fun _ _ => rfl))))
theorem k_Play_calls (T : Tx K mg) {k : Nat} {f : Addr} {cdv : Value} {A : Around} {outer : List Env} {s : Shared} {H : Hp} {E : XK} (hr : Room k (A.deeper (envOfC "Play.calls" (defScope (inClass (top 75) 2)) s.heap.objs.size f cdv))) :
    PSs (cxOf C8.CX0 P w K mg base ["self"] "Play.calls" (defScope (inClass (top 75) 2)) f cdv A outer s H E).nox (defBody (inClass (top 75) 2)) (r_Play_calls K) := by
  have nd : (["self"] : List Str).Nodup := by decide +kernel
  exact (pss_one (ps_ret (pe_ix ix_tup (pe_fld (pv 0) rfl) pe_int (fun _ _ => rfl))))
theorem k_World___init__ (T : Tx K mg) {k k0 k1 : Nat} {sp_check_atoms sp_check_rows : Sp} (c_check_atoms : C8.Cal P w K mg base k0 "check_atoms" sp_check_atoms []) (h0 : k0 + 2 ≤ k) (c_check_rows : C8.Cal P w K mg base k1 "check_rows" sp_check_rows []) (h1 : k1 + 2 ≤ k) {f : Addr} {cdv : Value} {A : Around} {outer : List Env} {s : Shared} {H : Hp} {E : XK} (hr : Room k (A.deeper (envOfC "World.__init__" (defScope (inClass (top 76) 0)) s.heap.objs.size f cdv))) :
    PSs (cxOf C8.CX0 P w K mg base ["self", "atoms", "rows"] "World.__init__" (defScope (inClass (top 76) 0)) f cdv A outer s H E).nox (defBody (inClass (top 76) 0)) (r_World___init__ K sp_check_atoms sp_check_rows) := by
  have nd : (["self", "atoms", "rows"] : List Str).Nodup := by decide +kernel
  exact (pss_cons (ps_expr (C8.pe_c c_check_atoms hr (by omega) (by rfl) (pa_cons (pv 1) pa_nil))) (pss_cons (ps_expr (C8.pe_c c_check_rows hr (by omega) (by rfl) (pa_cons (pv 2) (pa_cons (pe_callB call_len (by rfl) T.f_len (by decide +kernel) (pa_cons (pv 1) pa_nil)) pa_nil)))) (pss_one (ps_fld (pv 0) (pe_tup (pa_cons (pv 1) (pa_cons (pv 2) pa_nil))) rfl))))
theorem k_World_play (T : Tx K mg) {k k0 k1 k2 k3 k4 k5 : Nat} {sp_check_flow sp_Flow_atoms sp_Teller sp_played sp_Play sp_term_of : Sp} (c_check_flow : C8.Cal P w K mg base k0 "check_flow" sp_check_flow []) (h0 : k0 + 2 ≤ k) (c_Flow_atoms : Gtr P w K mg base k1 (He.ga K "Flow") "atoms" sp_Flow_atoms) (h1 : k1 + 2 ≤ k) (c_Teller : C8.Mak P w K mg base k2 "Teller" (He.ga K "Teller") sp_Teller []) (h2 : k2 + 2 ≤ k) (c_played : C8.Cal P w K mg base k3 "played" sp_played []) (h3 : k3 + 2 ≤ k) (c_Play : C8.Mak P w K mg base k4 "Play" (He.ga K "Play") sp_Play []) (h4 : k4 + 2 ≤ k) (c_term_of : C8.Cal P w K mg base k5 "term_of" sp_term_of []) (h5 : k5 + 2 ≤ k) {f : Addr} {cdv : Value} {A : Around} {outer : List Env} {s : Shared} {H : Hp} {E : XK} (hr : Room k (A.deeper (envOfC "World.play" (defScope (inClass (top 76) 6)) s.heap.objs.size f cdv))) :
    PSs (cxOf C8.CX0 P w K mg base ["self", "flow", "atom", "teller", "left", "index", "word"] "World.play" (defScope (inClass (top 76) 6)) f cdv A outer s H E).nox (defBody (inClass (top 76) 6)) (r_World_play K sp_check_flow sp_Flow_atoms sp_Teller sp_played sp_Play sp_term_of) := by
  have nd : (["self", "flow", "atom", "teller", "left", "index", "word"] : List Str).Nodup := by decide +kernel
  exact (pss_cons (ps_expr (C8.pe_c c_check_flow hr (by omega) (by rfl) (pa_cons (pv 1) pa_nil))) (pss_cons (ps_for PassesOwn.never rfl (pi_tup (pe_gt c_Flow_atoms hr (by omega) (pv 1))) (pg_name (i := 2) nd rfl (Or.inl rfl)) (pss_one (ps_if (pt_cmpR (op_notInDT (hu65 hr)) (pv 2) (pe_ix ix_tup (pe_fld (pv 0) rfl) pe_int (fun _ _ => rfl)) (by rfl)) pss_never pss_nil))) (pss_cons (ps_set (i := 3) nd rfl (Or.inl rfl) (C8.pe_mk c_Teller hr (by omega) (by rfl) (pa_cons (pe_ix ix_tup (pe_fld (pv 0) rfl) pe_int (fun _ _ => rfl)) (pa_cons (pe_ix ix_tup (pe_fld (pv 0) rfl) pe_int (fun _ _ => rfl)) pa_nil)))) (pss_cons (ps_set (i := 4) nd rfl (Or.inl rfl) (C8.pe_c c_played hr (by omega) (by rfl) (pa_cons (pv 1) (pa_cons (pe_lc (own := [("index", 5)]) (g := gName 5) (tt := tYes) rfl nd (pi_range1 (by rfl) T.f_range (pa_cons (pe_callB call_len (by rfl) T.f_len (by decide +kernel) (pa_cons (pe_ix ix_tup (pe_fld (pv 0) rfl) pe_int (fun _ _ => rfl)) pa_nil)) pa_nil)) (blkOk_by (N := ["self", "flow", "atom", "teller", "left", "index", "word"]) (sc := defScope (inClass (top 76) 6)) (by decide +kernel)) (fun _ _ _ _ _ => (pg_name (i := 5) nd rfl (Or.inl rfl))) (fun _ _ _ _ _ => pts_nil) (fun _ _ _ _ _ => (pe_tup (pa_cons (pv 5) (pa_cons (pe_tup pa_nil) pa_nil))))) (pa_cons (pv 3) pa_nil))))) (pss_one (ps_ret (C8.pe_mk c_Play hr (by omega) (by rfl) (pa_cons (pe_callTy call_tuple_of (by rfl) T.f_tuple (by decide +kernel) (pa_cons (pe_lc (own := [("index", 5), ("word", 6)]) (g := gTup K 2 (gCons (gName 5) (gCons (gName 6) gNil))) (tt := tYes) rfl nd (pi_list (pv 4)) (blkOk_by (N := ["self", "flow", "atom", "teller", "left", "index", "word"]) (sc := defScope (inClass (top 76) 6)) (by decide +kernel)) (fun _ _ _ _ _ => (pg_tup rfl (pgs_cons (pg_name (i := 5) nd rfl (Or.inl rfl)) (pgs_cons (pg_name (i := 6) nd rfl (Or.inl rfl)) pgs_nil)))) (fun _ _ _ _ _ => pts_nil) (fun _ _ _ _ _ => (C8.pe_c c_term_of hr (by omega) (by rfl) (pa_cons (pv 5) (pa_cons (pv 6) pa_nil))))) pa_nil)) (pa_cons (pe_callTy call_tuple_of (by rfl) T.f_tuple (by decide +kernel) (pa_cons (pe_fld (pv 3) rfl) pa_nil)) pa_nil)))))))))
theorem k__law_cell (T : Tx K mg) {k : Nat} {f : Addr} {cdv : Value} {A : Around} {outer : List Env} {s : Shared} {H : Hp} {E : XK} (hr : Room k (A.deeper (envOfC "_law_cell" (defScope (top 78)) s.heap.objs.size f cdv))) :
    PSs (cxOf C8.CX0 P w K mg base ["_law_cells", "_law_k", "_law_seed", "_law_cell_here_here"] "_law_cell" (defScope (top 78)) f cdv A outer s H E).nox (defBody (top 78)) (r__law_cell K) := by
  have nd : (["_law_cells", "_law_k", "_law_seed", "_law_cell_here_here"] : List Str).Nodup := by decide +kernel
  exact (pss_cons (ps_if (pt_cmpR op_lt (pv 1) (pe_callB call_len (by rfl) T.f_len (by decide +kernel) (pa_cons (pv 0) pa_nil)) (nomark _)) (pss_one (ps_ret (pe_ix ix_list (pv 0) (pv 1) (fun _ _ => rfl)))) pss_nil) (pss_cons (ps_set (i := 2) nd rfl (Or.inl rfl) (pe_op op_mod (pe_callTy call_int1 (by rfl) T.f_int (by decide +kernel) (pa_cons (pe_op op_mul pe_int (pe_op op_add (pe_op op_add (pe_op op_mul (pv 1) (pv 1)) (pe_op op_mul pe_int (pv 1))) pe_int)) pa_nil)) pe_int)) (pss_cons (ps_for PassesOwn.never rfl (pi_list (pe_slice sl_list (pv 0) po_none (po_some pe_int))) (pg_name (i := 3) nd rfl (Or.inl rfl)) (pss_one (ps_set (i := 2) nd rfl (Or.inl rfl) (pe_op op_mod (pe_callTy call_int1 (by rfl) T.f_int (by decide +kernel) (pa_cons (pe_op op_add (pe_op op_mul (pv 2) pe_int) (pv 3)) pa_nil)) pe_int)))) (pss_one (ps_ret (pv 2))))))
end
end CF

/-! text CfWalk3 -/
set_option Elab.async false
set_option linter.all false
set_option maxRecDepth 100000
set_option maxHeartbeats 4000000
/-! the walks (printed by emit.py) -/
namespace CF
open PySem PySem.Spec PyProof.Rows L2
section
variable {P : Program} {w : World} {K : PySem.W.Frag} {mg : Str → Option Value} {base : Heap}
theorem k__law_purse (T : Tx K mg) {k : Nat} {f : Addr} {cdv : Value} {A : Around} {outer : List Env} {s : Shared} {H : Hp} {E : XK} (hr : Room k (A.deeper (envOfC "_law_purse" (defScope (top 79)) s.heap.objs.size f cdv))) :
    PSs (cxOf C8.CX0 P w K mg base ["_law_cell_here", "_law_digits"] "_law_purse" (defScope (top 79)) f cdv A outer s H E).nox (defBody (top 79)) (r__law_purse K) := by
  have nd : (["_law_cell_here", "_law_digits"] : List Str).Nodup := by decide +kernel
  exact (pss_cons (ps_set (i := 1) nd rfl (Or.inl rfl) (pe_ifExp (PW.pt (pw_or (pt_cmpR op_lt (pv 0) pe_int (nomark _)) (pw_or1 (pt_cmpR op_ge (pv 0) (pe_op op_pow pe_int pe_int) (nomark _))))) (pe_callB call_abs (by rfl) T.f_abs (by decide +kernel) (pa_cons (pv 0) pa_nil)) pe_int)) (pss_one (ps_ret (pe_lst (pa_cons (pe_op op_mod (pe_callTy call_int1 (by rfl) T.f_int (by decide +kernel) (pa_cons (pv 0) pa_nil)) pe_int) (pa_cons (pv 1) (pa_cons pe_int pa_nil)))))))
theorem k__law_take (T : Tx K mg) {k : Nat} {f : Addr} {cdv : Value} {A : Around} {outer : List Env} {s : Shared} {H : Hp} {E : XK} (hr : Room k (A.deeper (envOfC "_law_take" (defScope (top 80)) s.heap.objs.size f cdv))) :
    PSs (cxOf C8.CX0 P w K mg base ["_law_purse_here", "_law_many", "_law_seed", "_law_grown", "_law_digit"] "_law_take" (defScope (top 80)) f cdv A outer s H E).nox (defBody (top 80)) (r__law_take K) := by
  have nd : (["_law_purse_here", "_law_many", "_law_seed", "_law_grown", "_law_digit"] : List Str).Nodup := by decide +kernel
  exact (pss_cons (ps_asg (pe_op op_add (pe_ix ix_list (pv 0) pe_int (fun _ _ => rfl)) pe_int) (pg_sub (pv 0) pe_int set_list)) (pss_cons (ps_set (i := 2) nd rfl (Or.inl rfl) (pe_callTy call_int1 (by rfl) T.f_int (by decide +kernel) (pa_cons (pe_ix ix_list (pv 0) pe_int (fun _ _ => rfl)) pa_nil))) (pss_cons (ps_set (i := 3) nd rfl (Or.inl rfl) (pe_op op_mul (pv 2) (pe_op op_add (pe_op op_mod (pe_callTy call_int1 (by rfl) T.f_int (by decide +kernel) (pa_cons (pv 2) pa_nil)) pe_int) pe_int))) (pss_cons (ps_asg (pe_op op_mod (pe_callTy call_int1 (by rfl) T.f_int (by decide +kernel) (pa_cons (pe_op op_add (pe_op op_add (pv 3) (pe_op op_mul pe_int (pe_ix ix_list (pv 0) pe_int (fun _ _ => rfl)))) pe_int) pa_nil)) pe_int) (pg_sub (pv 0) pe_int set_list)) (pss_cons (ps_if (pt_cmpR op_gt (pe_ix ix_list (pv 0) pe_int (fun _ _ => rfl)) pe_int (nomark _)) (pss_cons (ps_asg (pe_callB call_divmodW (by rfl) T.f_divmod (by decide +kernel) (pa_cons (pe_ix ix_list (pv 0) pe_int (fun _ _ => rfl)) (pa_cons (pv 1) pa_nil))) (pg_tup rfl (pgs_cons (pg_sub (pv 0) pe_int set_list) (pgs_cons (pg_name (i := 4) nd rfl (Or.inl rfl)) pgs_nil)))) (pss_one (ps_ret (pv 4)))) pss_nil) (pss_one (ps_ret (pe_op op_mod (pe_callTy call_int1 (by rfl) T.f_int (by decide +kernel) (pa_cons (pe_op op_fdiv (pe_ix ix_list (pv 0) pe_int (fun _ _ => rfl)) pe_int) pa_nil)) (pv 1)))))))))
theorem k__law_name (T : Tx K mg) {k k0 : Nat} {sp__law_take : Sp} (c__law_take : C8.Cal P w K mg base k0 "_law_take" sp__law_take []) (h0 : k0 + 2 ≤ k) {f : Addr} {cdv : Value} {A : Around} {outer : List Env} {s : Shared} {H : Hp} {E : XK} (hr : Room k (A.deeper (envOfC "_law_name" (defScope (top 81)) s.heap.objs.size f cdv))) :
    PSs (cxOf C8.CX0 P w K mg base ["_law_purse_here", "_law_letter", "_law_many", "_law_k"] "_law_name" (defScope (top 81)) f cdv A outer s H E).nox (defBody (top 81)) (r__law_name K sp__law_take) := by
  have nd : (["_law_purse_here", "_law_letter", "_law_many", "_law_k"] : List Str).Nodup := by decide +kernel
  exact (pss_cons (ps_set (i := 1) nd rfl (Or.inl rfl) (pe_ix ix_str pe_str (C8.pe_c c__law_take hr (by omega) (by rfl) (pa_cons (pv 0) (pa_cons pe_int pa_nil))) (fun _ _ => rfl))) (pss_cons (ps_if (pt_cmpR op_eq (C8.pe_c c__law_take hr (by omega) (by rfl) (pa_cons (pv 0) (pa_cons pe_int pa_nil))) pe_int (nomark _)) (pss_one (ps_ret (pv 1))) pss_nil) (pss_cons (ps_set (i := 2) nd rfl (Or.inl rfl) (pe_op op_add pe_int (C8.pe_c c__law_take hr (by omega) (by rfl) (pa_cons (pv 0) (pa_cons pe_int pa_nil))))) (pss_one (ps_ret (pe_op op_add_str (pv 1) (pe_join pe_str (pe_lc (own := [("_law_k", 3)]) (g := gName 3) (tt := tYes) rfl nd (pi_range1 (by rfl) T.f_range (pa_cons (pv 2) pa_nil)) (blkOk_by (N := ["_law_purse_here", "_law_letter", "_law_many", "_law_k"]) (sc := defScope (top 81)) (by decide +kernel)) (fun _ _ _ _ _ => (pg_name (i := 3) nd rfl (Or.inl rfl))) (fun _ _ _ _ _ => pts_nil) (fun _ _ _ _ _ => (pe_ix ix_str pe_str (C8.pe_c c__law_take hr (by omega) (by rfl) (pa_cons (pv 0) (pa_cons pe_int pa_nil))) (fun _ _ => rfl)))))))))))
theorem k__law_tags (T : Tx K mg) {k k0 k1 : Nat} {sp__law_take sp__law_name : Sp} (c__law_take : C8.Cal P w K mg base k0 "_law_take" sp__law_take []) (h0 : k0 + 2 ≤ k) (c__law_name : C8.Cal P w K mg base k1 "_law_name" sp__law_name []) (h1 : k1 + 2 ≤ k) {f : Addr} {cdv : Value} {A : Around} {outer : List Env} {s : Shared} {H : Hp} {E : XK} (hr : Room k (A.deeper (envOfC "_law_tags" (defScope (top 82)) s.heap.objs.size f cdv))) :
    PSs (cxOf C8.CX0 P w K mg base ["_law_purse_here", "_law_many", "_law_alike", "_law_tags_here", "_law_k", "_law_tag"] "_law_tags" (defScope (top 82)) f cdv A outer s H E).nox (defBody (top 82)) (r__law_tags K sp__law_take sp__law_name) := by
  have nd : (["_law_purse_here", "_law_many", "_law_alike", "_law_tags_here", "_law_k", "_law_tag"] : List Str).Nodup := by decide +kernel
  exact (pss_cons (ps_par (i := 1) (j := 2) rfl nd rfl rfl (by decide) rfl rfl (pa_cons (pe_op op_add pe_int (C8.pe_c c__law_take hr (by omega) (by rfl) (pa_cons (pv 0) (pa_cons pe_int pa_nil)))) (pa_cons (pe_cmpR op_eq (C8.pe_c c__law_take hr (by omega) (by rfl) (pa_cons (pv 0) (pa_cons pe_int pa_nil))) pe_int (nomark _)) pa_nil)) (by rfl)) (pss_cons (ps_set (i := 3) nd rfl (Or.inr rfl) (pe_lc (own := [("_law_k", 4)]) (g := gName 4) (tt := tYes) rfl nd (pi_range1 (by rfl) T.f_range (pa_cons (pv 1) pa_nil)) (blkOk_by (N := ["_law_purse_here", "_law_many", "_law_alike", "_law_tags_here", "_law_k", "_law_tag"]) (sc := defScope (top 82)) (by decide +kernel)) (fun _ _ _ _ _ => (pg_name (i := 4) nd rfl (Or.inl rfl))) (fun _ _ _ _ _ => pts_nil) (fun _ _ _ _ _ => (C8.pe_c c__law_name hr (by omega) (by rfl) (pa_cons (pv 0) pa_nil))))) (pss_one (ps_ret (pe_ifExp (pt_val (pv 2)) (pe_lc (own := [("_law_tag", 5)]) (g := gName 5) (tt := tYes) rfl nd (pi_list (pv 3)) (blkOk_by (N := ["_law_purse_here", "_law_many", "_law_alike", "_law_tags_here", "_law_k", "_law_tag"]) (sc := defScope (top 82)) (by decide +kernel)) (fun _ _ _ _ _ => (pg_name (i := 5) nd rfl (Or.inl rfl))) (fun _ _ _ _ _ => pts_nil) (fun _ _ _ _ _ => (pe_op op_add_str (pe_ix ix_str (pe_ix ix_list (pv 3) pe_int (fun _ _ => rfl)) pe_int (fun _ _ => rfl)) (pe_slice C8.sl_txt (pv 5) (po_some pe_int) po_none)))) (pv 3))))))
theorem k__law_labels (T : Tx K mg) {k : Nat} {f : Addr} {cdv : Value} {A : Around} {outer : List Env} {s : Shared} {H : Hp} {E : XK} (hr : Room k (A.deeper (envOfC "_law_labels" (defScope (top 83)) s.heap.objs.size f cdv))) :
    PSs (cxOf C8.CX0 P w K mg base [] "_law_labels" (defScope (top 83)) f cdv A outer s H E).nox (defBody (top 83)) (r__law_labels K) := by
  have nd : ([] : List Str).Nodup := by decide +kernel
  exact (pss_one (ps_ret (pe_lst (pa_cons pe_str (pa_cons pe_str (pa_cons pe_str (pa_cons pe_str (pa_cons pe_str (pa_cons pe_str (pa_cons pe_str (pa_cons pe_str (pa_cons pe_str (pa_cons pe_str (pa_cons pe_str pa_nil))))))))))))))
theorem k__law_detail (T : Tx K mg) {k k0 : Nat} {sp__law_take : Sp} (c__law_take : C8.Cal P w K mg base k0 "_law_take" sp__law_take []) (h0 : k0 + 2 ≤ k) {f : Addr} {cdv : Value} {A : Around} {outer : List Env} {s : Shared} {H : Hp} {E : XK} (hr : Room k (A.deeper (envOfC "_law_detail" (defScope (top 84)) s.heap.objs.size f cdv))) :
    PSs (cxOf C8.CX0 P w K mg base ["_law_purse_here", "_law_tags_here", "_law_label", "_law_small", "_law_by", "_law_many", "_law_k"] "_law_detail" (defScope (top 84)) f cdv A outer s H E).nox (defBody (top 84)) (r__law_detail K sp__law_take) := by
  have nd : (["_law_purse_here", "_law_tags_here", "_law_label", "_law_small", "_law_by", "_law_many", "_law_k"] : List Str).Nodup := by decide +kernel
  exact (pss_cons (ps_if (pt_cmpR op_eq (pv 2) pe_str (nomark _)) (pss_one (ps_ret pe_non)) pss_nil) (pss_cons (ps_set (i := 3) nd rfl (Or.inl rfl) (pe_cmpR op_gt (C8.pe_c c__law_take hr (by omega) (by rfl) (pa_cons (pv 0) (pa_cons pe_int pa_nil))) pe_int (nomark _))) (pss_cons (ps_if (pt_cmpR op_eq (pv 2) pe_str (nomark _)) (pss_cons (ps_set (i := 4) nd rfl (Or.inl rfl) (pe_op op_add pe_int (C8.pe_c c__law_take hr (by omega) (by rfl) (pa_cons (pv 0) (pa_cons (pe_ifExp (pt_val (pv 3)) pe_int pe_int) pa_nil))))) (pss_one (ps_ret (pe_tup (pa_cons (pv 4) (pa_cons (C8.pe_c c__law_take hr (by omega) (by rfl) (pa_cons (pv 0) (pa_cons (pe_ifExp (pt_val (pv 3)) pe_int pe_int) pa_nil))) pa_nil)))))) pss_nil) (pss_cons (ps_if (pt_cmpR op_in_seq (pv 2) (pe_lst (pa_cons pe_str (pa_cons pe_str pa_nil))) (by rfl)) (pss_one (ps_ret (C8.pe_c c__law_take hr (by omega) (by rfl) (pa_cons (pv 0) (pa_cons (pe_ifExp (pt_val (pv 3)) pe_int pe_int) pa_nil))))) pss_nil) (pss_cons (ps_if (pt_cmpR op_in_seq (pv 2) (pe_lst (pa_cons pe_str (pa_cons pe_str pa_nil))) (by rfl)) (pss_one (ps_ret (pe_op op_add pe_int (C8.pe_c c__law_take hr (by omega) (by rfl) (pa_cons (pv 0) (pa_cons (pe_ifExp (pt_val (pv 3)) pe_int pe_int) pa_nil)))))) pss_nil) (pss_cons (ps_set (i := 5) nd rfl (Or.inl rfl) (pe_op op_add (C8.pe_c c__law_take hr (by omega) (by rfl) (pa_cons (pv 0) (pa_cons (pe_ifExp (pt_val (pv 3)) pe_int pe_int) pa_nil))) (pe_callTy call_int1 (by rfl) T.f_int (by decide +kernel) (pa_cons (pe_cmpR op_ne (pv 2) pe_str (nomark _)) pa_nil)))) (pss_one (ps_ret (pe_callTy call_tuple_of (by rfl) T.f_tuple (by decide +kernel) (pa_cons (pe_lc (own := [("_law_k", 6)]) (g := gName 6) (tt := tYes) rfl nd (pi_range1 (by rfl) T.f_range (pa_cons (pv 5) pa_nil)) (blkOk_by (N := ["_law_purse_here", "_law_tags_here", "_law_label", "_law_small", "_law_by", "_law_many", "_law_k"]) (sc := defScope (top 84)) (by decide +kernel)) (fun _ _ _ _ _ => (pg_name (i := 6) nd rfl (Or.inl rfl))) (fun _ _ _ _ _ => pts_nil) (fun _ _ _ _ _ => (pe_ix ix_list (pv 1) (C8.pe_c c__law_take hr (by omega) (by rfl) (pa_cons (pv 0) (pa_cons (pe_callB call_len (by rfl) T.f_len (by decide +kernel) (pa_cons (pv 1) pa_nil)) pa_nil))) (fun _ _ => rfl)))) pa_nil))))))))))
theorem k__law_part (T : Tx K mg) {k k0 k1 k2 : Nat} {sp__law_labels sp__law_take sp__law_detail : Sp} (c__law_labels : C8.Cal P w K mg base k0 "_law_labels" sp__law_labels []) (h0 : k0 + 2 ≤ k) (c__law_take : C8.Cal P w K mg base k1 "_law_take" sp__law_take []) (h1 : k1 + 2 ≤ k) (c__law_detail : C8.Cal P w K mg base k2 "_law_detail" sp__law_detail []) (h2 : k2 + 2 ≤ k) {f : Addr} {cdv : Value} {A : Around} {outer : List Env} {s : Shared} {H : Hp} {E : XK} (hr : Room k (A.deeper (envOfC "_law_part" (defScope (top 85)) s.heap.objs.size f cdv))) :
    PSs (cxOf C8.CX0 P w K mg base ["_law_purse_here", "_law_tags_here", "_law_label", "_law_told"] "_law_part" (defScope (top 85)) f cdv A outer s H E).nox (defBody (top 85)) (r__law_part K sp__law_labels sp__law_take sp__law_detail) := by
  have nd : (["_law_purse_here", "_law_tags_here", "_law_label", "_law_told"] : List Str).Nodup := by decide +kernel
  exact (pss_cons (ps_set (i := 2) nd rfl (Or.inl rfl) (pe_ix ix_list (pe_c0 c__law_labels hr (by omega) (by rfl)) (C8.pe_c c__law_take hr (by omega) (by rfl) (pa_cons (pv 0) (pa_cons pe_int pa_nil))) (fun _ _ => rfl))) (pss_cons (ps_set (i := 3) nd rfl (Or.inl rfl) (C8.pe_c c__law_detail hr (by omega) (by rfl) (pa_cons (pv 0) (pa_cons (pv 1) (pa_cons (pv 2) pa_nil))))) (pss_one (ps_ret (pe_tup (pa_cons (pv 2) (pa_cons (pv 3) (pa_cons (pe_or (pe_cmpR op_eq (C8.pe_c c__law_take hr (by omega) (by rfl) (pa_cons (pv 0) (pa_cons pe_int pa_nil))) pe_int (nomark _)) (pe_one (pe_cmpR op_in_seq (pv 2) (pe_lst (pa_cons pe_str (pa_cons pe_str (pa_cons pe_str pa_nil)))) (by rfl)))) pa_nil))))))))
theorem k__law_stage (T : Tx K mg) {k k0 : Nat} {sp_Stage : Sp} {fdS : FuncData} {psS : List Str} (F_Stage : FnOk P w K mg base C8.CX0 k0 (He.ma K (He.ga K "Stage") "__init__") fdS psS sp_Stage) {gv_Stage2 : List V → List V → List V} {gw_gv_Stage2 : List Value → List Value → List Value} (kb_Stage2 : KBn K fdS psS 3 ["now"] gw_gv_Stage2 gv_Stage2) (h0 : k0 + 2 ≤ k) {f : Addr} {cdv : Value} {A : Around} {outer : List Env} {s : Shared} {H : Hp} {E : XK} (hr : Room k (A.deeper (envOfC "_law_stage" (defScope (top 86)) s.heap.objs.size f cdv))) :
    PSs (cxOf C8.CX0 P w K mg base ["_law_part_here"] "_law_stage" (defScope (top 86)) f cdv A outer s H E).nox (defBody (top 86)) (r__law_stage K sp_Stage gv_Stage2) := by
  have nd : (["_law_part_here"] : List Str).Nodup := by decide +kernel
  exact (pss_one (ps_ret (pe_makeN T.mk_Stage F_Stage (hr.mono (by omega)) (by rfl) T.g_Stage kb_Stage2 C8.pass0 (pa_cons (pe_ix ix_tup (pv 0) pe_int (fun _ _ => rfl)) (pa_cons (pe_ix ix_tup (pv 0) pe_int (fun _ _ => rfl)) pa_nil)) (pk_cons (pe_ix ix_tup (pv 0) pe_int (fun _ _ => rfl)) pk_nil))))
theorem k__law_flow (T : Tx K mg) {k k0 k1 : Nat} {sp_Flow_of sp__law_stage : Sp} (F_Flow_of : FnR P w K mg base C8.CX0 k0 (He5.wf K (He.ga K "Flow") "classmethod" "of") sp_Flow_of) (h0 : k0 + 2 ≤ k) (c__law_stage : C8.Cal P w K mg base k1 "_law_stage" sp__law_stage []) (h1 : k1 + 2 ≤ k) {f : Addr} {cdv : Value} {A : Around} {outer : List Env} {s : Shared} {H : Hp} {E : XK} (hr : Room k (A.deeper (envOfC "_law_flow" (defScope (top 87)) s.heap.objs.size f cdv))) :
    PSs (cxOf C8.CX0 P w K mg base ["_law_steps", "_law_part_here"] "_law_flow" (defScope (top 87)) f cdv A outer s H E).nox (defBody (top 87)) (r__law_flow K sp_Flow_of sp__law_stage) := by
  have nd : (["_law_steps", "_law_part_here"] : List Str).Nodup := by decide +kernel
  exact (pss_one (ps_ret (ClX.pe_cmeth (pe_glob (by rfl) T.g_Flow rfl) T.r_Flow T.c_Flow_of F_Flow_of (hr.mono (by omega)) C8.pass0 (pa_cons (pe_callTy call_tuple_of (by rfl) T.f_tuple (by decide +kernel) (pa_cons (pe_lc (own := [("_law_part_here", 1)]) (g := gName 1) (tt := tYes) rfl nd (pi_list (pv 0)) (blkOk_by (N := ["_law_steps", "_law_part_here"]) (sc := defScope (top 87)) (by decide +kernel)) (fun _ _ _ _ _ => (pg_name (i := 1) nd rfl (Or.inl rfl))) (fun _ _ _ _ _ => pts_nil) (fun _ _ _ _ _ => (C8.pe_c c__law_stage hr (by omega) (by rfl) (pa_cons (pv 1) pa_nil)))) pa_nil)) pa_nil))))
theorem k__law_atoms (T : Tx K mg) {k : Nat} {f : Addr} {cdv : Value} {A : Around} {outer : List Env} {s : Shared} {H : Hp} {E : XK} (hr : Room k (A.deeper (envOfC "_law_atoms" (defScope (top 88)) s.heap.objs.size f cdv))) :
    PSs (cxOf C8.CX0 P w K mg base ["_law_steps", "_law_found", "_law_names_here", "_law_part_here"] "_law_atoms" (defScope (top 88)) f cdv A outer s H E).nox (defBody (top 88)) (r__law_atoms K) := by
  have nd : (["_law_steps", "_law_found", "_law_names_here", "_law_part_here"] : List Str).Nodup := by decide +kernel
  exact (pss_cons (ps_par (i := 1) (j := 2) rfl nd rfl rfl (by decide) rfl rfl (pa_cons (pe_lst pa_nil) (pa_cons (pe_tup pa_nil) pa_nil)) (by rfl)) (pss_cons (ps_for PassesOwn.never rfl (pi_list (pv 0)) (pg_name (i := 3) nd rfl (Or.inl rfl)) (pss_cons (ps_if (pt_cmpR op_eq (pe_ix ix_tup (pv 3) pe_int (fun _ _ => rfl)) pe_str (nomark _)) (pss_one (ps_set (i := 2) nd rfl (Or.inl rfl) (pe_op op_catA (pe_ix ix_tup (pv 3) pe_int (fun _ _ => rfl)) (pv 2)))) pss_nil) (pss_one (ps_if (PW.pt (pw_and (pt_cmpR op_in_seq (pe_ix ix_tup (pv 3) pe_int (fun _ _ => rfl)) (pe_lst (pa_cons pe_str (pa_cons pe_str (pa_cons pe_str (pa_cons pe_str pa_nil))))) (by rfl)) (pw_and1 (pt_cmpR (op_notInD (hu65 hr)) (pe_op op_catA (pe_ix ix_tup (pv 3) pe_int (fun _ _ => rfl)) (pv 2)) (pv 1) (by rfl))))) (pss_one (ps_expr (pe_bm PySem.F.plainAttrs_list PySem.F.slot_list_append PySem.F.type_list_append mt_append (pv 1) (pa_cons (pe_op op_catA (pe_ix ix_tup (pv 3) pe_int (fun _ _ => rfl)) (pv 2)) pa_nil)))) pss_nil)))) (pss_one (ps_ret (pe_callTy call_tuple_frz (by rfl) T.f_tuple (by decide +kernel) (pa_cons (pv 1) pa_nil))))))
theorem k__law_few (T : Tx K mg) {k k0 : Nat} {sp__law_atoms : Sp} (c__law_atoms : C8.Cal P w K mg base k0 "_law_atoms" sp__law_atoms []) (h0 : k0 + 2 ≤ k) {f : Addr} {cdv : Value} {A : Around} {outer : List Env} {s : Shared} {H : Hp} {E : XK} (hr : Room k (A.deeper (envOfC "_law_few" (defScope (top 89)) s.heap.objs.size f cdv))) :
    PSs (cxOf C8.CX0 P w K mg base ["_law_steps"] "_law_few" (defScope (top 89)) f cdv A outer s H E).nox (defBody (top 89)) (r__law_few K sp__law_atoms) := by
  have nd : (["_law_steps"] : List Str).Nodup := by decide +kernel
  exact (pss_cons (ps_while PassesOwn.never (pt_cmpR op_gt (pe_callB call_len (by rfl) T.f_len (by decide +kernel) (pa_cons (C8.pe_c c__law_atoms hr (by omega) (by rfl) (pa_cons (pv 0) pa_nil)) pa_nil)) pe_int (nomark _)) (pss_one (ps_set (i := 0) nd rfl (Or.inl rfl) (pe_slice sl_list (pv 0) po_none (po_some (pe_un un_neg pe_int)))))) (pss_one (ps_ret (pv 0))))
theorem k__law_asked (T : Tx K mg) {k k0 k1 k2 : Nat} {sp__law_labels sp__law_take sp__law_detail : Sp} (c__law_labels : C8.Cal P w K mg base k0 "_law_labels" sp__law_labels []) (h0 : k0 + 2 ≤ k) (c__law_take : C8.Cal P w K mg base k1 "_law_take" sp__law_take []) (h1 : k1 + 2 ≤ k) (c__law_detail : C8.Cal P w K mg base k2 "_law_detail" sp__law_detail []) (h2 : k2 + 2 ≤ k) {f : Addr} {cdv : Value} {A : Around} {outer : List Env} {s : Shared} {H : Hp} {E : XK} (hr : Room k (A.deeper (envOfC "_law_asked" (defScope (top 90)) s.heap.objs.size f cdv))) :
    PSs (cxOf C8.CX0 P w K mg base ["_law_purse_here", "_law_tags_here", "_law_label", "_law_told"] "_law_asked" (defScope (top 90)) f cdv A outer s H E).nox (defBody (top 90)) (r__law_asked K sp__law_labels sp__law_take sp__law_detail) := by
  have nd : (["_law_purse_here", "_law_tags_here", "_law_label", "_law_told"] : List Str).Nodup := by decide +kernel
  exact (pss_cons (ps_set (i := 2) nd rfl (Or.inl rfl) (pe_ix ix_list (pe_c0 c__law_labels hr (by omega) (by rfl)) (C8.pe_c c__law_take hr (by omega) (by rfl) (pa_cons (pv 0) (pa_cons pe_int pa_nil))) (fun _ _ => rfl))) (pss_cons (ps_set (i := 3) nd rfl (Or.inl rfl) (C8.pe_c c__law_detail hr (by omega) (by rfl) (pa_cons (pv 0) (pa_cons (pv 1) (pa_cons (pv 2) pa_nil))))) (pss_one (ps_ret (pe_tup (pa_cons (pv 2) (pa_cons (pv 3) (pa_cons (pe_cmpR op_eq (C8.pe_c c__law_take hr (by omega) (by rfl) (pa_cons (pv 0) (pa_cons pe_int pa_nil))) pe_int (nomark _)) pa_nil))))))))
theorem k__law_playable (T : Tx K mg) {k k0 k1 k2 k3 k4 : Nat} {sp__law_take sp__law_tags sp__law_few sp__law_part sp__law_asked : Sp} (c__law_take : C8.Cal P w K mg base k0 "_law_take" sp__law_take []) (h0 : k0 + 2 ≤ k) (c__law_tags : C8.Cal P w K mg base k1 "_law_tags" sp__law_tags []) (h1 : k1 + 2 ≤ k) (c__law_few : C8.Cal P w K mg base k2 "_law_few" sp__law_few []) (h2 : k2 + 2 ≤ k) (c__law_part : C8.Cal P w K mg base k3 "_law_part" sp__law_part []) (h3 : k3 + 2 ≤ k) (c__law_asked : C8.Cal P w K mg base k4 "_law_asked" sp__law_asked []) (h4 : k4 + 2 ≤ k) {f : Addr} {cdv : Value} {A : Around} {outer : List Env} {s : Shared} {H : Hp} {E : XK} (hr : Room k (A.deeper (envOfC "_law_playable" (defScope (top 91)) s.heap.objs.size f cdv))) :
    PSs (cxOf C8.CX0 P w K mg base ["_law_purse_here", "_law_tags_here", "_law_many", "_law_k"] "_law_playable" (defScope (top 91)) f cdv A outer s H E).nox (defBody (top 91)) (r__law_playable K sp__law_take sp__law_tags sp__law_few sp__law_part sp__law_asked) := by
  have nd : (["_law_purse_here", "_law_tags_here", "_law_many", "_law_k"] : List Str).Nodup := by decide +kernel
  exact (pss_cons (ps_asg (pe_tup (pa_cons (C8.pe_c c__law_tags hr (by omega) (by rfl) (pa_cons (pv 0) pa_nil)) (pa_cons (C8.pe_c c__law_take hr (by omega) (by rfl) (pa_cons (pv 0) (pa_cons pe_int pa_nil))) pa_nil))) (pg_tup rfl (pgs_cons (pg_name (i := 1) nd rfl (Or.inr rfl)) (pgs_cons (pg_name (i := 2) nd rfl (Or.inl rfl)) pgs_nil)))) (pss_cons (ps_if (pt_cmpR op_eq (C8.pe_c c__law_take hr (by omega) (by rfl) (pa_cons (pv 0) (pa_cons pe_int pa_nil))) pe_int (nomark _)) (pss_one (ps_ret (C8.pe_c c__law_few hr (by omega) (by rfl) (pa_cons (pe_lc (own := [("_law_k", 3)]) (g := gName 3) (tt := tYes) rfl nd (pi_range1 (by rfl) T.f_range (pa_cons (pv 2) pa_nil)) (blkOk_by (N := ["_law_purse_here", "_law_tags_here", "_law_many", "_law_k"]) (sc := defScope (top 91)) (by decide +kernel)) (fun _ _ _ _ _ => (pg_name (i := 3) nd rfl (Or.inl rfl))) (fun _ _ _ _ _ => pts_nil) (fun _ _ _ _ _ => (C8.pe_c c__law_part hr (by omega) (by rfl) (pa_cons (pv 0) (pa_cons (pv 1) pa_nil))))) pa_nil)))) pss_nil) (pss_one (ps_ret (C8.pe_c c__law_few hr (by omega) (by rfl) (pa_cons (pe_lc (own := [("_law_k", 3)]) (g := gName 3) (tt := tYes) rfl nd (pi_range1 (by rfl) T.f_range (pa_cons (pv 2) pa_nil)) (blkOk_by (N := ["_law_purse_here", "_law_tags_here", "_law_many", "_law_k"]) (sc := defScope (top 91)) (by decide +kernel)) (fun _ _ _ _ _ => (pg_name (i := 3) nd rfl (Or.inl rfl))) (fun _ _ _ _ _ => pts_nil) (fun _ _ _ _ _ => (C8.pe_c c__law_asked hr (by omega) (by rfl) (pa_cons (pv 0) (pa_cons (pv 1) pa_nil))))) pa_nil))))))
theorem k__law_truths (T : Tx K mg) {k k0 : Nat} {sp__law_take : Sp} (c__law_take : C8.Cal P w K mg base k0 "_law_take" sp__law_take []) (h0 : k0 + 2 ≤ k) {f : Addr} {cdv : Value} {A : Around} {outer : List Env} {s : Shared} {H : Hp} {E : XK} (hr : Room k (A.deeper (envOfC "_law_truths" (defScope (top 92)) s.heap.objs.size f cdv))) :
    PSs (cxOf C8.CX0 P w K mg base ["_law_purse_here", "_law_many", "_law_k"] "_law_truths" (defScope (top 92)) f cdv A outer s H E).nox (defBody (top 92)) (r__law_truths K sp__law_take) := by
  have nd : (["_law_purse_here", "_law_many", "_law_k"] : List Str).Nodup := by decide +kernel
  exact (pss_one (ps_ret (pe_callTy call_tuple_of (by rfl) T.f_tuple (by decide +kernel) (pa_cons (pe_lc (own := [("_law_k", 2)]) (g := gName 2) (tt := tYes) rfl nd (pi_range1 (by rfl) T.f_range (pa_cons (pv 1) pa_nil)) (blkOk_by (N := ["_law_purse_here", "_law_many", "_law_k"]) (sc := defScope (top 92)) (by decide +kernel)) (fun _ _ _ _ _ => (pg_name (i := 2) nd rfl (Or.inl rfl))) (fun _ _ _ _ _ => pts_nil) (fun _ _ _ _ _ => (pe_cmpR op_eq (C8.pe_c c__law_take hr (by omega) (by rfl) (pa_cons (pv 0) (pa_cons pe_int pa_nil))) pe_int (nomark _)))) pa_nil))))
end
end CF

/-! text CfWalk4 -/
set_option Elab.async false
set_option linter.all false
set_option maxRecDepth 100000
set_option maxHeartbeats 4000000
/-! the walks (printed by emit.py) -/
namespace CF
open PySem PySem.Spec PyProof.Rows L2
section
variable {P : Program} {w : World} {K : PySem.W.Frag} {mg : Str → Option Value} {base : Heap}
theorem k__law_apply (T : Tx K mg) {k k0 : Nat} {sp__law_answer : Sp} (c__law_answer : C8.Cal P w K mg base k0 "_law_answer" sp__law_answer []) (h0 : k0 + 2 ≤ k) {f : Addr} {cdv : Value} {A : Around} {outer : List Env} {s : Shared} {H : Hp} {E : XK} (hr : Room k (A.deeper (envOfC "_law_apply" (defScope (top 93)) s.heap.objs.size f cdv))) :
    PSs (cxOf C8.CX0 P w K mg base ["_law_play_here", "_law_names_here", "_law_thing", "_law_tag"] "_law_apply" (defScope (top 93)) f cdv A outer s H E).nox (defBody (top 93)) (r__law_apply K sp__law_answer) := by
  have nd : (["_law_play_here", "_law_names_here", "_law_thing", "_law_tag"] : List Str).Nodup := by decide +kernel
  exact (pss_cons (ps_for PassesOwn.never rfl (pi_tup (pe_revT (pv 1))) (pg_name (i := 3) nd rfl (Or.inl rfl)) (pss_one (ps_set (i := 2) nd rfl (Or.inl rfl) (C8.pe_c c__law_answer hr (by omega) (by rfl) (pa_cons (pv 0) (pa_cons (pv 3) (pa_cons (pv 2) pa_nil))))))) (pss_one (ps_ret (pv 2))))
theorem k__law_passes (T : Tx K mg) {k k0 k1 : Nat} {sp__law_truth sp__law_apply : Sp} (c__law_truth : C8.Cal P w K mg base k0 "_law_truth" sp__law_truth []) (h0 : k0 + 2 ≤ k) (c__law_apply : C8.Cal P w K mg base k1 "_law_apply" sp__law_apply []) (h1 : k1 + 2 ≤ k) {f : Addr} {cdv : Value} {A : Around} {outer : List Env} {s : Shared} {H : Hp} {E : XK} (hr : Room k (A.deeper (envOfC "_law_passes" (defScope (top 94)) s.heap.objs.size f cdv))) :
    PSs (cxOf C8.CX0 P w K mg base ["_law_play_here", "_law_conditions", "_law_thing", "_law_names_here", "_law_wanted"] "_law_passes" (defScope (top 94)) f cdv A outer s H E).nox (defBody (top 94)) (r__law_passes K sp__law_truth sp__law_apply) := by
  have nd : (["_law_play_here", "_law_conditions", "_law_thing", "_law_names_here", "_law_wanted"] : List Str).Nodup := by decide +kernel
  exact (pss_cons (ps_for PassesOwn.never rfl (pi_list (pv 1)) (pg_tup rfl (pgs_cons (pg_name (i := 3) nd rfl (Or.inl rfl)) (pgs_cons (pg_name (i := 4) nd rfl (Or.inl rfl)) pgs_nil))) (pss_one (ps_if (pt_cmpR op_ne (C8.pe_c c__law_truth hr (by omega) (by rfl) (pa_cons (pv 0) (pa_cons (C8.pe_c c__law_apply hr (by omega) (by rfl) (pa_cons (pv 0) (pa_cons (pv 3) (pa_cons (pv 2) pa_nil)))) pa_nil))) (pv 4) (nomark _)) (pss_one (ps_ret pe_bl)) pss_nil))) (pss_one (ps_ret pe_bl)))
theorem k__law_pull (T : Tx K mg) {k k0 k1 k2 k3 : Nat} {sp__law_pull_slice sp__law_pull sp__law_passes sp__law_apply : Sp} (c__law_pull_slice : C8.Cal P w K mg base k0 "_law_pull_slice" sp__law_pull_slice []) (h0 : k0 + 2 ≤ k) (c__law_pull : C8.Cal P w K mg base k1 "_law_pull" sp__law_pull []) (h1 : k1 + 2 ≤ k) (c__law_passes : C8.Cal P w K mg base k2 "_law_passes" sp__law_passes []) (h2 : k2 + 2 ≤ k) (c__law_apply : C8.Cal P w K mg base k3 "_law_apply" sp__law_apply []) (h3 : k3 + 2 ≤ k) {f : Addr} {cdv : Value} {A : Around} {outer : List Env} {s : Shared} {H : Hp} {E : XK} (hr : Room k (A.deeper (envOfC "_law_pull" (defScope (top 95)) s.heap.objs.size f cdv))) :
    PSs (cxOf C8.CX0 P w K mg base ["_law_play_here", "_law_source", "_law_sort_here", "_law_got"] "_law_pull" (defScope (top 95)) f cdv A outer s H E).nox (defBody (top 95)) (r__law_pull K sp__law_pull_slice sp__law_pull sp__law_passes sp__law_apply) := by
  have nd : (["_law_play_here", "_law_source", "_law_sort_here", "_law_got"] : List Str).Nodup := by decide +kernel
  exact (pss_cons (ps_set (i := 2) nd rfl (Or.inl rfl) (pe_ix ix_list (pv 1) pe_int (fun _ _ => rfl))) (pss_cons (ps_if (pt_cmpR op_eq (pv 2) pe_str (nomark _)) (pss_cons (ps_asg (pe_op op_add (pe_ix ix_list (pv 1) pe_int (fun _ _ => rfl)) pe_int) (pg_sub (pv 1) pe_int set_list)) (pss_one (ps_ret (pe_slice sl_list (pe_ix ix_list (pv 1) pe_int (fun _ _ => rfl)) (po_some (pe_op op_sub (pe_ix ix_list (pv 1) pe_int (fun _ _ => rfl)) pe_int)) (po_some (pe_ix ix_list (pv 1) pe_int (fun _ _ => rfl))))))) pss_nil) (pss_cons (ps_if (pt_cmpR op_eq (pv 2) pe_str (nomark _)) (pss_one (ps_ret (C8.pe_c c__law_pull_slice hr (by omega) (by rfl) (pa_cons (pv 0) (pa_cons (pv 1) pa_nil))))) pss_nil) (pss_cons (ps_if (PW.pt (pw_and (pt_cmpR op_eq (pv 2) pe_str (nomark _)) (pw_and1 (pt_val (pe_ix ix_list (pv 1) pe_int (fun _ _ => rfl)))))) (pss_one (ps_ret (pe_lst pa_nil))) pss_nil) (pss_cons (ps_set (i := 3) nd rfl (Or.inl rfl) (C8.pe_c c__law_pull hr (by omega) (by rfl) (pa_cons (pv 0) (pa_cons (pe_ix ix_list (pv 1) pe_int (fun _ _ => rfl)) pa_nil)))) (pss_cons (ps_if (pt_cmpR op_eq (pv 2) pe_str (nomark _)) (pss_cons (ps_asg (pe_and (pe_cmpR (op_neD hr.units) (pv 3) (pe_lst pa_nil) (nomark _)) (pe_one (pe_not (C8.pe_c c__law_passes hr (by omega) (by rfl) (pa_cons (pv 0) (pa_cons (pe_ix ix_list (pv 1) pe_int (fun _ _ => rfl)) (pa_cons (pe_ix ix_list (pv 3) pe_int (fun _ _ => rfl)) pa_nil))))))) (pg_sub (pv 1) pe_int set_list)) (pss_one (ps_ret (pe_ifExp (pt_val (pe_ix ix_list (pv 1) pe_int (fun _ _ => rfl))) (pe_lst pa_nil) (pv 3))))) pss_nil) (pss_cons (ps_if (pt_cmpR op_eq (pv 2) pe_str (nomark _)) (pss_cons (ps_while PassesOwn.never (PW.pt (pw_and (pt_cmpR (op_neD hr.units) (pv 3) (pe_lst pa_nil) (nomark _)) (pw_and1 (pt_not (pt_val (pe_ix ix_list (pv 1) pe_int (fun _ _ => rfl))))))) (pss_cons (ps_asg (pe_not (C8.pe_c c__law_passes hr (by omega) (by rfl) (pa_cons (pv 0) (pa_cons (pe_ix ix_list (pv 1) pe_int (fun _ _ => rfl)) (pa_cons (pe_ix ix_list (pv 3) pe_int (fun _ _ => rfl)) pa_nil))))) (pg_sub (pv 1) pe_int set_list)) (pss_one (ps_set (i := 3) nd rfl (Or.inl rfl) (pe_ifExp (pt_val (pe_ix ix_list (pv 1) pe_int (fun _ _ => rfl))) (pv 3) (C8.pe_c c__law_pull hr (by omega) (by rfl) (pa_cons (pv 0) (pa_cons (pe_ix ix_list (pv 1) pe_int (fun _ _ => rfl)) pa_nil)))))))) (pss_one (ps_ret (pv 3)))) pss_nil) (pss_cons (ps_while PassesOwn.never (PW.pt (pw_and (pt_cmpR (op_neD hr.units) (pv 3) (pe_lst pa_nil) (nomark _)) (pw_and1 (pt_not (pt_val (C8.pe_c c__law_passes hr (by omega) (by rfl) (pa_cons (pv 0) (pa_cons (pe_ix ix_list (pv 1) pe_int (fun _ _ => rfl)) (pa_cons (pe_ix ix_list (pv 3) pe_int (fun _ _ => rfl)) pa_nil))))))))) (pss_one (ps_set (i := 3) nd rfl (Or.inl rfl) (C8.pe_c c__law_pull hr (by omega) (by rfl) (pa_cons (pv 0) (pa_cons (pe_ix ix_list (pv 1) pe_int (fun _ _ => rfl)) pa_nil)))))) (pss_one (ps_ret (pe_ifExp (pt_cmpR (op_neD hr.units) (pv 3) (pe_lst pa_nil) (nomark _)) (pe_lst (pa_cons (C8.pe_c c__law_apply hr (by omega) (by rfl) (pa_cons (pv 0) (pa_cons (pe_ix ix_list (pv 1) pe_int (fun _ _ => rfl)) (pa_cons (pe_ix ix_list (pv 3) pe_int (fun _ _ => rfl)) pa_nil)))) pa_nil)) (pe_lst pa_nil))))))))))))
theorem k__law_pull_slice (T : Tx K mg) {k k0 : Nat} {sp__law_pull : Sp} (c__law_pull : C8.Cal P w K mg base k0 "_law_pull" sp__law_pull []) (h0 : k0 + 2 ≤ k) {f : Addr} {cdv : Value} {A : Around} {outer : List Env} {s : Shared} {H : Hp} {E : XK} (hr : Room k (A.deeper (envOfC "_law_pull_slice" (defScope (top 96)) s.heap.objs.size f cdv))) :
    PSs (cxOf C8.CX0 P w K mg base ["_law_play_here", "_law_source", "_law_got"] "_law_pull_slice" (defScope (top 96)) f cdv A outer s H E).nox (defBody (top 96)) (r__law_pull_slice K sp__law_pull) := by
  have nd : (["_law_play_here", "_law_source", "_law_got"] : List Str).Nodup := by decide +kernel
  exact (pss_cons (ps_while PassesOwn.never (pt_cmpR op_lt (pe_ix ix_list (pv 1) pe_int (fun _ _ => rfl)) (pe_ix ix_list (pv 1) pe_int (fun _ _ => rfl)) (nomark _)) (pss_cons (ps_if (pt_cmpR (op_eqD hr.units) (C8.pe_c c__law_pull hr (by omega) (by rfl) (pa_cons (pv 0) (pa_cons (pe_ix ix_list (pv 1) pe_int (fun _ _ => rfl)) pa_nil))) (pe_lst pa_nil) (nomark _)) (pss_one (ps_ret (pe_lst pa_nil))) pss_nil) (pss_one (ps_asg (pe_op op_add (pe_ix ix_list (pv 1) pe_int (fun _ _ => rfl)) pe_int) (pg_sub (pv 1) pe_int set_list))))) (pss_cons (ps_if (PW.pt (pw_and (pt_cmpR op_notN (pe_ix ix_list (pv 1) pe_int (fun _ _ => rfl)) pe_non (nomark _)) (pw_and1 (pt_cmpR op_ge (pe_ix ix_list (pv 1) pe_int (fun _ _ => rfl)) (pe_ix ix_list (pv 1) pe_int (fun _ _ => rfl)) (nomark _))))) (pss_one (ps_ret (pe_lst pa_nil))) pss_nil) (pss_cons (ps_set (i := 2) nd rfl (Or.inl rfl) (C8.pe_c c__law_pull hr (by omega) (by rfl) (pa_cons (pv 0) (pa_cons (pe_ix ix_list (pv 1) pe_int (fun _ _ => rfl)) pa_nil)))) (pss_cons (ps_asg (pe_tup (pa_cons (pe_op op_add (pe_ix ix_list (pv 1) pe_int (fun _ _ => rfl)) pe_int) (pa_cons (pe_op op_add (pe_ix ix_list (pv 1) pe_int (fun _ _ => rfl)) (pe_ix ix_list (pv 1) pe_int (fun _ _ => rfl))) pa_nil))) (pg_tup rfl (pgs_cons (pg_sub (pv 1) pe_int set_list) (pgs_cons (pg_sub (pv 1) pe_int set_list) pgs_nil)))) (pss_one (ps_ret (pv 2)))))))
theorem k__law_all (T : Tx K mg) {k k0 : Nat} {sp__law_pull : Sp} (c__law_pull : C8.Cal P w K mg base k0 "_law_pull" sp__law_pull []) (h0 : k0 + 2 ≤ k) {f : Addr} {cdv : Value} {A : Around} {outer : List Env} {s : Shared} {H : Hp} {E : XK} (hr : Room k (A.deeper (envOfC "_law_all" (defScope (top 97)) s.heap.objs.size f cdv))) :
    PSs (cxOf C8.CX0 P w K mg base ["_law_play_here", "_law_source", "_law_found", "_law_got"] "_law_all" (defScope (top 97)) f cdv A outer s H E).nox (defBody (top 97)) (r__law_all K sp__law_pull) := by
  have nd : (["_law_play_here", "_law_source", "_law_found", "_law_got"] : List Str).Nodup := by decide +kernel
  exact (pss_cons (ps_par (i := 2) (j := 3) rfl nd rfl rfl (by decide) rfl rfl (pa_cons (pe_lst pa_nil) (pa_cons (C8.pe_c c__law_pull hr (by omega) (by rfl) (pa_cons (pv 0) (pa_cons (pv 1) pa_nil))) pa_nil)) (by rfl)) (pss_cons (ps_while PassesOwn.never (pt_cmpR (op_neD hr.units) (pv 3) (pe_lst pa_nil) (nomark _)) (pss_one (ps_par (i := 2) (j := 3) rfl nd rfl rfl (by decide) rfl rfl (pa_cons (pe_op op_cat (pv 2) (pv 3)) (pa_cons (C8.pe_c c__law_pull hr (by omega) (by rfl) (pa_cons (pv 0) (pa_cons (pv 1) pa_nil))) pa_nil)) (by rfl)))) (pss_one (ps_ret (pv 2)))))
theorem k__law_names_of (T : Tx K mg) {k : Nat} {f : Addr} {cdv : Value} {A : Around} {outer : List Env} {s : Shared} {H : Hp} {E : XK} (hr : Room k (A.deeper (envOfC "_law_names_of" (defScope (top 98)) s.heap.objs.size f cdv))) :
    PSs (cxOf C8.CX0 P w K mg base ["_law_written"] "_law_names_of" (defScope (top 98)) f cdv A outer s H E).nox (defBody (top 98)) (r__law_names_of K) := by
  have nd : (["_law_written"] : List Str).Nodup := by decide +kernel
  exact (pss_one (ps_ret (pe_callTy call_tuple_of (by rfl) T.f_tuple (by decide +kernel) (pa_cons (pe_slice sl_list (pe_split (pv 0) pe_str) po_none (po_some (pe_un un_neg pe_int))) pa_nil))))
theorem k__law_call_begun (T : Tx K mg) {k k0 : Nat} {sp__law_names_of : Sp} (c__law_names_of : C8.Cal P w K mg base k0 "_law_names_of" sp__law_names_of []) (h0 : k0 + 2 ≤ k) {f : Addr} {cdv : Value} {A : Around} {outer : List Env} {s : Shared} {H : Hp} {E : XK} (hr : Room k (A.deeper (envOfC "_law_call_begun" (defScope (top 99)) s.heap.objs.size f cdv))) :
    PSs (cxOf C8.CX0 P w K mg base ["_law_body", "_law_source", "_law_word", "_law_inner", "_law_pieces", "_law_given", "_law_names_here", "_law_tests_here"] "_law_call_begun" (defScope (top 99)) f cdv A outer s H E).nox (defBody (top 99)) (r__law_call_begun K sp__law_names_of) := by
  have nd : (["_law_body", "_law_source", "_law_word", "_law_inner", "_law_pieces", "_law_given", "_law_names_here", "_law_tests_here"] : List Str).Nodup := by decide +kernel
  exact (pss_cons (ps_set (i := 2) nd rfl (Or.inl rfl) (pe_slice C8.sl_txt (pv 0) po_none (po_some (pe_m1 PySem.F.slot_str_find PySem.F.type_str_find mt_find (pv 0) pe_str)))) (pss_cons (ps_set (i := 3) nd rfl (Or.inl rfl) (pe_slice C8.sl_txt (pv 0) (po_some (pe_op op_add (pe_callB call_len (by rfl) T.f_len (by decide +kernel) (pa_cons (pv 2) pa_nil)) pe_int)) (po_some (pe_un un_neg pe_int)))) (pss_cons (ps_if (pt_cmpR op_eq (pv 2) pe_str (nomark _)) (pss_cons (ps_set (i := 4) nd rfl (Or.inl rfl) (pe_slice sl_list (pe_split (pv 3) pe_str) (po_some pe_int) po_none)) (pss_cons (ps_if (pt_cmpR op_eq (pe_callB call_len (by rfl) T.f_len (by decide +kernel) (pa_cons (pv 4) pa_nil)) pe_int (nomark _)) (pss_one (ps_ret (pe_lst (pa_cons pe_str (pa_cons (pv 1) (pa_cons pe_int (pa_cons pe_int (pa_cons (pe_callTy call_int_str (by rfl) T.f_int (by decide +kernel) (pa_cons (pe_ix ix_list (pv 4) pe_int (fun _ _ => rfl)) pa_nil)) (pa_cons pe_int pa_nil))))))))) pss_nil) (pss_one (ps_ret (pe_lst (pa_cons pe_str (pa_cons (pv 1) (pa_cons pe_int (pa_cons (pe_callTy call_int_str (by rfl) T.f_int (by decide +kernel) (pa_cons (pe_ix ix_list (pv 4) pe_int (fun _ _ => rfl)) pa_nil)) (pa_cons pe_non (pa_cons (pe_ifExp (pt_cmpR op_eq (pe_callB call_len (by rfl) T.f_len (by decide +kernel) (pa_cons (pv 4) pa_nil)) pe_int (nomark _)) (pe_callTy call_int_str (by rfl) T.f_int (by decide +kernel) (pa_cons (pe_ix ix_list (pv 4) pe_int (fun _ _ => rfl)) pa_nil)) pe_int) pa_nil))))))))))) pss_nil) (pss_cons (ps_set (i := 5) nd rfl (Or.inl rfl) (pe_slice C8.sl_txt (pv 3) po_none (po_some (pe_un un_neg pe_int)))) (pss_cons (ps_set (i := 6) nd rfl (Or.inl rfl) (pe_ifExp (pt_cmpR op_eq (pe_slice C8.sl_txt (pv 5) po_none (po_some pe_int)) pe_str (nomark _)) (C8.pe_c c__law_names_of hr (by omega) (by rfl) (pa_cons (pe_slice C8.sl_txt (pv 5) (po_some pe_int) po_none) pa_nil)) (pe_tup (pa_cons (pv 5) pa_nil)))) (pss_cons (ps_if (pt_cmpR op_eq (pv 2) pe_str (nomark _)) (pss_one (ps_ret (pe_lst (pa_cons pe_str (pa_cons (pv 1) (pa_cons (pe_lst pa_nil) (pa_cons (pv 6) pa_nil))))))) pss_nil) (pss_cons (ps_set (i := 7) nd rfl (Or.inl rfl) (pe_lst (pa_cons (pe_tup (pa_cons (pv 6) (pa_cons pe_bl pa_nil))) pa_nil))) (pss_one (ps_ret (pe_ifExp (pt_cmpR op_eq (pv 2) pe_str (nomark _)) (pe_lst (pa_cons pe_str (pa_cons (pv 1) (pa_cons (pv 7) (pa_cons (pe_tup pa_nil) pa_nil))))) (pe_lst (pa_cons (pv 2) (pa_cons (pv 1) (pa_cons (pv 7) (pa_cons pe_bl pa_nil)))))))))))))))
theorem k__law_line_done (T : Tx K mg) {k k0 k1 k2 : Nat} {sp__law_all sp__law_names_of sp__law_call_begun : Sp} (c__law_all : C8.Cal P w K mg base k0 "_law_all" sp__law_all []) (h0 : k0 + 2 ≤ k) (c__law_names_of : C8.Cal P w K mg base k1 "_law_names_of" sp__law_names_of []) (h1 : k1 + 2 ≤ k) (c__law_call_begun : C8.Cal P w K mg base k2 "_law_call_begun" sp__law_call_begun []) (h2 : k2 + 2 ≤ k) {f : Addr} {cdv : Value} {A : Around} {outer : List Env} {s : Shared} {H : Hp} {E : XK} (hr : Room k (A.deeper (envOfC "_law_line_done" (defScope (top 100)) s.heap.objs.size f cdv))) :
    PSs (cxOf C8.CX0 P w K mg base ["_law_play_here", "_law_line", "_law_source", "_law_found", "_law_tail", "_law_pieces", "_law_tests_here", "_law_begun", "_law_piece"] "_law_line_done" (defScope (top 100)) f cdv A outer s H E).nox (defBody (top 100)) (r__law_line_done K sp__law_all sp__law_names_of sp__law_call_begun) := by
  have nd : (["_law_play_here", "_law_line", "_law_source", "_law_found", "_law_tail", "_law_pieces", "_law_tests_here", "_law_begun", "_law_piece"] : List Str).Nodup := by decide +kernel
  exact (pss_cons (ps_if (pt_cmpR op_eq (pe_slice C8.sl_txt (pv 1) po_none (po_some pe_int)) pe_str (nomark _)) (pss_cons (ps_par (i := 3) (j := 4) rfl nd rfl rfl (by decide) rfl rfl (pa_cons (C8.pe_c c__law_all hr (by omega) (by rfl) (pa_cons (pv 0) (pa_cons (pv 2) pa_nil))) (pa_cons (pe_slice C8.sl_txt (pv 1) (po_some pe_int) po_none) pa_nil)) (by rfl)) (pss_cons (ps_if (pt_cmpR op_eq (pe_slice C8.sl_txt (pv 4) po_none (po_some pe_int)) pe_str (nomark _)) (pss_one (ps_set (i := 3) nd rfl (Or.inl rfl) (pe_slice sl_list (pv 3) (po_some (pe_un un_neg (pe_callTy call_int_str (by rfl) T.f_int (by decide +kernel) (pa_cons (pe_ix ix_str (pv 4) pe_int (fun _ _ => rfl)) pa_nil)))) po_none))) (pss_one (ps_if (pt_cmpR op_eq (pe_slice C8.sl_txt (pv 4) po_none (po_some pe_int)) pe_str (nomark _)) (pss_one (ps_set (i := 3) nd rfl (Or.inl rfl) (pe_slice sl_list (pv 3) po_none (po_some (pe_un un_neg (pe_callTy call_int_str (by rfl) T.f_int (by decide +kernel) (pa_cons (pe_ix ix_str (pv 4) pe_int (fun _ _ => rfl)) pa_nil))))))) pss_nil))) (pss_one (ps_ret (pe_lst (pa_cons pe_str (pa_cons (pe_ifExp (pt_cmpR op_eq (pv 4) pe_str (nomark _)) (pe_revL (pv 3)) (pv 3)) (pa_cons pe_int pa_nil)))))))) pss_nil) (pss_cons (ps_if (pt_cmpR op_in_seq (pe_ix ix_str (pv 1) pe_int (fun _ _ => rfl)) (pe_lst (pa_cons pe_str (pa_cons pe_str pa_nil))) (by rfl)) (pss_setB (i := 5) nd rfl (Or.inl rfl) (peb_split (pe_slice C8.sl_txt (pv 1) (po_some pe_int) (po_some (pe_un un_neg pe_int)))) (psst_cons (pst_setLcT (i := 6) (own := [("_law_piece", 8)]) (g := gName 8) (tt := tYes) rfl nd rfl rfl (sw_true rfl rfl rfl (by decide +kernel)) (pi_list (pe_slice sl_list (pv 5) (po_some pe_int) po_none)) (blkOk_by (N := ["_law_play_here", "_law_line", "_law_source", "_law_found", "_law_tail", "_law_pieces", "_law_tests_here", "_law_begun", "_law_piece"]) (sc := defScope (top 100)) (by decide +kernel)) (fun _ _ _ _ _ => (pg_name (i := 8) nd rfl (Or.inl rfl))) (fun _ _ _ _ _ => pts_nil) (fun _ _ _ _ _ => (pet_tup (pat_cons (pet_c c__law_names_of hr (by omega) (by rfl) (pat_cons (CwR.pet_replC (y := "not ") (z := "") (pv 8)) pat_nil)) (pat_cons (CwR.PET.of (pe_cmpR op_ne (pe_slice C8.sl_txt (pv 8) po_none (po_some pe_int)) pe_str (nomark _))) pat_nil))))) (PSsT.of (pss_cons (ps_set (i := 7) nd rfl (Or.inl rfl) (pe_lst (pa_cons pe_str (pa_cons (pv 2) (pa_cons (pv 6) (pa_cons (C8.pe_c c__law_names_of hr (by omega) (by rfl) (pa_cons (pe_ix ix_list (pv 5) pe_int (fun _ _ => rfl)) pa_nil)) pa_nil)))))) (pss_one (ps_ret (pe_ifExp (pt_cmpR op_eq (pe_ix ix_str (pv 1) pe_int (fun _ _ => rfl)) pe_str (nomark _)) (pe_lst (pa_cons pe_str (pa_cons (C8.pe_c c__law_all hr (by omega) (by rfl) (pa_cons (pv 0) (pa_cons (pv 7) pa_nil))) (pa_cons pe_int pa_nil)))) (pv 7)))))))) pss_nil) (pss_cons (ps_if (pt_cmpR op_eq (pe_slice C8.sl_txt (pv 1) (po_some pe_int) (po_some pe_int)) pe_str (nomark _)) (pss_one (ps_ret (pe_lst (pa_cons pe_str (pa_cons (C8.pe_c c__law_all hr (by omega) (by rfl) (pa_cons (pv 0) (pa_cons (C8.pe_c c__law_call_begun hr (by omega) (by rfl) (pa_cons (pe_slice C8.sl_txt (pv 1) (po_some pe_int) (po_some (pe_un un_neg pe_int))) (pa_cons (pv 2) pa_nil))) pa_nil))) (pa_cons pe_int pa_nil)))))) pss_nil) (pss_one (ps_ret (C8.pe_c c__law_call_begun hr (by omega) (by rfl) (pa_cons (pe_slice C8.sl_txt (pv 1) (po_some pe_int) po_none) (pa_cons (pv 2) pa_nil))))))))
theorem k__law_carried (T : Tx K mg) {k k0 k1 : Nat} {sp__law_line_done sp__law_all : Sp} (c__law_line_done : C8.Cal P w K mg base k0 "_law_line_done" sp__law_line_done []) (h0 : k0 + 2 ≤ k) (c__law_all : C8.Cal P w K mg base k1 "_law_all" sp__law_all []) (h1 : k1 + 2 ≤ k) {f : Addr} {cdv : Value} {A : Around} {outer : List Env} {s : Shared} {H : Hp} {E : XK} (hr : Room k (A.deeper (envOfC "_law_carried" (defScope (top 101)) s.heap.objs.size f cdv))) :
    PSs (cxOf C8.CX0 P w K mg base ["_law_play_here", "_law_written", "_law_values_here", "_law_source", "_law_line"] "_law_carried" (defScope (top 101)) f cdv A outer s H E).nox (defBody (top 101)) (r__law_carried K sp__law_line_done sp__law_all) := by
  have nd : (["_law_play_here", "_law_written", "_law_values_here", "_law_source", "_law_line"] : List Str).Nodup := by decide +kernel
  exact (pss_cons (ps_set (i := 3) nd rfl (Or.inl rfl) (pe_lst (pa_cons pe_str (pa_cons (pe_callTy call_list_of (by rfl) T.f_list (by decide +kernel) (pa_cons (pv 2) pa_nil)) (pa_cons pe_int pa_nil))))) (pss_cons (ps_for PassesOwn.never rfl (pi_list (pe_slice sl_list (pe_split (pv 1) pe_str) po_none (po_some (pe_un un_neg pe_int)))) (pg_name (i := 4) nd rfl (Or.inl rfl)) (pss_one (ps_set (i := 3) nd rfl (Or.inl rfl) (C8.pe_c c__law_line_done hr (by omega) (by rfl) (pa_cons (pv 0) (pa_cons (pv 4) (pa_cons (pv 3) pa_nil))))))) (pss_one (ps_ret (pe_callTy call_tuple_of (by rfl) T.f_tuple (by decide +kernel) (pa_cons (C8.pe_c c__law_all hr (by omega) (by rfl) (pa_cons (pv 0) (pa_cons (pv 3) pa_nil))) pa_nil))))))
theorem k__law_answer (T : Tx K mg) {k : Nat} {f : Addr} {cdv : Value} {A : Around} {outer : List Env} {s : Shared} {H : Hp} {E : XK} (hr : Room k (A.deeper (envOfC "_law_answer" (defScope (top 102)) s.heap.objs.size f cdv))) :
    PSs (cxOf C8.CX0 P w K mg base ["_law_play_here", "_law_tag", "_law_thing"] "_law_answer" (defScope (top 102)) f cdv A outer s H E).nox (defBody (top 102)) (r__law_answer K) := by
  have nd : (["_law_play_here", "_law_tag", "_law_thing"] : List Str).Nodup := by decide +kernel
  exact (pss_cons (ps_expr (pe_bm PySem.F.plainAttrs_list PySem.F.slot_list_append PySem.F.type_list_append mt_append (pe_ix ix_list (pv 0) pe_int (fun _ _ => rfl)) (pa_cons (pe_op op_add_str (pe_op op_add_str (pe_op op_add_str (pv 1) pe_str) (pv 2)) pe_str) pa_nil))) (pss_one (ps_ret (pe_op op_add_str (pe_op op_add_str (pe_op op_add_str (pv 1) pe_str) (pv 2)) pe_str))))
theorem k__law_truth (T : Tx K mg) {k : Nat} {f : Addr} {cdv : Value} {A : Around} {outer : List Env} {s : Shared} {H : Hp} {E : XK} (hr : Room k (A.deeper (envOfC "_law_truth" (defScope (top 103)) s.heap.objs.size f cdv))) :
    PSs (cxOf C8.CX0 P w K mg base ["_law_play_here", "_law_told_here", "_law_pieces", "_law_entry"] "_law_truth" (defScope (top 103)) f cdv A outer s H E).nox (defBody (top 103)) (r__law_truth K) := by
  have nd : (["_law_play_here", "_law_told_here", "_law_pieces", "_law_entry"] : List Str).Nodup := by decide +kernel
  exact (pss_cons (ps_set (i := 2) nd rfl (Or.inl rfl) (pe_split (pv 1) pe_str)) (pss_cons (ps_set (i := 3) nd rfl (Or.inl rfl) (pe_callTy call_int_str (by rfl) T.f_int (by decide +kernel) (pa_cons (pe_slice C8.sl_txt (pe_replB (y := ")") (z := "") (peb_ix ix_list (pv 2) peb_neg (fun _ _ => rfl))) (po_some pe_int) po_none) pa_nil))) (pss_one (ps_ret (pe_ix ix_tup (pe_ix ix_tup (pe_ix ix_list (pv 0) pe_int (fun _ _ => rfl)) (pv 3) (fun _ _ => rfl)) (pe_tupIndex (hu65 hr) (pe_ix ix_list (pv 0) pe_int (fun _ _ => rfl)) (pa_cons (pe_callTy call_tuple_of (by rfl) T.f_tuple (by decide +kernel) (pa_cons (pe_slice sl_list (pv 2) po_none (po_some (pe_un un_neg pe_int))) pa_nil)) pa_nil)) (fun _ _ => rfl))))))
theorem k__law_played_right (T : Tx K mg) {k k0 k1 k2 k3 k4 k5 k6 k7 k8 : Nat} {sp__law_take sp__law_atoms sp__law_truths sp__law_carried sp_str_Flow sp_World_play sp_World sp_Play_calls sp_Play_entries : Sp} (c__law_take : C8.Cal P w K mg base k0 "_law_take" sp__law_take []) (h0 : k0 + 2 ≤ k) (c__law_atoms : C8.Cal P w K mg base k1 "_law_atoms" sp__law_atoms []) (h1 : k1 + 2 ≤ k) (c__law_truths : C8.Cal P w K mg base k2 "_law_truths" sp__law_truths []) (h2 : k2 + 2 ≤ k) (c__law_carried : C8.Cal P w K mg base k3 "_law_carried" sp__law_carried []) (h3 : k3 + 2 ≤ k) (F_str_Flow : FnR P w K mg base C8.CX0 k4 (He.ma K (He.ga K "Flow") "__str__") sp_str_Flow) (h4 : k4 + 2 ≤ k) (c_World_play : C8.Met P w K mg base k5 (He.ga K "World") "play" sp_World_play []) (h5 : k5 + 2 ≤ k) (c_World : C8.Mak P w K mg base k6 "World" (He.ga K "World") sp_World []) (h6 : k6 + 2 ≤ k) (c_Play_calls : Gtr P w K mg base k7 (He.ga K "Play") "calls" sp_Play_calls) (h7 : k7 + 2 ≤ k) (c_Play_entries : Gtr P w K mg base k8 (He.ga K "Play") "entries" sp_Play_entries) (h8 : k8 + 2 ≤ k) {f : Addr} {cdv : Value} {A : Around} {outer : List Env} {s : Shared} {H : Hp} {E : XK} (hg : (A.deeper (envOfC "_law_played_right" (defScope (top 104)) s.heap.objs.size f cdv)).guards = some []) (hr : Room k (A.deeper (envOfC "_law_played_right" (defScope (top 104)) s.heap.objs.size f cdv))) :
    PSs (cxOf C8.CX0 P w K mg base ["_law_purse_here", "_law_mine", "_law_steps", "_law_atoms_here", "_law_many", "_law_spare", "_law_truths_here", "_law_calls_here", "_law_due", "_law_told", "_law_k"] "_law_played_right" (defScope (top 104)) f cdv A outer s H E).nox (defBody (top 104)) (r__law_played_right K sp__law_take sp__law_atoms sp__law_truths sp__law_carried sp_str_Flow sp_World_play sp_World sp_Play_calls sp_Play_entries) := by
  have nd : (["_law_purse_here", "_law_mine", "_law_steps", "_law_atoms_here", "_law_many", "_law_spare", "_law_truths_here", "_law_calls_here", "_law_due", "_law_told", "_law_k"] : List Str).Nodup := by decide +kernel
  exact (pss_cons (ps_asg (pe_tup (pa_cons (C8.pe_c c__law_atoms hr (by omega) (by rfl) (pa_cons (pv 2) pa_nil)) (pa_cons (pe_ix ix_list (pe_lst (pa_cons (C8.pe_c c__law_take hr (by omega) (by rfl) (pa_cons (pv 0) (pa_cons pe_int pa_nil))) (pa_cons pe_int pa_nil))) (pe_callTy call_int1 (by rfl) T.f_int (by decide +kernel) (pa_cons (pe_cmpR op_eq (C8.pe_c c__law_take hr (by omega) (by rfl) (pa_cons (pv 0) (pa_cons pe_int pa_nil))) pe_int (nomark _)) pa_nil)) (fun _ _ => rfl)) pa_nil))) (pg_tup rfl (pgs_cons (pg_name (i := 3) nd rfl (Or.inr rfl)) (pgs_cons (pg_name (i := 4) nd rfl (Or.inl rfl)) pgs_nil)))) (pss_cons (ps_set (i := 5) nd rfl (Or.inl rfl) (pe_tup (pa_cons pe_str (pa_cons pe_str (pa_cons pe_str pa_nil))))) (pss_cons (ps_if (PW.pt (pw_and (pt_cmpR op_lt (pe_callB call_len (by rfl) T.f_len (by decide +kernel) (pa_cons (pv 3) pa_nil)) pe_int (nomark _)) (pw_and (pt_cmpR (op_notInDT (hu65 hr)) (pv 5) (pv 3) (by rfl)) (pw_and1 (pt_cmpR op_eq (C8.pe_c c__law_take hr (by omega) (by rfl) (pa_cons (pv 0) (pa_cons pe_int pa_nil))) pe_int (nomark _)))))) (pss_one (ps_set (i := 3) nd rfl (Or.inr rfl) (pe_op op_catF (pv 3) (pe_tupF (pa_cons (pv 5) pa_nil))))) pss_nil) (pss_cons (ps_if (pt_cmpR op_eq (C8.pe_c c__law_take hr (by omega) (by rfl) (pa_cons (pv 0) (pa_cons pe_int pa_nil))) pe_int (nomark _)) (pss_one (ps_set (i := 3) nd rfl (Or.inr rfl) (pe_revTF (pv 3)))) pss_nil) (pss_cons (ps_set (i := 6) nd rfl (Or.inl rfl) (pe_callTy call_tuple_of (by rfl) T.f_tuple (by decide +kernel) (pa_cons (pe_lc (own := [("_law_k", 10)]) (g := gName 10) (tt := tYes) rfl nd (pi_range1 (by rfl) T.f_range (pa_cons (pv 4) pa_nil)) (blkOk_by (N := ["_law_purse_here", "_law_mine", "_law_steps", "_law_atoms_here", "_law_many", "_law_spare", "_law_truths_here", "_law_calls_here", "_law_due", "_law_told", "_law_k"]) (sc := defScope (top 104)) (by decide +kernel)) (fun _ _ _ _ _ => (pg_name (i := 10) nd rfl (Or.inl rfl))) (fun _ _ _ _ _ => pts_nil) (fun _ _ _ _ _ => (C8.pe_c c__law_truths hr (by omega) (by rfl) (pa_cons (pv 0) (pa_cons (pe_callB call_len (by rfl) T.f_len (by decide +kernel) (pa_cons (pv 3) pa_nil)) pa_nil))))) pa_nil))) (pss_cons (ps_set (i := 7) nd rfl (Or.inl rfl) (pe_lst pa_nil)) (pss_cons (ps_set (i := 8) nd rfl (Or.inl rfl) (C8.pe_c c__law_carried hr (by omega) (by rfl) (pa_cons (pe_lst (pa_cons (pv 7) (pa_cons (pv 3) (pa_cons (pv 6) pa_nil)))) (pa_cons (pe_callTy (call_strOwn T.str_Flow.1 T.str_Flow.2 F_str_Flow (hr.mono (by omega)) C8.pass0) (by rfl) T.f_str (by decide +kernel) (pa_cons (pv 1) pa_nil)) (pa_cons (pe_lc (own := [("_law_k", 10)]) (g := gName 10) (tt := tYes) rfl nd (pi_range1 (by rfl) T.f_range (pa_cons (pv 4) pa_nil)) (blkOk_by (N := ["_law_purse_here", "_law_mine", "_law_steps", "_law_atoms_here", "_law_many", "_law_spare", "_law_truths_here", "_law_calls_here", "_law_due", "_law_told", "_law_k"]) (sc := defScope (top 104)) (by decide +kernel)) (fun _ _ _ _ _ => (pg_name (i := 10) nd rfl (Or.inl rfl))) (fun _ _ _ _ _ => pts_nil) (fun _ _ _ _ _ => (pe_op op_add_str pe_str (pe_callTy call_str_int (by rfl) T.f_str (by decide +kernel) (pa_cons (pv 10) pa_nil))))) pa_nil))))) (pss_cons (ps_set (i := 9) nd rfl (Or.inl rfl) (C8.pe_mt c_World_play hr (by omega) (C8.pe_mk c_World hr (by omega) (by rfl) (pa_cons (pv 3) (pa_cons (pv 6) pa_nil))) (pa_cons (pv 1) pa_nil))) (pss_one (ps_ret (pe_cmpR op_eq (pe_callB (call_reprD hg (hu65 hr)) (by rfl) T.f_repr (by decide +kernel) (pa_cons (pe_lst (pa_cons (pe_gt c_Play_entries hr (by omega) (pv 9)) (pa_cons (pe_gt c_Play_calls hr (by omega) (pv 9)) pa_nil))) pa_nil)) (pe_callB (call_reprD hg (hu65 hr)) (by rfl) T.f_repr (by decide +kernel) (pa_cons (pe_lst (pa_cons (pv 8) (pa_cons (pe_callTy call_tuple_of (by rfl) T.f_tuple (by decide +kernel) (pa_cons (pv 7) pa_nil)) pa_nil))) pa_nil)) (nomark _))))))))))))
theorem k__law_right (T : Tx K mg) {k k0 k1 k2 : Nat} {sp__law_playable sp__law_flow sp__law_played_right : Sp} (c__law_playable : C8.Cal P w K mg base k0 "_law_playable" sp__law_playable []) (h0 : k0 + 2 ≤ k) (c__law_flow : C8.Cal P w K mg base k1 "_law_flow" sp__law_flow []) (h1 : k1 + 2 ≤ k) (c__law_played_right : CalG P w K mg base k2 "_law_played_right" sp__law_played_right) (h2 : k2 + 2 ≤ k) {f : Addr} {cdv : Value} {A : Around} {outer : List Env} {s : Shared} {H : Hp} {E : XK} (hg : (A.deeper (envOfC "_law_right" (defScope (top 105)) s.heap.objs.size f cdv)).guards = some []) (hr : Room k (A.deeper (envOfC "_law_right" (defScope (top 105)) s.heap.objs.size f cdv))) :
    PSs (cxOf C8.CX0 P w K mg base ["_law_purse_here", "_law_turn", "_law_steps", "_law_mine", "_law_again"] "_law_right" (defScope (top 105)) f cdv A outer s H E).nox (defBody (top 105)) (r__law_right K sp__law_playable sp__law_flow sp__law_played_right) := by
  have nd : (["_law_purse_here", "_law_turn", "_law_steps", "_law_mine", "_law_again"] : List Str).Nodup := by decide +kernel
  exact (pss_cons (ps_for PassesOwn.never rfl (pi_range1 (by rfl) T.f_range (pa_cons pe_int pa_nil)) (pg_name (i := 1) nd rfl (Or.inl rfl)) (pss_cons (ps_set (i := 2) nd rfl (Or.inr rfl) (C8.pe_c c__law_playable hr (by omega) (by rfl) (pa_cons (pv 0) pa_nil))) (pss_cons (ps_set (i := 3) nd rfl (Or.inr rfl) (C8.pe_c c__law_flow hr (by omega) (by rfl) (pa_cons (pv 2) pa_nil))) (pss_one (ps_if (pt_not (pt_val (pe_callB (cr_all rfl) (by rfl) T.f_all (by decide +kernel) (pa_cons (pe_lc (own := [("_law_again", 4)]) (g := gName 4) (tt := tYes) rfl nd (pi_range1 (by rfl) T.f_range (pa_cons pe_int pa_nil)) (blkOk_by (N := ["_law_purse_here", "_law_turn", "_law_steps", "_law_mine", "_law_again"]) (sc := defScope (top 105)) (by decide +kernel)) (fun _ _ _ _ _ => (pg_name (i := 4) nd rfl (Or.inl rfl))) (fun _ _ _ _ _ => pts_nil) (fun _ _ _ _ _ => (pe_cG c__law_played_right hg hr (by omega) (by rfl) (pa_cons (pv 0) (pa_cons (pv 3) (pa_cons (pv 2) pa_nil)))))) pa_nil)))) (pss_one (ps_ret pe_bl)) pss_nil))))) (pss_one (ps_ret pe_bl)))
theorem k_law (T : Tx K mg) {k k0 k1 k2 k3 k4 k5 k6 k7 k8 : Nat} {sp_Flow sp_Stage sp_World_play sp_World sp_Play_calls sp_Play_entries sp__law_right sp__law_purse sp__law_cell : Sp} (F_Flow : FnR P w K mg base C8.CX0 k0 (He.ma K (He.ga K "Flow") "__init__") sp_Flow) (h0 : k0 + 2 ≤ k) {fdS : FuncData} {psS : List Str} (F_Stage : FnOk P w K mg base C8.CX0 k1 (He.ma K (He.ga K "Stage") "__init__") fdS psS sp_Stage) {gv_Stage2p : List V → List V → List V} {gw_gv_Stage2p : List Value → List Value → List Value} (kb_Stage2p : KBn K fdS psS 3 [] gw_gv_Stage2p gv_Stage2p) (h1 : k1 + 2 ≤ k) (c_World_play : C8.Met P w K mg base k2 (He.ga K "World") "play" sp_World_play []) (h2 : k2 + 2 ≤ k) (c_World : C8.Mak P w K mg base k3 "World" (He.ga K "World") sp_World []) (h3 : k3 + 2 ≤ k) (c_Play_calls : Gtr P w K mg base k4 (He.ga K "Play") "calls" sp_Play_calls) (h4 : k4 + 2 ≤ k) (c_Play_entries : Gtr P w K mg base k5 (He.ga K "Play") "entries" sp_Play_entries) (h5 : k5 + 2 ≤ k) (c__law_right : CalG P w K mg base k6 "_law_right" sp__law_right) (h6 : k6 + 2 ≤ k) (c__law_purse : C8.Cal P w K mg base k7 "_law_purse" sp__law_purse []) (h7 : k7 + 2 ≤ k) (c__law_cell : C8.Cal P w K mg base k8 "_law_cell" sp__law_cell []) (h8 : k8 + 2 ≤ k) {f : Addr} {cdv : Value} {A : Around} {outer : List Env} {s : Shared} {H : Hp} {E : XK} (hg : (A.deeper (envOfC "law" (defScope (top 106)) s.heap.objs.size f cdv)).guards = some []) (hr : Room k (A.deeper (envOfC "law" (defScope (top 106)) s.heap.objs.size f cdv))) :
    PSs (cxOf C8.CX0 P w K mg base ["_law_cells", "_law_mine", "_law_told", "_law_k"] "law" (defScope (top 106)) f cdv A outer s H E).nox (defBody (top 106)) (r_law K sp_Flow sp_Stage sp_World_play sp_World sp_Play_calls sp_Play_entries sp__law_right sp__law_purse sp__law_cell gv_Stage2p) := by
  have nd : (["_law_cells", "_law_mine", "_law_told", "_law_k"] : List Str).Nodup := by decide +kernel
  exact (pss_cons (ps_set (i := 1) nd rfl (Or.inl rfl) (StX.pe_makeR T.mk_Flow F_Flow (hr.mono (by omega)) (by rfl) T.g_Flow C8.pass0 (pa_cons (pe_makeN T.mk_Stage F_Stage (hr.mono (by omega)) (by rfl) T.g_Stage kb_Stage2p C8.pass0 (pa_cons pe_str (pa_cons (pe_tup (pa_cons pe_str pa_nil)) pa_nil)) pk_nil) (pa_cons (pe_makeN T.mk_Stage F_Stage (hr.mono (by omega)) (by rfl) T.g_Stage kb_Stage2p C8.pass0 (pa_cons pe_str (pa_cons pe_int pa_nil)) pk_nil) (pa_cons (pe_makeN T.mk_Stage F_Stage (hr.mono (by omega)) (by rfl) T.g_Stage kb_Stage2p C8.pass0 (pa_cons pe_str (pa_cons (pe_tup (pa_cons pe_str pa_nil)) pa_nil)) pk_nil) (pa_cons (pe_makeN T.mk_Stage F_Stage (hr.mono (by omega)) (by rfl) T.g_Stage kb_Stage2p C8.pass0 (pa_cons pe_str (pa_cons pe_int pa_nil)) pk_nil) pa_nil)))))) (pss_cons (ps_set (i := 2) nd rfl (Or.inl rfl) (C8.pe_mt c_World_play hr (by omega) (C8.pe_mk c_World hr (by omega) (by rfl) (pa_cons (pe_tup (pa_cons (pe_tup (pa_cons pe_str pa_nil)) pa_nil)) (pa_cons (pe_tup (pa_cons (pe_tup (pa_cons pe_bl pa_nil)) (pa_cons (pe_tup (pa_cons pe_bl pa_nil)) (pa_cons (pe_tup (pa_cons pe_bl pa_nil)) pa_nil)))) pa_nil))) (pa_cons (pv 1) pa_nil))) (pss_cons (ps_if (pt_cmpR op_ne (pe_callB (call_reprD hg (hu65 hr)) (by rfl) T.f_repr (by decide +kernel) (pa_cons (pe_lst (pa_cons (pe_gt c_Play_entries hr (by omega) (pv 2)) (pa_cons (pe_gt c_Play_calls hr (by omega) (pv 2)) pa_nil))) pa_nil)) pe_str (nomark _)) (pss_one (ps_ret pe_bl)) pss_nil) (pss_one (ps_ret (pe_callB (cr_all rfl) (by rfl) T.f_all (by decide +kernel) (pa_cons (pe_lc (own := [("_law_k", 3)]) (g := gName 3) (tt := tYes) rfl nd (pi_range1 (by rfl) T.f_range (pa_cons (pe_callB (call_max2 rfl) (by rfl) T.f_max (by decide +kernel) (pa_cons pe_int (pa_cons (pe_callB (call_min2 rfl) (by rfl) T.f_min (by decide +kernel) (pa_cons (pe_callB call_len (by rfl) T.f_len (by decide +kernel) (pa_cons (pv 0) pa_nil)) (pa_cons pe_int pa_nil))) pa_nil))) pa_nil)) (blkOk_by (N := ["_law_cells", "_law_mine", "_law_told", "_law_k"]) (sc := defScope (top 106)) (by decide +kernel)) (fun _ _ _ _ _ => (pg_name (i := 3) nd rfl (Or.inl rfl))) (fun _ _ _ _ _ => pts_nil) (fun _ _ _ _ _ => (pe_cG c__law_right hg hr (by omega) (by rfl) (pa_cons (C8.pe_c c__law_purse hr (by omega) (by rfl) (pa_cons (C8.pe_c c__law_cell hr (by omega) (by rfl) (pa_cons (pv 0) (pa_cons (pv 3) pa_nil))) pa_nil)) pa_nil)))) pa_nil)))))))
end
end CF

/-! text CfJ0 -/
set_option Elab.async false
set_option linter.all false
set_option maxRecDepth 100000
set_option maxHeartbeats 4000000
/-! Flow(*stages) may be made -/
namespace CF
open PySem PySem.Spec PyProof.Rows L2 Evl
theorem us0 {us : List Value} (h : us.length = 0) : us = [] := List.eq_nil_of_length_eq_zero h
theorem us1 {us : List Value} (h : us.length = 1) : ∃ a, us = [a] := by
  match us, h with
  | [a], _ => exact ⟨a, rfl⟩
theorem us2 {us : List Value} (h : us.length = 2) : ∃ a b, us = [a, b] := by
  match us, h with
  | [a, b], _ => exact ⟨a, b, rfl⟩
theorem us3 {us : List Value} (h : us.length = 3) : ∃ a b c, us = [a, b, c] := by
  match us, h with
  | [a, b, c], _ => exact ⟨a, b, c, rfl⟩
section
variable {P : Program} {w : World} {K : PySem.W.Frag} {mg : Str → Option Value} {base : Heap}
theorem F_Flow (T : Tx K mg) : FnR P w K mg base C8.CX0 3 (He.ma K (He.ga K "Flow") "__init__") (sp_Flow K) := by
  obtain ⟨fd, F⟩ := T.d_Flow___init__
  obtain ⟨oc, od, dV, kV, doc, pm, an, cdv, ct, osl, rfl, lk, hcd, hD, hK⟩ := F.ex
  have hdV : dV = .none := by
    rcases hD with ⟨_, e⟩ | ⟨e, _⟩
    · exact e
    · exact absurd rfl e
  subst hdV
  have h := StX.fn_star (P := P) (w := w) (K := K) (mg := mg) (base := base) (CX := C8.CX0) (k := 2) (sp := sp_FlowB K) (N := ["self", "stages", "index", "stage"]) (ps := ["self"]) (pv := "stages") lk hcd (C8.fnScope_by (by decide +kernel)) (by intro _ _ _ _ _ _ _ _ _ _ _ z; exact z) (fun us rest hu => by obtain ⟨a, rfl⟩ := us1 hu; cases rest with | nil => rfl | cons r rs => rfl) (fun A outer s H vs Q E hr h => ⟨_, (k_Flow___init__ T hr).nox, p_Flow___init__ T h⟩)
  intro A outer s H us vs Q E hr e0 r q
  refine h A outer s H us vs Q E hr e0 r ?_
  obtain ⟨a, dx, svs, l, rfl, ha, hal, hl, k⟩ := q
  refine ⟨[.ref a], svs, rfl, rfl, ?_, fun p hp => ?_⟩
  · have := hal.len
    exact sz_of (by omega)
  · have e1 : Ex H (upd H p (.tup svs)) := Ex.new hp
    refine ⟨a, dx, p, svs, l, rfl, e1 a _ ha, upd_same, hal.imp fun _ _ z => z.fx (Fx.of e1), hl, fun H' k' hf => k H' ((Kp.of e1).trans k') hf⟩
end
end CF

/-! text CfJA -/
set_option Elab.async false
set_option linter.all false
set_option maxRecDepth 100000
set_option maxHeartbeats 4000000
/-! the defs may be called (printed by genjoin.py) -/
namespace CF
open PySem PySem.Spec PyProof.Rows L2 Evl
section
variable {P : Program} {w : World} {K : PySem.W.Frag} {mg : Str → Option Value} {base : Heap}
theorem c_is_integer (T : Tx K mg) : C8.Cal P w K mg base 1 "is_integer" sp_is_integer [] := by
  obtain ⟨fd, F⟩ := T.d_is_integer
  exact calN (k := 0) (N := ["value"]) (ps := ["value"]) F T.g_is_integer (by decide +kernel) (fun _ _ _ _ _ _ us hu => by obtain ⟨a, rfl⟩ := us1 hu; rfl) (fun vs H Q E h => by obtain ⟨_, rfl, _⟩ := h; rfl) (fun cdv A outer s H vs Q E hr h => ⟨_, k_is_integer T hr, p_is_integer h⟩)
theorem c_is_name (T : Tx K mg) : C8.Cal P w K mg base 1 "is_name" sp_is_name [] := by
  obtain ⟨fd, F⟩ := T.d_is_name
  exact calN (k := 0) (N := ["value", "sign"]) (ps := ["value"]) F T.g_is_name (by decide +kernel) (fun _ _ _ _ _ _ us hu => by obtain ⟨a, rfl⟩ := us1 hu; rfl) (fun vs H Q E h => by obtain ⟨_, rfl, _⟩ := h; rfl) (fun cdv A outer s H vs Q E hr h => ⟨_, k_is_name T hr, p_is_name h⟩)
theorem c_are_names (T : Tx K mg) : C8.Cal P w K mg base 4 "are_names" sp_are_names [] := by
  obtain ⟨fd, F⟩ := T.d_are_names
  exact calN (k := 3) (N := ["value", "least", "most", "name"]) (ps := ["value", "least", "most"]) F T.g_are_names (by decide +kernel) (fun _ _ _ _ _ _ us hu => by obtain ⟨a, b, c, rfl⟩ := us3 hu; rfl) (fun vs H Q E h => by obtain ⟨_, _, _, _, rfl, _⟩ := h; rfl) (fun cdv A outer s H vs Q E hr h => ⟨_, k_are_names T (c_is_name T) (by omega) hr, p_are_names h⟩)
theorem c_is_word (T : Tx K mg) : C8.Cal P w K mg base 7 "is_word" sp_is_word [] := by
  obtain ⟨fd, F⟩ := T.d_is_word
  exact calN (k := 6) (N := ["value"]) (ps := ["value"]) F T.g_is_word (by decide +kernel) (fun _ _ _ _ _ _ us hu => by obtain ⟨a, rfl⟩ := us1 hu; rfl) (fun vs H Q E h => by obtain ⟨_, _, rfl, _⟩ := h; rfl) (fun cdv A outer s H vs Q E hr h => ⟨_, k_is_word T (c_are_names T) (by omega) hr, p_is_word h⟩)
theorem c_is_test (T : Tx K mg) : C8.Cal P w K mg base 7 "is_test" sp_is_test [] := by
  obtain ⟨fd, F⟩ := T.d_is_test
  exact calN (k := 6) (N := ["value"]) (ps := ["value"]) F T.g_is_test (by decide +kernel) (fun _ _ _ _ _ _ us hu => by obtain ⟨a, rfl⟩ := us1 hu; rfl) (fun vs H Q E h => by obtain ⟨_, _, rfl, _⟩ := h; rfl) (fun cdv A outer s H vs Q E hr h => ⟨_, k_is_test T (c_are_names T) (by omega) hr, p_is_test h⟩)
theorem c_applied (T : Tx K mg) : C8.Cal P w K mg base 1 "applied" sp_applied [] := by
  obtain ⟨fd, F⟩ := T.d_applied
  exact calN (k := 0) (N := ["names", "argument", "text", "name"]) (ps := ["names", "argument"]) F T.g_applied (by decide +kernel) (fun _ _ _ _ _ _ us hu => by obtain ⟨a, b, rfl⟩ := us2 hu; rfl) (fun vs H Q E h => by obtain ⟨_, _, _, rfl, _⟩ := h; rfl) (fun cdv A outer s H vs Q E hr h => ⟨_, k_applied T hr, p_applied h⟩)
theorem c_is_count (T : Tx K mg) : C8.Cal P w K mg base 4 "is_count" sp_is_count [] := by
  obtain ⟨fd, F⟩ := T.d_is_count
  exact calN (k := 3) (N := ["value", "least"]) (ps := ["value", "least"]) F T.g_is_count (by decide +kernel) (fun _ _ _ _ _ _ us hu => by obtain ⟨a, b, rfl⟩ := us2 hu; rfl) (fun vs H Q E h => by obtain ⟨_, _, rfl, _⟩ := h; rfl) (fun cdv A outer s H vs Q E hr h => ⟨_, k_is_count T (c_is_integer T) (by omega) hr, p_is_count h⟩)
theorem c_is_detail (T : Tx K mg) : C8.Cal P w K mg base 10 "is_detail" sp_is_detail [] := by
  obtain ⟨fd, F⟩ := T.d_is_detail
  exact calN (k := 9) (N := ["kind", "detail"]) (ps := ["kind", "detail"]) F T.g_is_detail (by decide +kernel) (fun _ _ _ _ _ _ us hu => by obtain ⟨a, b, rfl⟩ := us2 hu; rfl) (fun vs H Q E h => by obtain ⟨_, _, rfl, _⟩ := h; rfl) (fun cdv A outer s H vs Q E hr h => ⟨_, k_is_detail T (c_is_word T) (by omega) (c_is_test T) (by omega) (c_is_count T) (by omega) hr, p_is_detail T h⟩)
theorem c_comprehension (T : Tx K mg) : C8.Cal P w K mg base 4 "comprehension" sp_comprehension [] := by
  obtain ⟨fd, F⟩ := T.d_comprehension
  exact calN (k := 3) (N := ["kind", "detail", "text"]) (ps := ["kind", "detail"]) F T.g_comprehension (by decide +kernel) (fun _ _ _ _ _ _ us hu => by obtain ⟨a, b, rfl⟩ := us2 hu; rfl) (fun vs H Q E h => by obtain ⟨_, _, rfl, _⟩ := h; rfl) (fun cdv A outer s H vs Q E hr h => ⟨_, k_comprehension T (c_applied T) (by omega) hr, p_comprehension h⟩)
theorem c_call (T : Tx K mg) : C8.Cal P w K mg base 4 "call" sp_call [] := by
  obtain ⟨fd, F⟩ := T.d_call
  exact calN (k := 3) (N := ["kind", "detail", "text"]) (ps := ["kind", "detail"]) F T.g_call (by decide +kernel) (fun _ _ _ _ _ _ us hu => by obtain ⟨a, b, rfl⟩ := us2 hu; rfl) (fun vs H Q E h => by obtain ⟨_, _, rfl, _⟩ := h; rfl) (fun cdv A outer s H vs Q E hr h => ⟨_, k_call T (c_applied T) (by omega) hr, p_call h⟩)
theorem c_line_of (T : Tx K mg) : C8.Cal P w K mg base 7 "line_of" sp_line_of [] := by
  obtain ⟨fd, F⟩ := T.d_line_of
  exact calN (k := 6) (N := ["kind", "detail", "now", "text"]) (ps := ["kind", "detail", "now"]) F T.g_line_of (by decide +kernel) (fun _ _ _ _ _ _ us hu => by obtain ⟨a, b, c, rfl⟩ := us3 hu; rfl) (fun vs H Q E h => by obtain ⟨_, _, _, rfl, _⟩ := h; rfl) (fun cdv A outer s H vs Q E hr h => ⟨_, k_line_of T (c_comprehension T) (by omega) (c_call T) (by omega) hr, p_line_of T h⟩)
theorem c_Stage_kind (T : Tx K mg) : Gtr P w K mg base 1 (He.ga K "Stage") "kind" (sp_Stage_kind K) := by
  obtain ⟨fd, F⟩ := T.d_Stage_kind
  exact gtrN (k := 0) (N := ["self"]) (ps := ["self"]) T.cls_Stage T.p_Stage_kind F (by decide +kernel) (fun _ _ _ _ _ _ us hu => by obtain ⟨a, rfl⟩ := us1 hu; rfl) (fun vs H Q E h => by obtain ⟨_, _, rfl, _⟩ := h; rfl) (fun cdv A outer s H vs Q E hr h => ⟨_, k_Stage_kind T hr, p_Stage_kind T h⟩)
theorem c_Stage_detail (T : Tx K mg) : Gtr P w K mg base 1 (He.ga K "Stage") "detail" (sp_Stage_detail K) := by
  obtain ⟨fd, F⟩ := T.d_Stage_detail
  exact gtrN (k := 0) (N := ["self"]) (ps := ["self"]) T.cls_Stage T.p_Stage_detail F (by decide +kernel) (fun _ _ _ _ _ _ us hu => by obtain ⟨a, rfl⟩ := us1 hu; rfl) (fun vs H Q E h => by obtain ⟨_, _, rfl, _⟩ := h; rfl) (fun cdv A outer s H vs Q E hr h => ⟨_, k_Stage_detail T hr, p_Stage_detail T h⟩)
theorem c_Stage_now (T : Tx K mg) : Gtr P w K mg base 1 (He.ga K "Stage") "now" (sp_Stage_now K) := by
  obtain ⟨fd, F⟩ := T.d_Stage_now
  exact gtrN (k := 0) (N := ["self"]) (ps := ["self"]) T.cls_Stage T.p_Stage_now F (by decide +kernel) (fun _ _ _ _ _ _ us hu => by obtain ⟨a, rfl⟩ := us1 hu; rfl) (fun vs H Q E h => by obtain ⟨_, _, rfl, _⟩ := h; rfl) (fun cdv A outer s H vs Q E hr h => ⟨_, k_Stage_now T hr, p_Stage_now T h⟩)
theorem F_str_Stage (T : Tx K mg) : FnR P w K mg base C8.CX0 10 (He.ma K (He.ga K "Stage") "__str__") (sp_str_Stage K) := by
  obtain ⟨fd, F⟩ := T.d_Stage___str__
  exact rawN (k := 9) (N := ["self"]) (ps := ["self"]) F (by decide +kernel) (fun _ _ _ _ _ _ us hu => by obtain ⟨a, rfl⟩ := us1 hu; rfl) (fun vs H Q E h => by obtain ⟨_, _, rfl, _⟩ := h; rfl) (fun cdv A outer s H vs Q E hr h => ⟨_, k_Stage___str__ T (c_line_of T) (by omega) hr, p_Stage___str__ T h⟩)
theorem F_Flow_of (T : Tx K mg) : FnR P w K mg base C8.CX0 6 (He5.wf K (He.ga K "Flow") "classmethod" "of") (sp_Flow_of K) := by
  obtain ⟨fd, F⟩ := T.d_Flow_of
  exact rawN (k := 5) (N := ["cls", "stages"]) (ps := ["cls", "stages"]) F (by decide +kernel) (fun _ _ _ _ _ _ us hu => by obtain ⟨a, b, rfl⟩ := us2 hu; rfl) (fun vs H Q E h => by obtain ⟨_, _, _, rfl, _⟩ := h; rfl) (fun cdv A outer s H vs Q E hr h => ⟨_, k_Flow_of T (F_Flow T) (by omega) hr, p_Flow_of h⟩)
theorem c_Flow_stages (T : Tx K mg) : Gtr P w K mg base 1 (He.ga K "Flow") "stages" (sp_Flow_stages K) := by
  obtain ⟨fd, F⟩ := T.d_Flow_stages
  exact gtrN (k := 0) (N := ["self"]) (ps := ["self"]) T.cls_Flow T.p_Flow_stages F (by decide +kernel) (fun _ _ _ _ _ _ us hu => by obtain ⟨a, rfl⟩ := us1 hu; rfl) (fun vs H Q E h => by obtain ⟨_, _, rfl, _⟩ := h; rfl) (fun cdv A outer s H vs Q E hr h => ⟨_, k_Flow_stages T hr, p_Flow_stages T h⟩)
theorem c_Flow_atoms (T : Tx K mg) : Gtr P w K mg base 4 (He.ga K "Flow") "atoms" (sp_Flow_atoms K) := by
  obtain ⟨fd, F⟩ := T.d_Flow_atoms
  exact gtrN (k := 3) (N := ["self", "found", "word", "stage"]) (ps := ["self"]) T.cls_Flow T.p_Flow_atoms F (by decide +kernel) (fun _ _ _ _ _ _ us hu => by obtain ⟨a, rfl⟩ := us1 hu; rfl) (fun vs H Q E h => by obtain ⟨_, _, rfl, _⟩ := h; rfl) (fun cdv A outer s H vs Q E hr h => ⟨_, k_Flow_atoms T (c_Stage_kind T) (by omega) (c_Stage_detail T) (by omega) hr, p_Flow_atoms T h⟩)
theorem F_str_Flow (T : Tx K mg) : FnR P w K mg base C8.CX0 13 (He.ma K (He.ga K "Flow") "__str__") (sp_str_Flow K) := by
  obtain ⟨fd, F⟩ := T.d_Flow___str__
  exact rawN (k := 12) (N := ["self", "stage"]) (ps := ["self"]) F (by decide +kernel) (fun _ _ _ _ _ _ us hu => by obtain ⟨a, rfl⟩ := us1 hu; rfl) (fun vs H Q E h => by obtain ⟨_, _, rfl, _⟩ := h; rfl) (fun cdv A outer s H vs Q E hr h => ⟨_, k_Flow___str__ T (F_str_Stage T) (by omega) hr, p_Flow___str__ T h⟩)
theorem c_check_flow (T : Tx K mg) : C8.Cal P w K mg base 1 "check_flow" (sp_check_flow K) [] := by
  obtain ⟨fd, F⟩ := T.d_check_flow
  exact calN (k := 0) (N := ["value"]) (ps := ["value"]) F T.g_check_flow (by decide +kernel) (fun _ _ _ _ _ _ us hu => by obtain ⟨a, rfl⟩ := us1 hu; rfl) (fun vs H Q E h => by obtain ⟨_, _, rfl, _⟩ := h; rfl) (fun cdv A outer s H vs Q E hr h => ⟨_, k_check_flow T hr, p_check_flow T h⟩)
theorem c_parts_of (T : Tx K mg) : C8.Cal P w K mg base 4 "parts_of" (sp_parts_of K) [] := by
  obtain ⟨fd, F⟩ := T.d_parts_of
  exact calN (k := 3) (N := ["flow", "found", "part", "stage", "one"]) (ps := ["flow"]) F T.g_parts_of (by decide +kernel) (fun _ _ _ _ _ _ us hu => by obtain ⟨a, rfl⟩ := us1 hu; rfl) (fun vs H Q E h => by obtain ⟨_, _, rfl, _⟩ := h; rfl) (fun cdv A outer s H vs Q E hr h => ⟨_, k_parts_of T (c_Flow_stages T) (by omega) (c_Stage_kind T) (by omega) (c_Stage_now T) (by omega) hr, p_parts_of T h⟩)
theorem c_left_of (T : Tx K mg) : C8.Cal P w K mg base 4 "left_of" (sp_left_of K) [] := by
  obtain ⟨fd, F⟩ := T.d_left_of
  exact calN (k := 3) (N := ["stage", "values", "many"]) (ps := ["stage", "values"]) F T.g_left_of (by decide +kernel) (fun _ _ _ _ _ _ us hu => by obtain ⟨a, b, rfl⟩ := us2 hu; rfl) (fun vs H Q E h => by obtain ⟨_, _, _, _, rfl, _⟩ := h; rfl) (fun cdv A outer s H vs Q E hr h => ⟨_, k_left_of T (c_Stage_kind T) (by omega) (c_Stage_detail T) (by omega) hr, p_left_of h⟩)
theorem c_is_counted_in (T : Tx K mg) : C8.Cal P w K mg base 1 "is_counted_in" sp_is_counted_in [] := by
  obtain ⟨fd, F⟩ := T.d_is_counted_in
  exact calN (k := 0) (N := ["kind", "detail", "seen", "period", "start"]) (ps := ["kind", "detail", "seen"]) F T.g_is_counted_in (by decide +kernel) (fun _ _ _ _ _ _ us hu => by obtain ⟨a, b, c, rfl⟩ := us3 hu; rfl) (fun vs H Q E h => by obtain ⟨_, _, _, rfl, _⟩ := h; rfl) (fun cdv A outer s H vs Q E hr h => ⟨_, k_is_counted_in T hr, p_is_counted_in h⟩)
theorem c_Gate (T : Tx K mg) : C8.Mak P w K mg base 1 "Gate" (He.ga K "Gate") (sp_Gate K) [] := by
  obtain ⟨fd, F⟩ := T.d_Gate___init__
  exact makN (k := 0) (N := ["self", "stage"]) (ps := ["self", "stage"]) T.mk_Gate T.g_Gate F (by decide +kernel) (fun _ _ _ _ _ _ us hu => by obtain ⟨a, b, rfl⟩ := us2 hu; rfl) (fun vs H Q E h => by obtain ⟨_, _, _, _, rfl, _⟩ := h; rfl) (fun cdv A outer s H vs Q E hr h => ⟨_, k_Gate___init__ T hr, p_Gate___init__ T h⟩)
theorem c_check_atoms (T : Tx K mg) : C8.Cal P w K mg base 7 "check_atoms" sp_check_atoms [] := by
  obtain ⟨fd, F⟩ := T.d_check_atoms
  exact calN (k := 6) (N := ["atoms", "index", "atom"]) (ps := ["atoms"]) F T.g_check_atoms (by decide +kernel) (fun _ _ _ _ _ _ us hu => by obtain ⟨a, rfl⟩ := us1 hu; rfl) (fun vs H Q E h => by obtain ⟨_, _, rfl, _⟩ := h; rfl) (fun cdv A outer s H vs Q E hr h => ⟨_, k_check_atoms T (c_are_names T) (by omega) hr, p_check_atoms h⟩)
theorem c_is_row (T : Tx K mg) : C8.Cal P w K mg base 1 "is_row" sp_is_row [] := by
  obtain ⟨fd, F⟩ := T.d_is_row
  exact calN (k := 0) (N := ["value", "many", "truth"]) (ps := ["value", "many"]) F T.g_is_row (by decide +kernel) (fun _ _ _ _ _ _ us hu => by obtain ⟨a, b, rfl⟩ := us2 hu; rfl) (fun vs H Q E h => by obtain ⟨_, _, rfl, _⟩ := h; rfl) (fun cdv A outer s H vs Q E hr h => ⟨_, k_is_row T hr, p_is_row h⟩)
theorem c_check_rows (T : Tx K mg) : C8.Cal P w K mg base 4 "check_rows" sp_check_rows [] := by
  obtain ⟨fd, F⟩ := T.d_check_rows
  exact calN (k := 3) (N := ["rows", "many", "index", "row"]) (ps := ["rows", "many"]) F T.g_check_rows (by decide +kernel) (fun _ _ _ _ _ _ us hu => by obtain ⟨a, b, rfl⟩ := us2 hu; rfl) (fun vs H Q E h => by obtain ⟨_, _, _, rfl, _⟩ := h; rfl) (fun cdv A outer s H vs Q E hr h => ⟨_, k_check_rows T (c_is_row T) (by omega) hr, p_check_rows h⟩)
theorem c_term_of (T : Tx K mg) : C8.Cal P w K mg base 4 "term_of" sp_term_of [] := by
  obtain ⟨fd, F⟩ := T.d_term_of
  exact calN (k := 3) (N := ["index", "word"]) (ps := ["index", "word"]) F T.g_term_of (by decide +kernel) (fun _ _ _ _ _ _ us hu => by obtain ⟨a, b, rfl⟩ := us2 hu; rfl) (fun vs H Q E h => by obtain ⟨_, _, rfl, _⟩ := h; rfl) (fun cdv A outer s H vs Q E hr h => ⟨_, k_term_of T (c_applied T) (by omega) hr, p_term_of h⟩)
theorem c_Teller (T : Tx K mg) : C8.Mak P w K mg base 1 "Teller" (He.ga K "Teller") (sp_Teller K) [] := by
  obtain ⟨fd, F⟩ := T.d_Teller___init__
  exact makN (k := 0) (N := ["self", "atoms", "rows", "atom", "place"]) (ps := ["self", "atoms", "rows"]) T.mk_Teller T.g_Teller F (by decide +kernel) (fun _ _ _ _ _ _ us hu => by obtain ⟨a, b, c, rfl⟩ := us3 hu; rfl) (fun vs H Q E h => by obtain ⟨_, _, _, _, _, _, rfl, _⟩ := h; rfl) (fun cdv A outer s H vs Q E hr h => ⟨_, k_Teller___init__ T hr, p_Teller___init__ T h⟩)
theorem c_Teller_behind (T : Tx K mg) : C8.Met P w K mg base 7 (He.ga K "Teller") "behind" (sp_Teller_behind K) [] := by
  obtain ⟨fd, F⟩ := T.d_Teller_behind
  exact metN (k := 6) (N := ["self", "names", "value", "index", "word", "name"]) (ps := ["self", "names", "value"]) T.cls_Teller T.me_Teller_behind F (by decide +kernel) (fun _ _ _ _ _ _ us hu => by obtain ⟨a, b, c, rfl⟩ := us3 hu; rfl) (fun vs H Q E h => by obtain ⟨_, _, _, _, _, _, _, _, _, rfl, _⟩ := h; rfl) (fun cdv A outer s H vs Q E hr h => ⟨_, k_Teller_behind T (c_term_of T) (by omega) hr, p_Teller_behind T h⟩)
theorem c_Teller_is_true (T : Tx K mg) : C8.Met P w K mg base 10 (He.ga K "Teller") "is_true" (sp_Teller_is_true K) [] := by
  obtain ⟨fd, F⟩ := T.d_Teller_is_true
  exact metN (k := 9) (N := ["self", "test", "value", "index", "atom"]) (ps := ["self", "test", "value"]) T.cls_Teller T.me_Teller_is_true F (by decide +kernel) (fun _ _ _ _ _ _ us hu => by obtain ⟨a, b, c, rfl⟩ := us3 hu; rfl) (fun vs H Q E h => by obtain ⟨_, _, _, _, _, _, _, _, _, rfl, _⟩ := h; rfl) (fun cdv A outer s H vs Q E hr h => ⟨_, k_Teller_is_true T (c_Teller_behind T) (by omega) hr, p_Teller_is_true T h⟩)
theorem c_Play (T : Tx K mg) : C8.Mak P w K mg base 1 "Play" (He.ga K "Play") (sp_Play K) [] := by
  obtain ⟨fd, F⟩ := T.d_Play___init__
  exact makN (k := 0) (N := ["self", "entries", "calls"]) (ps := ["self", "entries", "calls"]) T.mk_Play T.g_Play F (by decide +kernel) (fun _ _ _ _ _ _ us hu => by obtain ⟨a, b, c, rfl⟩ := us3 hu; rfl) (fun vs H Q E h => by obtain ⟨_, _, _, _, _, _, rfl, _⟩ := h; rfl) (fun cdv A outer s H vs Q E hr h => ⟨_, k_Play___init__ T hr, p_Play___init__ T h⟩)
theorem c_Play_entries (T : Tx K mg) : Gtr P w K mg base 1 (He.ga K "Play") "entries" (sp_Play_entries K) := by
  obtain ⟨fd, F⟩ := T.d_Play_entries
  exact gtrN (k := 0) (N := ["self"]) (ps := ["self"]) T.cls_Play T.p_Play_entries F (by decide +kernel) (fun _ _ _ _ _ _ us hu => by obtain ⟨a, rfl⟩ := us1 hu; rfl) (fun vs H Q E h => by obtain ⟨_, _, _, rfl, _⟩ := h; rfl) (fun cdv A outer s H vs Q E hr h => ⟨_, k_Play_entries T hr, p_Play_entries T h⟩)
theorem c_Play_calls (T : Tx K mg) : Gtr P w K mg base 1 (He.ga K "Play") "calls" (sp_Play_calls K) := by
  obtain ⟨fd, F⟩ := T.d_Play_calls
  exact gtrN (k := 0) (N := ["self"]) (ps := ["self"]) T.cls_Play T.p_Play_calls F (by decide +kernel) (fun _ _ _ _ _ _ us hu => by obtain ⟨a, rfl⟩ := us1 hu; rfl) (fun vs H Q E h => by obtain ⟨_, _, _, rfl, _⟩ := h; rfl) (fun cdv A outer s H vs Q E hr h => ⟨_, k_Play_calls T hr, p_Play_calls T h⟩)
theorem c_World (T : Tx K mg) : C8.Mak P w K mg base 10 "World" (He.ga K "World") (sp_World K) [] := by
  obtain ⟨fd, F⟩ := T.d_World___init__
  exact makN (k := 9) (N := ["self", "atoms", "rows"]) (ps := ["self", "atoms", "rows"]) T.mk_World T.g_World F (by decide +kernel) (fun _ _ _ _ _ _ us hu => by obtain ⟨a, b, c, rfl⟩ := us3 hu; rfl) (fun vs H Q E h => by obtain ⟨_, _, _, _, _, _, rfl, _⟩ := h; rfl) (fun cdv A outer s H vs Q E hr h => ⟨_, k_World___init__ T (c_check_atoms T) (by omega) (c_check_rows T) (by omega) hr, p_World___init__ T h⟩)
theorem c__law_cell (T : Tx K mg) : C8.Cal P w K mg base 1 "_law_cell" (sp__law_cell K) [] := by
  obtain ⟨fd, F⟩ := T.d__law_cell
  exact calN (k := 0) (N := ["_law_cells", "_law_k", "_law_seed", "_law_cell_here_here"]) (ps := ["_law_cells", "_law_k"]) F T.g__law_cell (by decide +kernel) (fun _ _ _ _ _ _ us hu => by obtain ⟨a, b, rfl⟩ := us2 hu; rfl) (fun vs H Q E h => by obtain ⟨_, _, _, rfl, _⟩ := h; rfl) (fun cdv A outer s H vs Q E hr h => ⟨_, k__law_cell T hr, p__law_cell h⟩)
theorem c__law_purse (T : Tx K mg) : C8.Cal P w K mg base 1 "_law_purse" sp__law_purse [] := by
  obtain ⟨fd, F⟩ := T.d__law_purse
  exact calN (k := 0) (N := ["_law_cell_here", "_law_digits"]) (ps := ["_law_cell_here"]) F T.g__law_purse (by decide +kernel) (fun _ _ _ _ _ _ us hu => by obtain ⟨a, rfl⟩ := us1 hu; rfl) (fun vs H Q E h => by obtain ⟨_, rfl, _⟩ := h; rfl) (fun cdv A outer s H vs Q E hr h => ⟨_, k__law_purse T hr, p__law_purse h⟩)
theorem c__law_take (T : Tx K mg) : C8.Cal P w K mg base 1 "_law_take" sp__law_take [] := by
  obtain ⟨fd, F⟩ := T.d__law_take
  exact calN (k := 0) (N := ["_law_purse_here", "_law_many", "_law_seed", "_law_grown", "_law_digit"]) (ps := ["_law_purse_here", "_law_many"]) F T.g__law_take (by decide +kernel) (fun _ _ _ _ _ _ us hu => by obtain ⟨a, b, rfl⟩ := us2 hu; rfl) (fun vs H Q E h => by obtain ⟨_, _, rfl, _⟩ := h; rfl) (fun cdv A outer s H vs Q E hr h => ⟨_, k__law_take T hr, p__law_take h⟩)
theorem c__law_name (T : Tx K mg) : C8.Cal P w K mg base 4 "_law_name" sp__law_name [] := by
  obtain ⟨fd, F⟩ := T.d__law_name
  exact calN (k := 3) (N := ["_law_purse_here", "_law_letter", "_law_many", "_law_k"]) (ps := ["_law_purse_here"]) F T.g__law_name (by decide +kernel) (fun _ _ _ _ _ _ us hu => by obtain ⟨a, rfl⟩ := us1 hu; rfl) (fun vs H Q E h => by obtain ⟨_, rfl, _⟩ := h; rfl) (fun cdv A outer s H vs Q E hr h => ⟨_, k__law_name T (c__law_take T) (by omega) hr, p__law_name h⟩)
theorem c__law_tags (T : Tx K mg) : C8.Cal P w K mg base 7 "_law_tags" sp__law_tags [] := by
  obtain ⟨fd, F⟩ := T.d__law_tags
  exact calN (k := 6) (N := ["_law_purse_here", "_law_many", "_law_alike", "_law_tags_here", "_law_k", "_law_tag"]) (ps := ["_law_purse_here"]) F T.g__law_tags (by decide +kernel) (fun _ _ _ _ _ _ us hu => by obtain ⟨a, rfl⟩ := us1 hu; rfl) (fun vs H Q E h => by obtain ⟨_, rfl, _⟩ := h; rfl) (fun cdv A outer s H vs Q E hr h => ⟨_, k__law_tags T (c__law_take T) (by omega) (c__law_name T) (by omega) hr, p__law_tags h⟩)
theorem c__law_labels (T : Tx K mg) : C8.Cal P w K mg base 1 "_law_labels" sp__law_labels [] := by
  obtain ⟨fd, F⟩ := T.d__law_labels
  exact calN (k := 0) (N := []) (ps := []) F T.g__law_labels (by decide +kernel) (fun _ _ _ _ _ _ us hu => by obtain rfl := us0 hu; rfl) (fun vs H Q E h => by obtain ⟨rfl, _⟩ := h; rfl) (fun cdv A outer s H vs Q E hr h => ⟨_, k__law_labels T hr, p__law_labels h⟩)
theorem c__law_detail (T : Tx K mg) : C8.Cal P w K mg base 4 "_law_detail" sp__law_detail [] := by
  obtain ⟨fd, F⟩ := T.d__law_detail
  exact calN (k := 3) (N := ["_law_purse_here", "_law_tags_here", "_law_label", "_law_small", "_law_by", "_law_many", "_law_k"]) (ps := ["_law_purse_here", "_law_tags_here", "_law_label"]) F T.g__law_detail (by decide +kernel) (fun _ _ _ _ _ _ us hu => by obtain ⟨a, b, c, rfl⟩ := us3 hu; rfl) (fun vs H Q E h => by obtain ⟨_, _, _, _, rfl, _⟩ := h; rfl) (fun cdv A outer s H vs Q E hr h => ⟨_, k__law_detail T (c__law_take T) (by omega) hr, p__law_detail h⟩)
theorem c__law_part (T : Tx K mg) : C8.Cal P w K mg base 7 "_law_part" sp__law_part [] := by
  obtain ⟨fd, F⟩ := T.d__law_part
  exact calN (k := 6) (N := ["_law_purse_here", "_law_tags_here", "_law_label", "_law_told"]) (ps := ["_law_purse_here", "_law_tags_here"]) F T.g__law_part (by decide +kernel) (fun _ _ _ _ _ _ us hu => by obtain ⟨a, b, rfl⟩ := us2 hu; rfl) (fun vs H Q E h => by obtain ⟨_, _, _, rfl, _⟩ := h; rfl) (fun cdv A outer s H vs Q E hr h => ⟨_, k__law_part T (c__law_labels T) (by omega) (c__law_take T) (by omega) (c__law_detail T) (by omega) hr, p__law_part h⟩)
theorem c__law_atoms (T : Tx K mg) : C8.Cal P w K mg base 1 "_law_atoms" sp__law_atoms [] := by
  obtain ⟨fd, F⟩ := T.d__law_atoms
  exact calN (k := 0) (N := ["_law_steps", "_law_found", "_law_names_here", "_law_part_here"]) (ps := ["_law_steps"]) F T.g__law_atoms (by decide +kernel) (fun _ _ _ _ _ _ us hu => by obtain ⟨a, rfl⟩ := us1 hu; rfl) (fun vs H Q E h => by obtain ⟨_, _, rfl, _⟩ := h; rfl) (fun cdv A outer s H vs Q E hr h => ⟨_, k__law_atoms T hr, p__law_atoms h⟩)
theorem c__law_few (T : Tx K mg) : C8.Cal P w K mg base 4 "_law_few" sp__law_few [] := by
  obtain ⟨fd, F⟩ := T.d__law_few
  exact calN (k := 3) (N := ["_law_steps"]) (ps := ["_law_steps"]) F T.g__law_few (by decide +kernel) (fun _ _ _ _ _ _ us hu => by obtain ⟨a, rfl⟩ := us1 hu; rfl) (fun vs H Q E h => by obtain ⟨_, _, rfl, _⟩ := h; rfl) (fun cdv A outer s H vs Q E hr h => ⟨_, k__law_few T (c__law_atoms T) (by omega) hr, p__law_few h⟩)
theorem c__law_asked (T : Tx K mg) : C8.Cal P w K mg base 7 "_law_asked" sp__law_part [] := by
  obtain ⟨fd, F⟩ := T.d__law_asked
  exact calN (k := 6) (N := ["_law_purse_here", "_law_tags_here", "_law_label", "_law_told"]) (ps := ["_law_purse_here", "_law_tags_here"]) F T.g__law_asked (by decide +kernel) (fun _ _ _ _ _ _ us hu => by obtain ⟨a, b, rfl⟩ := us2 hu; rfl) (fun vs H Q E h => by obtain ⟨_, _, _, rfl, _⟩ := h; rfl) (fun cdv A outer s H vs Q E hr h => ⟨_, k__law_asked T (c__law_labels T) (by omega) (c__law_take T) (by omega) (c__law_detail T) (by omega) hr, p__law_asked h⟩)
theorem c__law_playable (T : Tx K mg) : C8.Cal P w K mg base 10 "_law_playable" sp__law_playable [] := by
  obtain ⟨fd, F⟩ := T.d__law_playable
  exact calN (k := 9) (N := ["_law_purse_here", "_law_tags_here", "_law_many", "_law_k"]) (ps := ["_law_purse_here"]) F T.g__law_playable (by decide +kernel) (fun _ _ _ _ _ _ us hu => by obtain ⟨a, rfl⟩ := us1 hu; rfl) (fun vs H Q E h => by obtain ⟨_, rfl, _⟩ := h; rfl) (fun cdv A outer s H vs Q E hr h => ⟨_, k__law_playable T (c__law_take T) (by omega) (c__law_tags T) (by omega) (c__law_few T) (by omega) (c__law_part T) (by omega) (c__law_asked T) (by omega) hr, p__law_playable h⟩)
theorem c__law_truths (T : Tx K mg) : C8.Cal P w K mg base 4 "_law_truths" sp__law_truths [] := by
  obtain ⟨fd, F⟩ := T.d__law_truths
  exact calN (k := 3) (N := ["_law_purse_here", "_law_many", "_law_k"]) (ps := ["_law_purse_here", "_law_many"]) F T.g__law_truths (by decide +kernel) (fun _ _ _ _ _ _ us hu => by obtain ⟨a, b, rfl⟩ := us2 hu; rfl) (fun vs H Q E h => by obtain ⟨_, _, rfl, _⟩ := h; rfl) (fun cdv A outer s H vs Q E hr h => ⟨_, k__law_truths T (c__law_take T) (by omega) hr, p__law_truths h⟩)
theorem c__law_names_of (T : Tx K mg) : C8.Cal P w K mg base 1 "_law_names_of" sp__law_names_of [] := by
  obtain ⟨fd, F⟩ := T.d__law_names_of
  exact calN (k := 0) (N := ["_law_written"]) (ps := ["_law_written"]) F T.g__law_names_of (by decide +kernel) (fun _ _ _ _ _ _ us hu => by obtain ⟨a, rfl⟩ := us1 hu; rfl) (fun vs H Q E h => by obtain ⟨_, _, rfl, _⟩ := h; rfl) (fun cdv A outer s H vs Q E hr h => ⟨_, k__law_names_of T hr, p__law_names_of h⟩)
theorem c__law_call_begun (T : Tx K mg) : C8.Cal P w K mg base 4 "_law_call_begun" sp__law_call_begun [] := by
  obtain ⟨fd, F⟩ := T.d__law_call_begun
  exact calN (k := 3) (N := ["_law_body", "_law_source", "_law_word", "_law_inner", "_law_pieces", "_law_given", "_law_names_here", "_law_tests_here"]) (ps := ["_law_body", "_law_source"]) F T.g__law_call_begun (by decide +kernel) (fun _ _ _ _ _ _ us hu => by obtain ⟨a, b, rfl⟩ := us2 hu; rfl) (fun vs H Q E h => by obtain ⟨_, _, rfl, _⟩ := h; rfl) (fun cdv A outer s H vs Q E hr h => ⟨_, k__law_call_begun T (c__law_names_of T) (by omega) hr, p__law_call_begun h⟩)
theorem c__law_answer (T : Tx K mg) : C8.Cal P w K mg base 1 "_law_answer" sp__law_answer [] := by
  obtain ⟨fd, F⟩ := T.d__law_answer
  exact calN (k := 0) (N := ["_law_play_here", "_law_tag", "_law_thing"]) (ps := ["_law_play_here", "_law_tag", "_law_thing"]) F T.g__law_answer (by decide +kernel) (fun _ _ _ _ _ _ us hu => by obtain ⟨a, b, c, rfl⟩ := us3 hu; rfl) (fun vs H Q E h => by obtain ⟨_, _, _, _, _, _, _, rfl, _⟩ := h; rfl) (fun cdv A outer s H vs Q E hr h => ⟨_, k__law_answer T hr, p__law_answer h⟩)
theorem c__law_truth (T : Tx K mg) : C8.Cal P w K mg base 1 "_law_truth" sp__law_truth [] := by
  obtain ⟨fd, F⟩ := T.d__law_truth
  exact calN (k := 0) (N := ["_law_play_here", "_law_told_here", "_law_pieces", "_law_entry"]) (ps := ["_law_play_here", "_law_told_here"]) F T.g__law_truth (by decide +kernel) (fun _ _ _ _ _ _ us hu => by obtain ⟨a, b, rfl⟩ := us2 hu; rfl) (fun vs H Q E h => by obtain ⟨_, _, _, _, _, _, rfl, _⟩ := h; rfl) (fun cdv A outer s H vs Q E hr h => ⟨_, k__law_truth T hr, p__law_truth h⟩)
theorem c_Gate_passed (T : Tx K mg) : C8.Met P w K mg base 13 (He.ga K "Gate") "passed" (sp_Gate_passed K) [] := by
  obtain ⟨fd, F⟩ := T.d_Gate_passed
  exact metN (k := 12) (N := ["self", "value", "caller", "kind", "detail", "truth"]) (ps := ["self", "value", "caller"]) T.cls_Gate T.me_Gate_passed F (by decide +kernel) (fun _ _ _ _ _ _ us hu => by obtain ⟨a, b, c, rfl⟩ := us3 hu; rfl) (fun vs H Q E h => by obtain ⟨_, _, _, _, _, _, _, _, _, _, rfl, _⟩ := h; rfl) (fun cdv A outer s H vs Q E hr h => ⟨_, k_Gate_passed T (c_Stage_detail T) (by omega) (c_Stage_kind T) (by omega) (c_Teller_behind T) (by omega) (c_is_counted_in T) (by omega) (c_Teller_is_true T) (by omega) hr, p_Gate_passed T h⟩)
theorem c_played_part (T : Tx K mg) : C8.Cal P w K mg base 16 "played_part" (sp_played_part K) [] := by
  obtain ⟨fd, F⟩ := T.d_played_part
  exact calN (k := 15) (N := ["stages", "values", "caller", "gates", "left", "value", "now", "goes", "is_over", "gate", "ends", "stage"]) (ps := ["stages", "values", "caller"]) F T.g_played_part (by decide +kernel) (fun _ _ _ _ _ _ us hu => by obtain ⟨a, b, c, rfl⟩ := us3 hu; rfl) (fun vs H Q E h => by obtain ⟨_, _, _, _, _, _, _, _, _, rfl, _⟩ := h; rfl) (fun cdv A outer s H vs Q E hr h => ⟨_, k_played_part T (c_Gate T) (by omega) (c_Stage_kind T) (by omega) (c_Stage_detail T) (by omega) (c_Gate_passed T) (by omega) hr, p_played_part T h⟩)
theorem c_played (T : Tx K mg) : C8.Cal P w K mg base 19 "played" (sp_played K) [] := by
  obtain ⟨fd, F⟩ := T.d_played
  exact calN (k := 18) (N := ["flow", "values", "caller", "left", "part"]) (ps := ["flow", "values", "caller"]) F T.g_played (by decide +kernel) (fun _ _ _ _ _ _ us hu => by obtain ⟨a, b, c, rfl⟩ := us3 hu; rfl) (fun vs H Q E h => by obtain ⟨_, _, _, _, _, _, _, _, rfl, _⟩ := h; rfl) (fun cdv A outer s H vs Q E hr h => ⟨_, k_played T (c_parts_of T) (by omega) (c_Stage_kind T) (by omega) (c_left_of T) (by omega) (c_played_part T) (by omega) hr, p_played T h⟩)
theorem c_World_play (T : Tx K mg) : C8.Met P w K mg base 22 (He.ga K "World") "play" (sp_World_play K) [] := by
  obtain ⟨fd, F⟩ := T.d_World_play
  exact metN (k := 21) (N := ["self", "flow", "atom", "teller", "left", "index", "word"]) (ps := ["self", "flow"]) T.cls_World T.me_World_play F (by decide +kernel) (fun _ _ _ _ _ _ us hu => by obtain ⟨a, b, rfl⟩ := us2 hu; rfl) (fun vs H Q E h => by obtain ⟨_, _, _, _, _, rfl, _⟩ := h; rfl) (fun cdv A outer s H vs Q E hr h => ⟨_, k_World_play T (c_check_flow T) (by omega) (c_Flow_atoms T) (by omega) (c_Teller T) (by omega) (c_played T) (by omega) (c_Play T) (by omega) (c_term_of T) (by omega) hr, p_World_play T h⟩)
theorem c__law_apply (T : Tx K mg) : C8.Cal P w K mg base 4 "_law_apply" sp__law_apply [] := by
  obtain ⟨fd, F⟩ := T.d__law_apply
  exact calN (k := 3) (N := ["_law_play_here", "_law_names_here", "_law_thing", "_law_tag"]) (ps := ["_law_play_here", "_law_names_here", "_law_thing"]) F T.g__law_apply (by decide +kernel) (fun _ _ _ _ _ _ us hu => by obtain ⟨a, b, c, rfl⟩ := us3 hu; rfl) (fun vs H Q E h => by obtain ⟨_, _, _, _, _, _, _, _, rfl, _⟩ := h; rfl) (fun cdv A outer s H vs Q E hr h => ⟨_, k__law_apply T (c__law_answer T) (by omega) hr, p__law_apply h⟩)
theorem c__law_passes (T : Tx K mg) : C8.Cal P w K mg base 7 "_law_passes" sp__law_passes [] := by
  obtain ⟨fd, F⟩ := T.d__law_passes
  exact calN (k := 6) (N := ["_law_play_here", "_law_conditions", "_law_thing", "_law_names_here", "_law_wanted"]) (ps := ["_law_play_here", "_law_conditions", "_law_thing"]) F T.g__law_passes (by decide +kernel) (fun _ _ _ _ _ _ us hu => by obtain ⟨a, b, c, rfl⟩ := us3 hu; rfl) (fun vs H Q E h => by obtain ⟨_, _, _, _, _, _, _, _, rfl, _⟩ := h; rfl) (fun cdv A outer s H vs Q E hr h => ⟨_, k__law_passes T (c__law_truth T) (by omega) (c__law_apply T) (by omega) hr, p__law_passes h⟩)
end
end CF

/-! text CfJB -/
set_option Elab.async false
set_option linter.all false
set_option maxRecDepth 100000
set_option maxHeartbeats 4000000
/-! Stage(kind, detail, now=..) may be made -/
namespace CF
open PySem PySem.Spec PyProof.Rows L2 Evl
section
variable {P : Program} {w : World} {K : PySem.W.Frag} {mg : Str → Option Value} {base : Heap}
abbrev psSt : List Str := ["self", "kind", "detail", "now"]
theorem F_Stage (T : Tx K mg) : ∃ fd, FnOk P w K mg base C8.CX0 13 (He.ma K (He.ga K "Stage") "__init__") fd psSt (sp_Stage K) ∧
    (∃ gw, KBn K fd psSt 3 ["now"] gw (fun vs zs => vs ++ zs)) ∧ ∃ gw, KBn K fd psSt 3 [] gw (fun vs zs => vs ++ [.bl false]) := by
  obtain ⟨fd, F⟩ := T.d_Stage___init__
  refine ⟨fd, F.ok (k := 12) (N := psSt) (C8.fnScope_by (by decide +kernel)) (fun vs H Q E h => by obtain ⟨_, _, _, _, _, rfl, _⟩ := h; rfl) fun cdv A outer s H vs Q E hr h => ⟨_, (k_Stage___init__ T (c_is_detail T) (by omega) hr).nox, p_Stage___init__ T h⟩, ?_, ?_⟩
  · obtain ⟨its, mv, h⟩ := F.kbinds (ps := psSt) 3 ["now"] [] (fun us its mv ws => us ++ ws) (by simp) (by simp) (by simp) (fun r1 _ _ r2 => r1.append r2) (fun T D doc pm an cdv ct us its mv ws hu hi hm hw => by
      obtain ⟨a, b, c, rfl⟩ := us3 hu
      obtain ⟨x, rfl⟩ := us1 hi
      obtain ⟨y, rfl⟩ := us1 hw
      obtain rfl := us0 hm
      exact ⟨_, rfl, rfl⟩)
    exact ⟨_, h⟩
  · obtain ⟨its, mv, h⟩ := F.kbinds (ps := psSt) 3 [] [("now", .bl false)] (fun us its mv ws => us ++ mv) (by simp) (by simp) (by simp) (fun r1 _ r2 _ => r1.append r2) (fun T D doc pm an cdv ct us its mv ws hu hi hm hw => by
      obtain ⟨a, b, c, rfl⟩ := us3 hu
      obtain ⟨x, rfl⟩ := us1 hi
      obtain rfl := us0 hw
      obtain ⟨y, rfl⟩ := us1 hm
      exact ⟨_, rfl, _, _, _, _, _, _, rfl, rfl, rfl⟩)
    exact ⟨_, h⟩
end
end CF

/-! text CfJC -/
set_option Elab.async false
set_option linter.all false
set_option maxRecDepth 100000
set_option maxHeartbeats 4000000
/-! the law's own defs may be called -/
namespace CF
open PySem PySem.Spec PyProof.Rows L2 Evl
section
variable {P : Program} {w : World} {K : PySem.W.Frag} {mg : Str → Option Value} {base : Heap}
theorem c__law_stage (T : Tx K mg) : C8.Cal P w K mg base 16 "_law_stage" (sp__law_stage K) [] := by
  obtain ⟨fd0, F0, ⟨gw, kb⟩, _⟩ := F_Stage (P := P) (w := w) (base := base) T
  obtain ⟨fd, F⟩ := T.d__law_stage
  exact calN (k := 15) (N := ["_law_part_here"]) (ps := ["_law_part_here"]) F T.g__law_stage (by decide +kernel) (fun _ _ _ _ _ _ us hu => by obtain ⟨a, rfl⟩ := us1 hu; rfl) (fun vs H Q E h => by obtain ⟨_, _, rfl, _⟩ := h; rfl) fun cdv A outer s H vs Q E hr h => ⟨_, k__law_stage T F0 kb (by omega) hr, p__law_stage (fun _ _ _ _ => rfl) h⟩
theorem c__law_flow (T : Tx K mg) : C8.Cal P w K mg base 19 "_law_flow" (sp__law_flow K) [] := by
  obtain ⟨fd, F⟩ := T.d__law_flow
  exact calN (k := 18) (N := ["_law_steps", "_law_part_here"]) (ps := ["_law_steps"]) F T.g__law_flow (by decide +kernel) (fun _ _ _ _ _ _ us hu => by obtain ⟨a, rfl⟩ := us1 hu; rfl) (fun vs H Q E h => by obtain ⟨_, _, rfl, _⟩ := h; rfl) fun cdv A outer s H vs Q E hr h => ⟨_, k__law_flow T (F_Flow_of T) (by omega) (c__law_stage T) (by omega) hr, p__law_flow h⟩
theorem len_pull {d : Nat} {vs : List V} {H : Hp} {Q : VK} {E : XK} (h : sp__law_pull d vs H Q E) : vs.length = 2 := by
  obtain ⟨_, _, _, _, _, _, _, _, _, _, _, _, rfl, _⟩ := h
  rfl
theorem c__law_pull_slice (T : Tx K mg) (d : Nat) (cp : C8.Cal P w K mg base (6 * d + 8) "_law_pull" (sp__law_pull d) []) : C8.Cal P w K mg base (6 * d + 11) "_law_pull_slice" (sp__law_pull_slice (d + 1)) [] := by
  obtain ⟨fd, F⟩ := T.d__law_pull_slice
  exact calN (k := 6 * d + 10) (N := ["_law_play_here", "_law_source", "_law_got"]) (ps := ["_law_play_here", "_law_source"]) F T.g__law_pull_slice (by decide +kernel) (fun _ _ _ _ _ _ us hu => by obtain ⟨a, b, rfl⟩ := us2 hu; rfl) (fun vs H Q E h => by obtain ⟨_, _, _, _, _, _, _, _, _, _, _, _, rfl, _⟩ := h; rfl) fun cdv A outer s H vs Q E hr h => ⟨_, k__law_pull_slice T cp (by omega) hr, p__law_pull_slice d h⟩
theorem c__law_pull (T : Tx K mg) : ∀ d : Nat, C8.Cal P w K mg base (6 * d + 8) "_law_pull" (sp__law_pull d) []
  | 0 => by
    obtain ⟨fd, F⟩ := T.d__law_pull
    exact calN (k := 7) (N := ["_law_play_here", "_law_source", "_law_sort_here", "_law_got"]) (ps := ["_law_play_here", "_law_source"]) F T.g__law_pull (by decide +kernel) (fun _ _ _ _ _ _ us hu => by obtain ⟨a, b, rfl⟩ := us2 hu; rfl) (fun vs H Q E h => len_pull h) fun cdv A outer s H vs Q E hr h => by
      obtain ⟨_, _, _, _, _, _, _, _, _, _, _, _, _, _, hd, _⟩ := h
      exact absurd hd (Nat.not_lt_zero _)
  | d + 1 => by
    have cp := c__law_pull T d
    have cs := c__law_pull_slice T d cp
    obtain ⟨fd, F⟩ := T.d__law_pull
    exact calN (k := 6 * d + 13) (N := ["_law_play_here", "_law_source", "_law_sort_here", "_law_got"]) (ps := ["_law_play_here", "_law_source"]) F T.g__law_pull (by decide +kernel) (fun _ _ _ _ _ _ us hu => by obtain ⟨a, b, rfl⟩ := us2 hu; rfl) (fun vs H Q E h => len_pull h) fun cdv A outer s H vs Q E hr h => ⟨_, k__law_pull T cs (by omega) cp (by omega) (c__law_passes T) (by omega) (c__law_apply T) (by omega) hr, p__law_pull d h⟩
theorem c__law_all (T : Tx K mg) : C8.Cal P w K mg base 71 "_law_all" (sp__law_all 10) [] := by
  obtain ⟨fd, F⟩ := T.d__law_all
  exact calN (k := 70) (N := ["_law_play_here", "_law_source", "_law_found", "_law_got"]) (ps := ["_law_play_here", "_law_source"]) F T.g__law_all (by decide +kernel) (fun _ _ _ _ _ _ us hu => by obtain ⟨a, b, rfl⟩ := us2 hu; rfl) (fun vs H Q E h => by obtain ⟨_, _, _, _, _, _, _, _, _, _, _, _, rfl, _⟩ := h; rfl) fun cdv A outer s H vs Q E hr h => ⟨_, k__law_all T (c__law_pull T 10) (by omega) hr, p__law_all 10 h⟩
theorem c__law_line_done (T : Tx K mg) : C8.Cal P w K mg base 74 "_law_line_done" (sp__law_line_done 10) [] := by
  obtain ⟨fd, F⟩ := T.d__law_line_done
  exact calN (k := 73) (N := ["_law_play_here", "_law_line", "_law_source", "_law_found", "_law_tail", "_law_pieces", "_law_tests_here", "_law_begun", "_law_piece"]) (ps := ["_law_play_here", "_law_line", "_law_source"]) F T.g__law_line_done (by decide +kernel) (fun _ _ _ _ _ _ us hu => by obtain ⟨a, b, c, rfl⟩ := us3 hu; rfl) (fun vs H Q E h => by obtain ⟨_, _, _, _, _, _, _, _, _, _, _, _, _, _, rfl, _⟩ := h; rfl) fun cdv A outer s H vs Q E hr h => ⟨_, k__law_line_done T (c__law_all T) (by omega) (c__law_names_of T) (by omega) (c__law_call_begun T) (by omega) hr, p__law_line_done 10 h⟩
theorem c__law_carried (T : Tx K mg) : C8.Cal P w K mg base 77 "_law_carried" (sp__law_carried 10) [] := by
  obtain ⟨fd, F⟩ := T.d__law_carried
  exact calN (k := 76) (N := ["_law_play_here", "_law_written", "_law_values_here", "_law_source", "_law_line"]) (ps := ["_law_play_here", "_law_written", "_law_values_here"]) F T.g__law_carried (by decide +kernel) (fun _ _ _ _ _ _ us hu => by obtain ⟨a, b, c, rfl⟩ := us3 hu; rfl) (fun vs H Q E h => by obtain ⟨_, _, _, _, _, _, rfl, _⟩ := h; rfl) fun cdv A outer s H vs Q E hr h => ⟨_, k__law_carried T (c__law_line_done T) (by omega) (c__law_all T) (by omega) hr, p__law_carried 10 h⟩
end
end CF

/-! text CfJD -/
set_option Elab.async false
set_option linter.all false
set_option maxRecDepth 100000
set_option maxHeartbeats 4000000
/-! the law may be called -/
namespace CF
open PySem PySem.Spec PyProof.Rows L2 Evl
section
variable {P : Program} {w : World} {K : PySem.W.Frag} {mg : Str → Option Value} {base : Heap}
theorem c__law_played_right (T : Tx K mg) : CalG P w K mg base 80 "_law_played_right" (sp__law_played_right K) := by
  obtain ⟨fd, F⟩ := T.d__law_played_right
  refine ⟨_, fd, ["_law_purse_here", "_law_mine", "_law_steps"], CF.FunD.okG F (k := 79) (N := ["_law_purse_here", "_law_mine", "_law_steps", "_law_atoms_here", "_law_many", "_law_spare", "_law_truths_here", "_law_calls_here", "_law_due", "_law_told", "_law_k"]) (C8.fnScope_by (by decide +kernel)) (fun vs H Q E h => by obtain ⟨_, _, _, _, rfl, _⟩ := h; rfl) fun cdv A outer s H vs Q E hg hr h => ⟨_, k__law_played_right T (c__law_take T) (by omega) (c__law_atoms T) (by omega) (c__law_truths T) (by omega) (c__law_carried T) (by omega) (F_str_Flow T) (by omega) (c_World_play T) (by omega) (c_World T) (by omega) (c_Play_calls T) (by omega) (c_Play_entries T) (by omega) hg hr, p__law_played_right (d := 10) (Nat.le_refl _) h⟩, T.g__law_played_right, F.kp, F.bindsN (fun _ _ _ _ _ _ us hu => by obtain ⟨a, b, c, rfl⟩ := us3 hu; rfl)⟩
theorem c__law_right (T : Tx K mg) : CalG P w K mg base 83 "_law_right" sp__law_right := by
  obtain ⟨fd, F⟩ := T.d__law_right
  refine ⟨_, fd, ["_law_purse_here"], CF.FunD.okG F (k := 82) (N := ["_law_purse_here", "_law_turn", "_law_steps", "_law_mine", "_law_again"]) (C8.fnScope_by (by decide +kernel)) (fun vs H Q E h => by obtain ⟨_, rfl, _⟩ := h; rfl) fun cdv A outer s H vs Q E hg hr h => ⟨_, k__law_right T (c__law_playable T) (by omega) (c__law_flow T) (by omega) (c__law_played_right T) (by omega) hg hr, p__law_right h⟩, T.g__law_right, F.kp, F.bindsN (fun _ _ _ _ _ _ us hu => by obtain ⟨a, rfl⟩ := us1 hu; rfl)⟩
theorem f_law (T : Tx K mg) : ∃ fd, (∀ (P : Program) (w : World) (base : Heap), FnG P w K mg base C8.CX0 86 (He.ga K "law") fd ["_law_cells"] (sp_law K)) ∧ ∀ (s : Shared) (v : Value), BindsTo s fd ⟨[v], []⟩ [("_law_cells", v)] := by
  obtain ⟨fd, F⟩ := T.d_law
  have b := FunD.bindsA (ps := ["_law_cells"]) F fun _ _ _ _ _ _ us hu => by obtain ⟨a, rfl⟩ := us1 hu; rfl
  refine ⟨fd, fun P w base => ?_, fun s v => b s [v] rfl⟩
  obtain ⟨fd0, F0, _, ⟨gw, kb⟩⟩ := F_Stage (P := P) (w := w) (base := base) T
  exact CF.FunD.okG F (k := 85) (N := ["_law_cells", "_law_mine", "_law_told", "_law_k"]) (C8.fnScope_by (by decide +kernel)) (fun vs H Q E h => by obtain ⟨_, _, rfl, _⟩ := h; rfl) fun cdv A outer s H vs Q E hg hr h => ⟨_, k_law T (F_Flow T) (by omega) F0 kb (by omega) (c_World_play T) (by omega) (c_World T) (by omega) (c_Play_calls T) (by omega) (c_Play_entries T) (by omega) (c__law_right T) (by omega) (c__law_purse T) (by omega) (c__law_cell T) (by omega) hg hr, p_law (fun _ _ _ => rfl) h⟩
end
end CF

/-! text CfZ -/
set_option Elab.async false
set_option linter.all false
set_option maxRecDepth 100000
set_option maxHeartbeats 0
/-! the end -/
open PySem PySem.W PySem.Calls PyProof.Rows
theorem PySem.Challenge.cw_callflows_k18_whole_texts_carried_out_holds : PySem.Challenge.rw_callflows_k18_whole_texts_carried_out.Holds := by
  w_on; o_law
  refine HandSHeadRun.head_any (r := OpenLaw.row PySem.Challenge.rw_callflows_k18_whole_texts_carried_out) (q := CF.qv) (H := CF.hk) (ob := CF.ob) (M := 20000) (loose := CF.nms) (d := HandSHeadRun.topDef (OpenLaw.row PySem.Challenge.rw_callflows_k18_whole_texts_carried_out).prog 106) (kwd := []) CF.ob_eq
    (by kernel_rfl) (fun s => by kernel_rfl) CF.run (by kernel_rfl) (by kernel_rfl) (by kernel_rfl) (by rfl) (by first | assumption | decide +kernel) (by decide +kernel) ⟨rfl, rfl, rfl, rfl, rfl, by decide +kernel⟩ ?hw ?hc
  case hw => w_witness2
  case hc =>
    refine CF.walk_ofEG (l := PySem.Challenge.rw_callflows_k18_whole_texts_carried_out) (n := 63) (k := 86) (x := "_law_cells") (CX := C8.CX0) rfl (by decide) (by kernel_rfl) ⟨rfl, by decide, by decide⟩ ?F (fun _ _ _ _ z => z)
    intro w mg fa h Y G hmg0
    obtain ⟨K, KX, c⟩ := Y
    have T : CF.Tx K mg := ⟨c, h, KX, G⟩
    have hmg : mg ("law" : PySem.Str) = some (.ref fa) := by
      have e : (HandSHeadRun.topDef (OpenLaw.row PySem.Challenge.rw_callflows_k18_whole_texts_carried_out).prog 106).name = ("law" : PySem.Str) := by kernel_rfl
      rw [← e]
      exact hmg0
    have e := hmg.symm.trans T.g_law
    cases e
    obtain ⟨fd, hF, hb⟩ := CF.f_law T
    exact ⟨K, fd, CF.sp_law K, KX, hb, fun H a ns hl _ hS => ⟨a, ns, rfl, hS, Nat.le_trans hl (by decide), fun _ _ => rfl⟩, fun base _ _ => hF _ w base⟩

