import PyProof.Rows.All
import Wide.All
import OpenK.AllK
import Wide.FinOn
import HandS.Words
import KE.KStateDown
import HandS.Head0
import HandS.Head1
import HandS.Head2
import HandS.HeadEnd
import HandS.HeadHook1
import HandS.HeadHook2
import HandS.HeadHook3
import HandS.HeadHook4
import HandS.HeadWalk
import KE.KDictKeyed
import KE.KDictPairs
import HandS.ForMost
import HandS.Defaults
import HandS.Lambda
import HandS.TupAny
import HandS.TupMul
import HandS.Zip
import HandS.Style
import HandS.IsInst
import HandS.Conv
import HandS.WrittenGet
import HandS.SetBool
import HandS.SetKeys
import HandS.Walk
import HandS.TupLen
import HandS.Dict
import KE.KDictDisplayH
import KE.KEqDict
import HandS.DictComp
import HandS.Strs
import KE.GoesMore
import KE.GoesEnum
import KE.GoesNew
import KE.GoesZip
import PyProof.EnumMake
import HandS.Iter
import HandS.Nested
import HandS.MakeKwOnly
import HandS.Deep
import HandS.TryOnly
import PySem.Challenge.RW_madetorule_k82_whole_clauses_parted_and
import PyProof.EqLayable
set_option Elab.async false
set_option linter.all false
set_option maxRecDepth 100000
set_option maxHeartbeats 4000000
namespace MR
open PySem PySem.Spec PyProof.Rows L2
def topS (i : Nat) : Stmt := PySem.Challenge.pw_madetorule_k82_whole_clauses_parted_and.main.body.getD i (.Pass ⟨0, 0, 0, 0⟩)
def clsSts : Stmt → List Stmt
  | .ClassDef (body := sts) .. => sts
  | _ => []
def methS (j : Nat) : Stmt := (clsSts (topS 59)).getD j (.Pass ⟨0, 0, 0, 0⟩)
end MR
/-! the head: the defs by names, the top's run -/
namespace MR
open PySem PySem.Spec PyProof.Rows L2
def nm0 : List PySem.Str := ["__name__", "RuleError", "NoStandard", "NoClaims", "NoClause", "NoPair", "SMALL", "is_whole", "is_within", "is_word", "rises", "MOST_LETTERS", "MOST_DEPTH", "are_words", "is_letters", "beats_of", "is_saying_by", "is_so_by", "speaks_of_outs", "MOST_NUMBER_sentences"]
def nm1 : List PySem.Str := ["KINDS", "is_sentence_by", "is_of_ins", "step_within", "step_counted", "step_marked", "step_by", "step_rows", "renumbered", "classes_of", "least_rows", "machine_by", "watcher_by", "many_of", "joined_rows", "together_by", "MOST_RANGE", "MOST_CLAUSES", "MOST_NUMBER_standards", "MOST_STANDINGS"]
def nm2 : List PySem.Str := ["MOST_RANGE_STANDINGS", "is_range", "is_clause", "are_clauses", "is_standard", "are_claims", "need_standard", "need_claims", "need_claimed", "binding_by", "sentences_by", "range_rows", "BEGIN", "Game", "game_of", "can_keep", "row_of", "made", "asker", "least_break"]
def nm3 : List PySem.Str := ["news", "beyond", "_law_cell_at", "_law_state", "_law_choice", "_law_letters", "_law_atom", "_law_saying", "_law_sentence", "_law_size", "_law_clauses", "_law_standard", "_law_claims", "_law_told", "_law_parted", "_law_numbered", "_law_written_out"]
def nms : List PySem.Str := nm0 ++ nm1 ++ nm2 ++ nm3
/-- the default object of a keyword-only parameter -/
def kwAt (K : PySem.W.Frag) (f x : Str) : Addr := match K.lookup (He.ga K f) with
  | some ⟨_, _, .func fd, _⟩ => (match fd.kwdefaults with
    | .ref D => (match PySem.W.nsIn K D x with
      | some (some (.ref a)) => a
      | _ => 0)
    | _ => 0)
  | _ => 0
def dd0 : He.DefD := ⟨("is_whole", none), "is_whole", "is_whole", defArgs (topS 8), defBody (topS 8), defScope (topS 8), [], []⟩
def dd1 : He.DefD := ⟨("is_within", none), "is_within", "is_within", defArgs (topS 9), defBody (topS 9), defScope (topS 9), [], []⟩
def dd2 : He.DefD := ⟨("is_word", none), "is_word", "is_word", defArgs (topS 10), defBody (topS 10), defScope (topS 10), [], []⟩
def dd3 : He.DefD := ⟨("rises", none), "rises", "rises", defArgs (topS 11), defBody (topS 11), defScope (topS 11), [], []⟩
def dd4 : He.DefD := ⟨("are_words", none), "are_words", "are_words", defArgs (topS 15), defBody (topS 15), defScope (topS 15), [], []⟩
def dd5 : He.DefD := ⟨("is_letters", none), "is_letters", "is_letters", defArgs (topS 16), defBody (topS 16), defScope (topS 16), [], []⟩
def dd6 : He.DefD := ⟨("beats_of", none), "beats_of", "beats_of", defArgs (topS 17), defBody (topS 17), defScope (topS 17), [], []⟩
def dd7 : He.DefD := ⟨("is_saying_by", none), "is_saying_by", "is_saying_by", defArgs (topS 18), defBody (topS 18), defScope (topS 18), [], []⟩
def dd8 : He.DefD := ⟨("is_so_by", none), "is_so_by", "is_so_by", defArgs (topS 19), defBody (topS 19), defScope (topS 19), [], []⟩
def dd9 : He.DefD := ⟨("speaks_of_outs", none), "speaks_of_outs", "speaks_of_outs", defArgs (topS 20), defBody (topS 20), defScope (topS 20), [], []⟩
def dd10 : He.DefD := ⟨("is_sentence_by", none), "is_sentence_by", "is_sentence_by", defArgs (topS 24), defBody (topS 24), defScope (topS 24), [], []⟩
def dd11 : He.DefD := ⟨("is_of_ins", none), "is_of_ins", "is_of_ins", defArgs (topS 25), defBody (topS 25), defScope (topS 25), [], []⟩
def dd12 : He.DefD := ⟨("step_within", none), "step_within", "step_within", defArgs (topS 26), defBody (topS 26), defScope (topS 26), [], []⟩
def dd13 : He.DefD := ⟨("step_counted", none), "step_counted", "step_counted", defArgs (topS 27), defBody (topS 27), defScope (topS 27), [], []⟩
def dd14 : He.DefD := ⟨("step_marked", none), "step_marked", "step_marked", defArgs (topS 28), defBody (topS 28), defScope (topS 28), [], []⟩
def dd15 : He.DefD := ⟨("step_by", none), "step_by", "step_by", defArgs (topS 29), defBody (topS 29), defScope (topS 29), [], []⟩
def dd16 : He.DefD := ⟨("step_rows", none), "step_rows", "step_rows", defArgs (topS 31), defBody (topS 31), defScope (topS 31), [], []⟩
def dd17 : He.DefD := ⟨("renumbered", none), "renumbered", "renumbered", defArgs (topS 32), defBody (topS 32), defScope (topS 32), [], []⟩
def dd18 : He.DefD := ⟨("classes_of", none), "classes_of", "classes_of", defArgs (topS 33), defBody (topS 33), defScope (topS 33), [], []⟩
def dd19 : He.DefD := ⟨("least_rows", none), "least_rows", "least_rows", defArgs (topS 34), defBody (topS 34), defScope (topS 34), [], []⟩
def dd20 : He.DefD := ⟨("machine_by", none), "machine_by", "machine_by", defArgs (topS 35), defBody (topS 35), defScope (topS 35), [], []⟩
def dd21 : He.DefD := ⟨("watcher_by", none), "watcher_by", "watcher_by", defArgs (topS 36), defBody (topS 36), defScope (topS 36), [], []⟩
def dd22 : He.DefD := ⟨("many_of", none), "many_of", "many_of", defArgs (topS 37), defBody (topS 37), defScope (topS 37), [], []⟩
def dd23 : He.DefD := ⟨("joined_rows", none), "joined_rows", "joined_rows", defArgs (topS 38), defBody (topS 38), defScope (topS 38), [], []⟩
def dd24 : He.DefD := ⟨("together_by", none), "together_by", "together_by", defArgs (topS 39), defBody (topS 39), defScope (topS 39), [], []⟩
def dd25 : He.DefD := ⟨("is_range", none), "is_range", "is_range", defArgs (topS 46), defBody (topS 46), defScope (topS 46), [], []⟩
def dd26 : He.DefD := ⟨("is_clause", none), "is_clause", "is_clause", defArgs (topS 47), defBody (topS 47), defScope (topS 47), [], []⟩
def dd27 : He.DefD := ⟨("are_clauses", none), "are_clauses", "are_clauses", defArgs (topS 48), defBody (topS 48), defScope (topS 48), [], []⟩
def dd28 : He.DefD := ⟨("is_standard", none), "is_standard", "is_standard", defArgs (topS 49), defBody (topS 49), defScope (topS 49), [], []⟩
def dd29 : He.DefD := ⟨("are_claims", none), "are_claims", "are_claims", defArgs (topS 50), defBody (topS 50), defScope (topS 50), [], []⟩
def dd30 : He.DefD := ⟨("need_standard", none), "need_standard", "need_standard", defArgs (topS 51), defBody (topS 51), defScope (topS 51), [], []⟩
def dd31 : He.DefD := ⟨("need_claims", none), "need_claims", "need_claims", defArgs (topS 52), defBody (topS 52), defScope (topS 52), [], []⟩
def dd32 : He.DefD := ⟨("need_claimed", none), "need_claimed", "need_claimed", defArgs (topS 53), defBody (topS 53), defScope (topS 53), [], []⟩
def dd33 : He.DefD := ⟨("binding_by", none), "binding_by", "binding_by", defArgs (topS 54), defBody (topS 54), defScope (topS 54), [], []⟩
def dd34 : He.DefD := ⟨("sentences_by", none), "sentences_by", "sentences_by", defArgs (topS 55), defBody (topS 55), defScope (topS 55), [], []⟩
def dd35 : He.DefD := ⟨("range_rows", none), "range_rows", "range_rows", defArgs (topS 56), defBody (topS 56), defScope (topS 56), [], []⟩
def dd36 : He.DefD := ⟨("game_of", none), "game_of", "game_of", defArgs (topS 60), defBody (topS 60), defScope (topS 60), [], []⟩
def dd37 : He.DefD := ⟨("can_keep", none), "can_keep", "can_keep", defArgs (topS 61), defBody (topS 61), defScope (topS 61), [], [("claims", .adr (fun K => kwAt K "can_keep" "claims"))]⟩
def dd38 : He.DefD := ⟨("row_of", none), "row_of", "row_of", defArgs (topS 62), defBody (topS 62), defScope (topS 62), [], []⟩
def dd39 : He.DefD := ⟨("made", none), "made", "made", defArgs (topS 63), defBody (topS 63), defScope (topS 63), [], [("claims", .adr (fun K => kwAt K "made" "claims"))]⟩
def dd40 : He.DefD := ⟨("asker", none), "asker", "asker", defArgs (topS 64), defBody (topS 64), defScope (topS 64), [], [("claims", .adr (fun K => kwAt K "asker" "claims"))]⟩
def dd41 : He.DefD := ⟨("least_break", none), "least_break", "least_break", defArgs (topS 65), defBody (topS 65), defScope (topS 65), [], []⟩
def dd42 : He.DefD := ⟨("news", none), "news", "news", defArgs (topS 66), defBody (topS 66), defScope (topS 66), [], [("claims", .adr (fun K => kwAt K "news" "claims"))]⟩
def dd43 : He.DefD := ⟨("beyond", none), "beyond", "beyond", defArgs (topS 67), defBody (topS 67), defScope (topS 67), [], [("claims", .adr (fun K => kwAt K "beyond" "claims"))]⟩
def dd44 : He.DefD := ⟨("_law_cell_at", none), "_law_cell_at", "_law_cell_at", defArgs (topS 69), defBody (topS 69), defScope (topS 69), [], []⟩
def dd45 : He.DefD := ⟨("_law_state", none), "_law_state", "_law_state", defArgs (topS 70), defBody (topS 70), defScope (topS 70), [], []⟩
def dd46 : He.DefD := ⟨("_law_choice", none), "_law_choice", "_law_choice", defArgs (topS 71), defBody (topS 71), defScope (topS 71), [], []⟩
def dd47 : He.DefD := ⟨("_law_letters", none), "_law_letters", "_law_letters", defArgs (topS 72), defBody (topS 72), defScope (topS 72), [], []⟩
def dd48 : He.DefD := ⟨("_law_atom", none), "_law_atom", "_law_atom", defArgs (topS 73), defBody (topS 73), defScope (topS 73), [], []⟩
def dd49 : He.DefD := ⟨("_law_saying", none), "_law_saying", "_law_saying", defArgs (topS 74), defBody (topS 74), defScope (topS 74), [], []⟩
def dd50 : He.DefD := ⟨("_law_sentence", none), "_law_sentence", "_law_sentence", defArgs (topS 75), defBody (topS 75), defScope (topS 75), [], []⟩
def dd51 : He.DefD := ⟨("_law_size", none), "_law_size", "_law_size", defArgs (topS 76), defBody (topS 76), defScope (topS 76), [], []⟩
def dd52 : He.DefD := ⟨("_law_clauses", none), "_law_clauses", "_law_clauses", defArgs (topS 77), defBody (topS 77), defScope (topS 77), [], []⟩
def dd53 : He.DefD := ⟨("_law_standard", none), "_law_standard", "_law_standard", defArgs (topS 78), defBody (topS 78), defScope (topS 78), [], []⟩
def dd54 : He.DefD := ⟨("_law_claims", none), "_law_claims", "_law_claims", defArgs (topS 79), defBody (topS 79), defScope (topS 79), [], []⟩
def dd55 : He.DefD := ⟨("_law_told", none), "_law_told", "_law_told", defArgs (topS 80), defBody (topS 80), defScope (topS 80), [], []⟩
def dd56 : He.DefD := ⟨("_law_parted", none), "_law_parted", "_law_parted", defArgs (topS 81), defBody (topS 81), defScope (topS 81), [], []⟩
def dd57 : He.DefD := ⟨("_law_numbered", none), "_law_numbered", "_law_numbered", defArgs (topS 82), defBody (topS 82), defScope (topS 82), [], []⟩
def dd58 : He.DefD := ⟨("_law_written_out", none), "_law_written_out", "_law_written_out", defArgs (topS 83), defBody (topS 83), defScope (topS 83), [], []⟩
def dd59 : He.DefD := ⟨("law", none), "law", "law", defArgs (topS 84), defBody (topS 84), defScope (topS 84), [], []⟩
def dd60 : He.DefD := ⟨("Game", some "__init__"), "__init__", "Game.__init__", defArgs (methS 0), defBody (methS 0), defScope (methS 0), [], []⟩
def dd61 : He.DefD := ⟨("Game", some "at"), "at", (("Game." : Str) ++ "at"), defArgs (methS 1), defBody (methS 1), defScope (methS 1), [], []⟩
def dd62 : He.DefD := ⟨("Game", some "asked"), "asked", (("Game." : Str) ++ "asked"), defArgs (methS 2), defBody (methS 2), defScope (methS 2), [], []⟩
def dd63 : He.DefD := ⟨("Game", some "behind"), "behind", (("Game." : Str) ++ "behind"), defArgs (methS 3), defBody (methS 3), defScope (methS 3), [], []⟩
def dd64 : He.DefD := ⟨("Game", some "ins_at"), "ins_at", (("Game." : Str) ++ "ins_at"), defArgs (methS 4), defBody (methS 4), defScope (methS 4), [], []⟩
def dd65 : He.DefD := ⟨("Game", some "met"), "met", (("Game." : Str) ++ "met"), defArgs (methS 5), defBody (methS 5), defScope (methS 5), [], []⟩
def dd66 : He.DefD := ⟨("Game", some "kept_beats"), "kept_beats", (("Game." : Str) ++ "kept_beats"), defArgs (methS 6), defBody (methS 6), defScope (methS 6), [], []⟩
def dd67 : He.DefD := ⟨("Game", some "losing_in"), "losing_in", (("Game." : Str) ++ "losing_in"), defArgs (methS 7), defBody (methS 7), defScope (methS 7), [], []⟩
def dd68 : He.DefD := ⟨("Game", some "settle"), "settle", (("Game." : Str) ++ "settle"), defArgs (methS 8), defBody (methS 8), defScope (methS 8), [], []⟩
def dd69 : He.DefD := ⟨("Game", some "is_kept"), "is_kept", (("Game." : Str) ++ "is_kept"), defArgs (methS 9), defBody (methS 9), defScope (methS 9), [], []⟩
def fn0 : List He.DefD := [dd0, dd1, dd2, dd3, dd4, dd5, dd6, dd7, dd8, dd9, dd10, dd11, dd12, dd13, dd14, dd15, dd16, dd17, dd18, dd19]
def fn1 : List He.DefD := [dd20, dd21, dd22, dd23, dd24, dd25, dd26, dd27, dd28, dd29, dd30, dd31, dd32, dd33, dd34, dd35, dd36, dd37, dd38, dd39]
def fn2 : List He.DefD := [dd40, dd41, dd42, dd43, dd44, dd45, dd46, dd47, dd48, dd49, dd50, dd51, dd52, dd53, dd54, dd55, dd56, dd57, dd58, dd59]
def fn3 : List He.DefD := [dd60, dd61, dd62, dd63, dd64, dd65, dd66, dd67, dd68, dd69]
def fns : List He.DefD := fn0 ++ fn1 ++ fn2 ++ fn3
def fa0 : List He.Fa := [.glo "is_whole", .glo "is_within", .glo "is_word", .glo "rises", .glo "are_words", .glo "is_letters", .glo "beats_of", .glo "is_saying_by", .glo "is_so_by", .glo "speaks_of_outs", .glo "is_sentence_by", .glo "is_of_ins", .glo "step_within", .glo "step_counted", .glo "step_marked", .glo "step_by", .glo "step_rows", .glo "renumbered", .glo "classes_of", .glo "least_rows", .glo "machine_by", .glo "watcher_by", .glo "many_of", .glo "joined_rows", .glo "together_by", .glo "is_range", .glo "is_clause", .glo "are_clauses", .glo "is_standard", .glo "are_claims"]
def fa1 : List He.Fa := [.glo "need_standard", .glo "need_claims", .glo "need_claimed", .glo "binding_by", .glo "sentences_by", .glo "range_rows", .glo "game_of", .glo "can_keep", .glo "row_of", .glo "made", .glo "asker", .glo "least_break", .glo "news", .glo "beyond", .glo "_law_cell_at", .glo "_law_state", .glo "_law_choice", .glo "_law_letters", .glo "_law_atom", .glo "_law_saying", .glo "_law_sentence", .glo "_law_size", .glo "_law_clauses", .glo "_law_standard", .glo "_law_claims", .glo "_law_told", .glo "_law_parted", .glo "_law_numbered", .glo "_law_written_out", .glo "law"]
def fa2 : List He.Fa := [.glo "Game", .glo "KINDS", .glo "BEGIN", .free "isinstance", .free "int", .free "bool", .free "str", .free "tuple", .free "len", .free "all", .free "any", .free "zip", .free "enumerate", .free "range", .free "max", .free "min", .free "list", .int "MOST_LETTERS" 3, .int "MOST_DEPTH" 4, .int "MOST_NUMBER_sentences" 6, .int "MOST_RANGE" 3, .int "MOST_CLAUSES" 8, .int "MOST_NUMBER_standards" 99, .int "MOST_STANDINGS" 60, .int "MOST_RANGE_STANDINGS" 4, .str "SMALL" "abcdefghijklmnopqrstuvwxyz", .cls "Game", .mkr "Game", .meth "Game" "at", .meth "Game" "asked"]
def fa3 : List He.Fa := [.meth "Game" "behind", .meth "Game" "ins_at", .meth "Game" "met", .meth "Game" "kept_beats", .meth "Game" "losing_in", .meth "Game" "settle", .meth "Game" "is_kept", .noat "Game" "letters", .noat "Game" "limits", .noat "Game" "rows", .noat "Game" "lost"]
def fas : List He.Fa := fa0 ++ fa1 ++ fa2 ++ fa3
def tabs : List He.Tab := [(fun K => He.ga K "KINDS", ["never", "after", "until", "within", "first", "most", "apart"])]
def tfs : List He.Defn := [("watcher_by", none), ("joined_rows", none)]
/-- the tuple at an address -/
def tupleAt (K : PySem.W.Frag) (t : Addr) (vs : List V) : Bool := match K.lookup t with
  | some ⟨.type ty, _, .seq items _, _⟩ => decide (ty = "tuple") && (decide (items.size ≤ sizeLine) && He.relAll vs items.toList)
  | _ => false
def kindsL : List (Str × Nat × Nat) := [("never", 1, 0), ("after", 2, 0), ("until", 3, 0), ("within", 2, 1), ("first", 2, 0), ("most", 1, 1), ("apart", 1, 1)]
def kindsB (K : PySem.W.Frag) : Bool := kindsL.all fun q => match PySem.W.nsIn K (He.ga K "KINDS") q.1 with
  | some (some (.ref t)) => tupleAt K t [.int (q.2.1 : Nat), .int (q.2.2 : Nat)]
  | _ => false
def exB (K : PySem.W.Frag) : Bool := He.tupB K "BEGIN" [.int 0, .int 0] && (kindsB K && decide ((He.cT K ("watcher_by", none)).2 ≠ (He.cT K ("joined_rows", none)).2))
abbrev theRow : PySem.W.OpenRow := PySem.W.OpenLaw.row PySem.Challenge.rw_madetorule_k82_whole_clauses_parted_and
abbrev qv : Program := PySem.W.view theRow.prog [84]
abbrev hk : PySem.W.Hook := He.hookX 6 fas fns tabs tfs exB
def ob (s : PySem.W.SharedT) : He.AlX := He.obsX 6 fas fns tabs tfs exB (HandSHeadRun.getT s)
theorem ob_eq (s : PySem.W.SharedT) : ob s = hk.obs s.abs := He.obsX_eq (HandSHeadRun.getT_eq s)
theorem runF (w : World) : HandSHeadRun.RunEq theRow qv hk ob 6000 nms (w.withFollow "special-get-raises" false) := by
  intro os
  kernel_rfl
theorem runT (w : World) : HandSHeadRun.RunEq theRow qv hk ob 6000 nms (w.withFollow "special-get-raises" true) := by
  intro os
  kernel_rfl
theorem run (w : World) : HandSHeadRun.RunEq theRow qv hk ob 6000 nms w := PySem.W.byRow2 "special-get-raises" runF runT w
end MR
/-! L1: the layer's base. -/
namespace MR
open PySem PySem.Spec PyProof.Rows L2

/-- what is fixed through the law -/
structure GC where
  P : Program
  w : World
  K : PySem.W.Frag
  mg : Str → Option Value
  base : Heap
  T : List (Addr × Str)

/-! ### heaps that grow -/
structure Ext (H H' : Hp) : Prop where
  keep : ∀ b o, H b = some o → (∀ ps, o ≠ .tbl ps) → H' b = some o
  back : ∀ b, H' b = none → H b = none
theorem Ext.refl (H : Hp) : Ext H H := ⟨fun _ _ h _ => h, fun _ h => h⟩
theorem Ext.trans {H1 H2 H3 : Hp} (a : Ext H1 H2) (b : Ext H2 H3) : Ext H1 H3 := ⟨fun x o h n => b.keep x o (a.keep x o h n) n, fun x h => a.back x (b.back x h)⟩
theorem Ext.new {H : Hp} {p : Addr} {o : HO} (h : H p = none) : Ext H (upd H p o) := by
  constructor
  · intro b u e _
    rw [upd_ne (ne_of_none e h)]
    exact e
  · intro b e
    by_cases hb : b = p
    · rw [hb]; exact h
    · rw [upd_ne hb] at e; exact e
theorem Ext.news {B H : Hp} {p : Addr} {o : HO} (x : Ext B H) (h : H p = none) : Ext (upd B p o) (upd H p o) := by
  constructor
  · intro b u e n
    by_cases hb : b = p
    · subst hb; rw [upd_same] at e ⊢; exact e
    · rw [upd_ne hb] at e ⊢; exact x.keep b u e n
  · intro b e
    by_cases hb : b = p
    · subst hb; rw [upd_same] at e; cases e
    · rw [upd_ne hb] at e ⊢; exact x.back b e
theorem Ext.hid {B H : Hp} {p : Addr} {o : HO} (x : Ext B H) (hB : B p = none) : Ext B (upd H p o) := by
  constructor
  · intro b u e n
    have hb : b ≠ p := ne_of_none e hB
    rw [upd_ne hb]
    exact x.keep b u e n
  · intro b e
    by_cases hb : b = p
    · rw [hb]; exact hB
    · rw [upd_ne hb] at e; exact x.back b e
theorem Ext.some {H H' : Hp} (x : Ext H H') {b : Addr} (h : H b ≠ none) : H' b ≠ none := fun e => h (x.back b e)
theorem Ext.rd {H H' : Hp} {a : Addr} {u : HO} (x : Ext H H') (h : Rd H a u) (n : ∀ ps, u ≠ .tbl ps) : Rd H' a u := by
  rcases h with h | ⟨o, h⟩
  · exact .inl (x.keep a _ h n)
  · exact .inr ⟨o, x.keep a _ h (fun ps q => nomatch q)⟩
theorem Ext.sqL {K : PySem.W.Frag} {H H' : Hp} {a : Addr} {xs : List V} (x : Ext H H') (h : SqL K H a xs) : SqL K H' a xs := by
  rcases h with h | h
  · exact .inl (x.rd h fun ps q => nomatch q)
  · exact .inr h
theorem Ext.sqT {K : PySem.W.Frag} {H H' : Hp} {a : Addr} {xs : List V} (x : Ext H H') (h : SqT K H a xs) : SqT K H' a xs := by
  rcases h with h | h
  · exact .inl (x.rd h fun ps q => nomatch q)
  · exact .inr h
mutual
theorem dp_mono {K : PySem.W.Frag} {H H' : Hp} (x : Ext H H') : ∀ (d : PyData) (v : V), Dp K H v d → Dp K H' v d
  | .none, _, h => by cases h; exact .non
  | .bool b, _, h => by cases h; exact .bl b
  | .int i, _, h => by cases h; exact .int i
  | .str z, _, h => by cases h; exact .str z
  | .list ds, _, h => by
    cases h with
    | lst hs ha => exact .lst (x.sqL hs) (dpa_mono x ds _ ha)
  | .tuple ds, _, h => by
    cases h with
    | tup hs ha => exact .tup (x.sqT hs) (dpa_mono x ds _ ha)
  | .dict _, _, h => by cases h
theorem dpa_mono {K : PySem.W.Frag} {H H' : Hp} (x : Ext H H') : ∀ (ds : List PyData) (vs : List V), DpAll K H vs ds → DpAll K H' vs ds
  | [], _, h => by cases h; exact .nil
  | d :: ds, _, h => by
    cases h with
    | cons h1 h2 => exact .cons (dp_mono x d _ h1) (dpa_mono x ds _ h2)
end
theorem dpa_len {K : PySem.W.Frag} {H : Hp} : ∀ {ds : List PyData} {vs : List V}, DpAll K H vs ds → vs.length = ds.length
  | [], _, h => by cases h; rfl
  | d :: ds, _, h => by
    cases h with
    | cons h1 h2 => rw [List.length_cons, List.length_cons, dpa_len h2]
theorem dpa_get {K : PySem.W.Frag} {H : Hp} : ∀ {ds : List PyData} {vs : List V} {i : Nat} {d : PyData}, DpAll K H vs ds → ds[i]? = Option.some d → ∃ v, vs[i]? = Option.some v ∧ Dp K H v d
  | [], _, _, _, _, e => by simp at e
  | d :: ds, _, 0, _, h, e => by
    cases h with
    | cons h1 h2 => simp at e; subst e; exact ⟨_, rfl, h1⟩
  | d :: ds, _, i + 1, _, h, e => by
    cases h with
    | cons h1 h2 =>
      obtain ⟨v, e1, e2⟩ := dpa_get (i := i) h2 (by simpa using e)
      exact ⟨v, by simpa using e1, e2⟩
theorem dpa_get' {K : PySem.W.Frag} {H : Hp} : ∀ {ds : List PyData} {vs : List V} {i : Nat} {v : V}, DpAll K H vs ds → vs[i]? = Option.some v → ∃ d, ds[i]? = Option.some d ∧ Dp K H v d
  | [], _, _, _, h, e => by cases h; simp at e
  | d :: ds, _, 0, _, h, e => by
    cases h with
    | cons h1 h2 => simp at e; subst e; exact ⟨_, rfl, h1⟩
  | d :: ds, _, i + 1, _, h, e => by
    cases h with
    | cons h1 h2 =>
      obtain ⟨v, e1, e2⟩ := dpa_get' (i := i) h2 (by simpa using e)
      exact ⟨v, by simpa using e1, e2⟩
theorem dpa_app {K : PySem.W.Frag} {H : Hp} : ∀ {ds es : List PyData} {vs ws : List V}, DpAll K H vs ds → DpAll K H ws es → DpAll K H (vs ++ ws) (ds ++ es)
  | [], _, _, _, h, g => by cases h; exact g
  | d :: ds, _, _, _, h, g => by
    cases h with
    | cons h1 h2 => exact .cons h1 (dpa_app h2 g)
theorem dpa_snoc {K : PySem.W.Frag} {H : Hp} {ds : List PyData} {vs : List V} {d : PyData} {v : V} (h : DpAll K H vs ds) (g : Dp K H v d) : DpAll K H (vs ++ [v]) (ds ++ [d]) := dpa_app h (.cons g .nil)
theorem dpa_take {K : PySem.W.Frag} {H : Hp} : ∀ {ds : List PyData} {vs : List V} (n : Nat), DpAll K H vs ds → DpAll K H (vs.take n) (ds.take n)
  | _, _, 0, _ => .nil
  | [], _, _ + 1, h => by cases h; exact .nil
  | d :: ds, _, n + 1, h => by
    cases h with
    | cons h1 h2 => exact .cons h1 (dpa_take n h2)
theorem dpa_drop {K : PySem.W.Frag} {H : Hp} : ∀ {ds : List PyData} {vs : List V} (n : Nat), DpAll K H vs ds → DpAll K H (vs.drop n) (ds.drop n)
  | _, _, 0, h => h
  | [], _, _ + 1, h => by cases h; exact .nil
  | d :: ds, _, n + 1, h => by
    cases h with
    | cons h1 h2 => exact dpa_drop n h2
theorem dpa_rev {K : PySem.W.Frag} {H : Hp} : ∀ {ds : List PyData} {vs : List V}, DpAll K H vs ds → DpAll K H vs.reverse ds.reverse
  | [], _, h => by cases h; exact .nil
  | d :: ds, _, h => by
    cases h with
    | cons h1 h2 => rw [List.reverse_cons, List.reverse_cons]; exact dpa_snoc (dpa_rev h2) h1

/-! ### what a value is, told of the heap -/
structure PV (G : GC) where
  p : Hp → V → Prop
  mono : ∀ {H H' : Hp} {v : V}, Ext H H' → p H v → p H' v
def dat {G : GC} (d : PyData) : PV G := ⟨fun H v => Dp G.K H v d, fun x h => dp_mono x _ _ h⟩
def refP {G : GC} (a : Addr) : PV G := ⟨fun _ v => v = .ref a, fun _ h => h⟩

/-! ### keys -/
mutual
def nk : PyData → NestedKey
  | .none => .none
  | .bool b => .num (if b then 1 else 0)
  | .int i => .num i
  | .str x => .text x
  | .list _ => .none
  | .tuple ds => .tup (nks ds)
  | .dict _ => .none
def nks : List PyData → List NestedKey
  | [] => []
  | d :: ds => nk d :: nks ds
end
mutual
/-- what may stand in a key -/
def keyable : PyData → Bool
  | .none => true
  | .bool _ => true
  | .int _ => true
  | .str _ => true
  | .list _ => false
  | .tuple ds => keyables ds
  | .dict _ => false
def keyables : List PyData → Bool
  | [] => true
  | d :: ds => keyable d && keyables ds
end
/-- what d holds at a key -/
def dget (kvs : List (PyData × PyData)) (k : PyData) : Option PyData := (kvs.find? fun q => decide (nk q.1 = nk k)).map (·.2)
/-- the pairs behind d[k] = v -/
def dput (kvs : List (PyData × PyData)) (k v : PyData) : List (PyData × PyData) :=
  if (dget kvs k).isSome then kvs.map fun q => if nk q.1 = nk k then (q.1, v) else q else kvs ++ [(k, v)]

/-- a dict whose keys are tuples: its entries (key, where the key's tuple stands, value) -/
def dN (P : Program) (w : World) (a : Addr) (xs : List (NestedKey × Addr × V)) : HO := .ext fun h =>
  ∃ ys : List (NestedKey × Addr × Value), Paired (fun x y => x.1 = y.1 ∧ x.2.1 = y.2.1 ∧ RelV x.2.2 y.2.2) xs ys ∧
    ∃ o es ep, h.get? a = some o ∧ o.ExactDict ∧ o.data = .dict es ep ∧ es.toList = ys.map (entryOfKey (nestedKind P w))

inductive Cont (G : GC) where
  | lst (ds : List PyData)
  | dct (t : Bool) (kvs : List (PyData × PyData))
  | ins (C : Addr) (fs : List (Str × PV G))

theorem pair_mono {α β : Type} {F F' : α → β → Prop} (h : ∀ a b, F a b → F' a b) {l : List α} {m : List β} (p : Paired F l m) : Paired F' l m := Paired.mono h p
/-- what an entry of a dict says: int keys, tuple keys -/
def EntK (K : PySem.W.Frag) (B : Hp) : Key × V → PyData × PyData → Prop := fun x q => ∃ i, x.1 = Sum.inl i ∧ q.1 = .int i ∧ Dp K B x.2 q.2
def EntN (K : PySem.W.Frag) (B : Hp) : NestedKey × Addr × V → PyData × PyData → Prop := fun x q => (∃ ds, q.1 = .tuple ds) ∧ x.1 = nk q.1 ∧ NestedKey.depth x.1 ≤ 8 ∧ keyable q.1 = true ∧ Dp K B (.ref x.2.1) q.1 ∧ Dp K B x.2.2 q.2
theorem EntK.mono {K : PySem.W.Frag} {B B' : Hp} (b : Ext B B') {x q} (h : EntK K B x q) : EntK K B' x q := let ⟨i, h1, h2, h3⟩ := h; ⟨i, h1, h2, dp_mono b _ _ h3⟩
theorem EntN.mono {K : PySem.W.Frag} {B B' : Hp} (b : Ext B B') {x q} (h : EntN K B x q) : EntN K B' x q := let ⟨h1, h2, h3, h4, h5, h6⟩ := h; ⟨h1, h2, h3, h4, dp_mono b _ _ h5, dp_mono b _ _ h6⟩
/-- the cell of a dict -/
def DctO (P : Program) (w : World) (K : PySem.W.Frag) (B : Hp) (a : Addr) (t : Bool) (kvs : List (PyData × PyData)) (o : HO) : Prop :=
  kvs.length ≤ sizeLine ∧ (kvs.map fun q => nk q.1).Nodup ∧ (a == sysModules) = false ∧
    ((t = false ∧ ∃ ks : List (Key × V), o = .dK ks ∧ Paired (EntK K B) ks kvs) ∨ (t = true ∧ ∃ xs : List (NestedKey × Addr × V), o = dN P w a xs ∧ Paired (EntN K B) xs kvs))
/-- what the cell o at a holds, its items held by the part B of the heap -/
def ContO (G : GC) (B : Hp) (a : Addr) : Cont G → HO → Prop
  | .lst ds, o => ∃ vs, o = .lst vs ∧ DpAll G.K B vs ds
  | .dct t kvs, o => DctO G.P G.w G.K B a t kvs o
  | .ins C fs, o => ∃ dx vs, o = .ins C dx vs ∧ Paired (fun (x : Str × V) (q : Str × PV G) => x.1 = q.1 ∧ q.2.p B x.2) vs fs
def ContAt (G : GC) (B H : Hp) (a : Addr) (c : Cont G) : Prop := ∃ o, H a = some o ∧ ContO G B a c o
theorem ContO.notTbl {G : GC} {B : Hp} {a : Addr} {c : Cont G} {o : HO} (h : ContO G B a c o) : ∀ ps, o ≠ .tbl ps := fun ps z => by
  subst z
  cases c with
  | lst ds => obtain ⟨vs, e, _⟩ := h; cases e
  | dct t kvs =>
    obtain ⟨_, _, _, h⟩ := h
    rcases h with ⟨_, _, e, _⟩ | ⟨_, _, e, _⟩
    · cases e
    · unfold dN at e; cases e
  | ins C fs => obtain ⟨dx, vs, e, _⟩ := h; cases e
theorem ContO.mut {G : GC} {B : Hp} {a : Addr} {c : Cont G} {o : HO} (h : ContO G B a c o) : Mut (some o) := by
  cases c with
  | lst ds => obtain ⟨vs, e, _⟩ := h; subst e; exact True.intro
  | dct t kvs =>
    obtain ⟨_, _, _, h⟩ := h
    rcases h with ⟨_, _, e, _⟩ | ⟨_, _, e, _⟩
    · subst e; exact True.intro
    · subst e; exact True.intro
  | ins C fs => obtain ⟨dx, vs, e, _⟩ := h; subst e; exact True.intro
theorem ContO.mono {G : GC} {B B' : Hp} {a : Addr} {c : Cont G} {o : HO} (b : Ext B B') (h : ContO G B a c o) : ContO G B' a c o := by
  cases c with
  | lst ds =>
    obtain ⟨vs, e, q⟩ := h
    exact ⟨vs, e, dpa_mono b _ _ q⟩
  | dct t kvs =>
    obtain ⟨z1, z2, z3, h⟩ := h
    refine ⟨z1, z2, z3, ?_⟩
    rcases h with ⟨t1, ks, e, q⟩ | ⟨t1, xs, e, q⟩
    · exact .inl ⟨t1, ks, e, pair_mono (fun u q h => h.mono b) q⟩
    · exact .inr ⟨t1, xs, e, pair_mono (fun u q h => h.mono b) q⟩
  | ins C fs =>
    obtain ⟨dx, vs, e, q⟩ := h
    exact ⟨dx, vs, e, pair_mono (fun u q h => ⟨h.1, q.2.mono b h.2⟩) q⟩
theorem ContAt.mono {G : GC} {B B' H H' : Hp} {a : Addr} {c : Cont G} (b : Ext B B') (x : Ext H H') (h : ContAt G B H a c) : ContAt G B' H' a c := by
  obtain ⟨o, e, h⟩ := h
  exact ⟨o, x.keep a o e h.notTbl, h.mono b⟩
/-- the dict told as a value -/
def dctP {G : GC} (t : Bool) (kvs : List (PyData × PyData)) : PV G := ⟨fun H v => ∃ a, v = .ref a ∧ ContAt G H H a (.dct t kvs), fun x ⟨a, e, h⟩ => ⟨a, e, h.mono x x⟩⟩

structure Rho (G : GC) where
  sl : List (Option (PV G))
  ow : List (Addr × Cont G)

/-- the state: A the heap at the entry (but what is ours to change), B0 the entry's part, B the part that stays -/
structure EnvB (G : GC) (A B0 B : Hp) (ρ : Rho G) (σ : L2.St) (H : Hp) : Prop where
  b0 : Ext B0 B
  bh : Ext B H
  ah : Ext A H
  av : ∀ a, A a ≠ none → B0 a = none → B a = none
  tabs : LamX.Tabs G.T H
  sl : ∀ (i : Nat) p, ρ.sl[i]? = some (some p) → ∃ v, σ[i]? = some (some v) ∧ p.p B v
  ow : ∀ a c, (a, c) ∈ ρ.ow → A a = none ∧ B a = none ∧ ContAt G B H a c
  nd : (ρ.ow.map (·.1)).Nodup
  ln : ρ.sl.length = σ.length
end MR
/-! L2a: contexts, the judgements. -/
namespace MR
open PySem PySem.Spec PyProof.Rows L2

/-- a body's (or a block's) context over G -/
structure LC (G : GC) where
  X : Cx
  hP : X.prog = G.P
  hw : X.w = G.w
  hK : X.K = G.K
  hm : X.mg = G.mg
  hb : X.base = G.base
  calm : X.calm = true
  nd : X.N.Nodup
  k : Nat
  room : Room k X.A
abbrev LC.blk {G : GC} (L : LC G) (s : Shared) (H : Hp) (scope : Scope) (C : Addr) (cl : List (Str × Addr)) (fp : List Addr) : LC G where
  X := L.X.blk s H scope (compEnvC scope cl C L.X.env) fp
  hP := L.hP
  hw := L.hw
  hK := L.hK
  hm := L.hm
  hb := L.hb
  calm := L.calm
  nd := L.nd
  k := L.k
  room := L.room

/-! ### what the machine does, over the layer's invariant -/
def WE (X : Cx) (e : Expr) (σ : L2.St) (H : Hp) (Q : VK) : Prop := ∀ (pins : List (Addr × Obj)) (s : Shared), Inv X pins σ H s → wpAny (model X.prog X.w) X.A (eval e X.env) (EP X pins σ Q) X.xe s
def WT (X : Cx) (e : Expr) (σ : L2.St) (H : Hp) (Q : Bool → Hp → Prop) : Prop := ∀ (pins : List (Addr × Obj)) (s : Shared), Inv X pins σ H s → wpAny (model X.prog X.w) X.A (isTrue e X.env (eval e X.env)) (TP X pins σ Q) X.xe s
def WW (X : Cx) (e : Expr) (σ : L2.St) (H : Hp) (Q : Bool → Hp → Prop) : Prop := ∀ (whole : Sem Value) (pins : List (Addr × Obj)) (s : Shared), Inv X pins σ H s → wpAny (model X.prog X.w) X.A (isTrue e X.env whole) (TP X pins σ Q) X.xe s
def WA (X : Cx) (es : List Expr) (σ : L2.St) (H : Hp) (Q : List V → Hp → Prop) : Prop := ∀ (pos : Pos) (pins : List (Addr × Obj)) (s : Shared), Inv X pins σ H s → wpAny (model X.prog X.w) X.A (spliced (backTo pos (starEach es X.env))) (AP X pins σ Q) X.xe s
def WSt (X : Cx) (st : Stmt) (D : Ends) (σ : L2.St) (H : Hp) : Prop := ∀ (pins : List (Addr × Obj)) (s : Shared), Inv X pins σ H s → wpAny (model X.prog X.w) X.A (exec st X.env) (SP X pins D) X.xe s
def WSs (X : Cx) (sts : List Stmt) (D : Ends) (σ : L2.St) (H : Hp) : Prop := ∀ (pins : List (Addr × Obj)) (s : Shared), Inv X pins σ H s → wpAny (model X.prog X.w) X.A (execs sts X.env) (SP X pins D) X.xe s
theorem WE.pe (X : Cx) (e : Expr) : PE X e (WE X e) := ⟨fun pins s _ _ _ I h => h pins s I⟩
theorem WT.pt (X : Cx) (e : Expr) : PT X e (WT X e) := ⟨fun pins s _ _ _ I h => h pins s I⟩
theorem WW.pw (X : Cx) (e : Expr) : PW X e (WW X e) := ⟨fun wh pins s _ _ _ I h => h wh pins s I⟩
theorem WA.pa (X : Cx) (es : List Expr) : PA X es (WA X es) := ⟨fun pos pins s _ _ _ I h => h pos pins s I⟩
theorem WSt.ps (X : Cx) (st : Stmt) : PS X st (fun D σ H => WSt X st D σ H) := ⟨fun pins s _ _ _ I h => h pins s I⟩
theorem WSs.pss (X : Cx) (sts : List Stmt) : PSs X sts (fun D σ H => WSs X sts D σ H) := ⟨fun pins s _ _ _ I h => h pins s I⟩
theorem WE.of {X : Cx} {e : Expr} {t : TE} {σ : L2.St} {H : Hp} {Q : VK} (h : PE X e t) (q : t σ H Q) : WE X e σ H Q := fun pins s I => h.run pins s σ H Q I q
theorem WT.of {X : Cx} {e : Expr} {t : TT} {σ : L2.St} {H : Hp} {Q : Bool → Hp → Prop} (h : PT X e t) (q : t σ H Q) : WT X e σ H Q := fun pins s I => h.run pins s σ H Q I q
theorem WW.of {X : Cx} {e : Expr} {t : TT} {σ : L2.St} {H : Hp} {Q : Bool → Hp → Prop} (h : PW X e t) (q : t σ H Q) : WW X e σ H Q := fun wh pins s I => h.run wh pins s σ H Q I q
theorem WA.of {X : Cx} {es : List Expr} {t : TA} {σ : L2.St} {H : Hp} {Q : List V → Hp → Prop} (h : PA X es t) (q : t σ H Q) : WA X es σ H Q := fun pos pins s I => h.run pos pins s σ H Q I q
theorem WSt.of {X : Cx} {st : Stmt} {t : TS} {σ : L2.St} {H : Hp} {D : Ends} (h : PS X st t) (q : t D σ H) : WSt X st D σ H := fun pins s I => h.run pins s σ H D I q
theorem WSs.of {X : Cx} {st : List Stmt} {t : TS} {σ : L2.St} {H : Hp} {D : Ends} (h : PSs X st t) (q : t D σ H) : WSs X st D σ H := fun pins s I => h.run pins s σ H D I q

/-! ### what evaluates to what -/
section
variable {G : GC}
/-- e evaluates to a thing, leaving a state, both told by Po -/
structure EvM (L : LC G) (ρ : Rho G) (e : Expr) (Po : PV G → Rho G → Prop) : Prop where
  mk ::
  go : ∀ (A B0 B : Hp) (σ : L2.St) (H : Hp) (Q : VK), EnvB G A B0 B ρ σ H →
  (∀ p ρ', Po p ρ' → ∀ v B' H', Ext B B' → EnvB G A B0 B' ρ' σ H' → p.p B' v → Q v H') → WE L.X e σ H Q
instance {L : LC G} {ρ : Rho G} {e : Expr} {Po : PV G → Rho G → Prop} : CoeFun (EvM L ρ e Po) fun _ => ∀ (A B0 B : Hp) (σ : L2.St) (H : Hp) (Q : VK), EnvB G A B0 B ρ σ H → (∀ p ρ', Po p ρ' → ∀ v B' H', Ext B B' → EnvB G A B0 B' ρ' σ H' → p.p B' v → Q v H') → WE L.X e σ H Q := ⟨EvM.go⟩
/-- e evaluates to p and changes nothing -/
def EvD (L : LC G) (ρ : Rho G) (e : Expr) (p : PV G) : Prop := EvM L ρ e fun q ρ' => q = p ∧ ρ' = ρ
instance {L : LC G} {ρ : Rho G} {e : Expr} {p : PV G} : CoeFun (EvD L ρ e p) fun _ => ∀ (A B0 B : Hp) (σ : L2.St) (H : Hp) (Q : VK), EnvB G A B0 B ρ σ H → (∀ q ρ', q = p ∧ ρ' = ρ → ∀ v B' H', Ext B B' → EnvB G A B0 B' ρ' σ H' → q.p B' v → Q v H') → WE L.X e σ H Q := ⟨fun h => EvM.go h⟩
/-- a test, likewise -/
structure EvTM (L : LC G) (ρ : Rho G) (e : Expr) (Po : Bool → Rho G → Prop) : Prop where
  mk ::
  go : ∀ (A B0 B : Hp) (σ : L2.St) (H : Hp) (Q : Bool → Hp → Prop), EnvB G A B0 B ρ σ H →
  (∀ b ρ', Po b ρ' → ∀ B' H', Ext B B' → EnvB G A B0 B' ρ' σ H' → Q b H') → WT L.X e σ H Q
instance {L : LC G} {ρ : Rho G} {e : Expr} {Po : Bool → Rho G → Prop} : CoeFun (EvTM L ρ e Po) fun _ => ∀ (A B0 B : Hp) (σ : L2.St) (H : Hp) (Q : Bool → Hp → Prop), EnvB G A B0 B ρ σ H → (∀ b ρ', Po b ρ' → ∀ B' H', Ext B B' → EnvB G A B0 B' ρ' σ H' → Q b H') → WT L.X e σ H Q := ⟨EvTM.go⟩
def EvT (L : LC G) (ρ : Rho G) (e : Expr) (b : Bool) : Prop := EvTM L ρ e fun c ρ' => c = b ∧ ρ' = ρ
instance {L : LC G} {ρ : Rho G} {e : Expr} {b : Bool} : CoeFun (EvT L ρ e b) fun _ => ∀ (A B0 B : Hp) (σ : L2.St) (H : Hp) (Q : Bool → Hp → Prop), EnvB G A B0 B ρ σ H → (∀ c ρ', c = b ∧ ρ' = ρ → ∀ B' H', Ext B B' → EnvB G A B0 B' ρ' σ H' → Q c H') → WT L.X e σ H Q := ⟨fun h => EvTM.go h⟩
/-- a chain of and, or -/
structure EvW (L : LC G) (ρ : Rho G) (e : Expr) (b : Bool) : Prop where
  mk ::
  go : ∀ (A B0 B : Hp) (σ : L2.St) (H : Hp) (Q : Bool → Hp → Prop), EnvB G A B0 B ρ σ H →
  (∀ B' H', Ext B B' → EnvB G A B0 B' ρ σ H' → Q b H') → WW L.X e σ H Q
instance {L : LC G} {ρ : Rho G} {e : Expr} {b : Bool} : CoeFun (EvW L ρ e b) fun _ => ∀ (A B0 B : Hp) (σ : L2.St) (H : Hp) (Q : Bool → Hp → Prop), EnvB G A B0 B ρ σ H → (∀ B' H', Ext B B' → EnvB G A B0 B' ρ σ H' → Q b H') → WW L.X e σ H Q := ⟨EvW.go⟩
abbrev PVs {G : GC} (B : Hp) : List V → List (PV G) → Prop := Paired fun v p => p.p B v
theorem PVs.mono {B B' : Hp} (x : Ext B B') {vs : List V} {ps : List (PV G)} (h : PVs B vs ps) : PVs B' vs ps := pair_mono (fun _ p q => p.mono x q) h
structure EvAM (L : LC G) (ρ : Rho G) (es : List Expr) (Po : List (PV G) → Rho G → Prop) : Prop where
  mk ::
  go : ∀ (A B0 B : Hp) (σ : L2.St) (H : Hp) (Q : List V → Hp → Prop), EnvB G A B0 B ρ σ H →
  (∀ ps ρ', Po ps ρ' → ∀ vs B' H', Ext B B' → EnvB G A B0 B' ρ' σ H' → PVs B' vs ps → Q vs H') → WA L.X es σ H Q
instance {L : LC G} {ρ : Rho G} {es : List Expr} {Po : List (PV G) → Rho G → Prop} : CoeFun (EvAM L ρ es Po) fun _ => ∀ (A B0 B : Hp) (σ : L2.St) (H : Hp) (Q : List V → Hp → Prop), EnvB G A B0 B ρ σ H → (∀ ps ρ', Po ps ρ' → ∀ vs B' H', Ext B B' → EnvB G A B0 B' ρ' σ H' → PVs B' vs ps → Q vs H') → WA L.X es σ H Q := ⟨EvAM.go⟩
def EvA (L : LC G) (ρ : Rho G) (es : List Expr) (ps : List (PV G)) : Prop := EvAM L ρ es fun qs ρ' => qs = ps ∧ ρ' = ρ
instance {L : LC G} {ρ : Rho G} {es : List Expr} {ps : List (PV G)} : CoeFun (EvA L ρ es ps) fun _ => ∀ (A B0 B : Hp) (σ : L2.St) (H : Hp) (Q : List V → Hp → Prop), EnvB G A B0 B ρ σ H → (∀ qs ρ', qs = ps ∧ ρ' = ρ → ∀ vs B' H', Ext B B' → EnvB G A B0 B' ρ' σ H' → PVs B' vs qs → Q vs H') → WA L.X es σ H Q := ⟨fun h => EvAM.go h⟩

/-- what is wanted behind a block -/
structure Post (G : GC) where
  nx : Rho G → Prop
  rt : PV G → Rho G → Prop
  bk : Rho G → Prop := fun _ => False
  ct : Rho G → Prop := fun _ => False
/-- the ends serve the post -/
structure Serves (A B0 : Hp) (Po : Post G) (D : Ends) : Prop where
  nx : ∀ ρ, Po.nx ρ → ∀ B σ H, EnvB G A B0 B ρ σ H → D.nx σ H
  rt : ∀ p ρ, Po.rt p ρ → ∀ v B σ H, EnvB G A B0 B ρ σ H → p.p B v → D.rt v H
  bk : ∀ ρ, Po.bk ρ → ∀ B σ H, EnvB G A B0 B ρ σ H → D.bk σ H
  ct : ∀ ρ, Po.ct ρ → ∀ B σ H, EnvB G A B0 B ρ σ H → D.ct σ H
structure StD (L : LC G) (ρ : Rho G) (sts : List Stmt) (Po : Post G) : Prop where
  mk ::
  go : ∀ (A B0 B : Hp) (σ : L2.St) (H : Hp) (D : Ends), EnvB G A B0 B ρ σ H → Serves A B0 Po D → WSs L.X sts D σ H
structure S1D (L : LC G) (ρ : Rho G) (st : Stmt) (Po : Post G) : Prop where
  mk ::
  go : ∀ (A B0 B : Hp) (σ : L2.St) (H : Hp) (D : Ends), EnvB G A B0 B ρ σ H → Serves A B0 Po D → WSt L.X st D σ H
instance {L : LC G} {ρ : Rho G} {sts : List Stmt} {Po : Post G} : CoeFun (StD L ρ sts Po) fun _ => ∀ (A B0 B : Hp) (σ : L2.St) (H : Hp) (D : Ends), EnvB G A B0 B ρ σ H → Serves A B0 Po D → WSs L.X sts D σ H := ⟨StD.go⟩
instance {L : LC G} {ρ : Rho G} {st : Stmt} {Po : Post G} : CoeFun (S1D L ρ st Po) fun _ => ∀ (A B0 B : Hp) (σ : L2.St) (H : Hp) (D : Ends), EnvB G A B0 B ρ σ H → Serves A B0 Po D → WSt L.X st D σ H := ⟨S1D.go⟩

/-! ### the state's steps -/
variable {A B0 B B' H H' : Hp} {ρ ρ' : Rho G} {σ σ' : L2.St}
theorem EnvB.fresh (E : EnvB G A B0 B ρ σ H) {p : Addr} (h : H p = none) : B p = none := E.bh.back p h
/-- the stay grows, so does the heap -/
theorem EnvB.grow (E : EnvB G A B0 B ρ σ H) (b : Ext B B') (h : Ext H H') (bh : Ext B' H') (av : ∀ a, H a ≠ none → B a = none → B' a = none) (t : LamX.Tabs G.T H') : EnvB G A B0 B' ρ σ H' where
  b0 := E.b0.trans b
  bh := bh
  ah := E.ah.trans h
  av := fun a ha hb => av a (E.ah.some ha) (E.av a ha hb)
  tabs := t
  sl := fun i p e => let ⟨v, h1, h2⟩ := E.sl i p e; ⟨v, h1, p.mono b h2⟩
  ow := fun a c m => by
    obtain ⟨h1, h2, h3⟩ := E.ow a c m
    refine ⟨h1, av a ?_ h2, h3.mono b h⟩
    intro z
    obtain ⟨o, e, _⟩ := h3
    rw [z] at e
    cases e
  nd := E.nd
  ln := E.ln
/-- a new object that stays -/
theorem EnvB.new (E : EnvB G A B0 B ρ σ H) {p : Addr} {o : HO} (h : H p = none) : Ext B (upd B p o) ∧ EnvB G A B0 (upd B p o) ρ σ (upd H p o) := by
  have hb := E.fresh h
  refine ⟨Ext.new hb, E.grow (Ext.new hb) (Ext.new h) (E.bh.news h) (fun a ha hB => ?_) ?_⟩
  · have : a ≠ p := fun e => ha (by rw [e]; exact h)
    rw [upd_ne this]; exact hB
  · exact E.tabs.ext fun b u e => by rw [upd_ne (ne_of_none e h)]; exact e
/-- a name is stored -/
theorem EnvB.set (E : EnvB G A B0 B ρ σ H) {i : Nat} {p : PV G} {v : V} (hi : i < ρ.sl.length) (h : p.p B v) : EnvB G A B0 B ⟨ρ.sl.set i (some p), ρ.ow⟩ (σ.set i (some v)) H where
  b0 := E.b0
  bh := E.bh
  ah := E.ah
  av := E.av
  tabs := E.tabs
  sl := fun j q e => by
    have e : (ρ.sl.set i (some p))[j]? = some (some q) := e
    by_cases hj : j = i
    · subst hj
      by_cases hl : j < ρ.sl.length
      · rw [List.getElem?_set_self hl] at e
        cases e
        exact ⟨v, List.getElem?_set_self (by rw [← E.ln]; exact hi), h⟩
      · rw [List.getElem?_eq_none (by simpa using hl)] at e; cases e
    · rw [List.getElem?_set_ne (Ne.symm hj)] at e
      obtain ⟨w, h1, h2⟩ := E.sl j q e
      exact ⟨w, by rw [List.getElem?_set_ne (Ne.symm hj)]; exact h1, h2⟩
  ow := E.ow
  nd := E.nd
  ln := by simpa using E.ln
/-- forgetting -/
structure Le (ρ ρ' : Rho G) : Prop where
  sl : ∀ (i : Nat) p, ρ'.sl[i]? = some (some p) → ρ.sl[i]? = some (some p)
  ow : ∀ q ∈ ρ'.ow, q ∈ ρ.ow
  nd : (ρ.ow.map (·.1)).Nodup → (ρ'.ow.map (·.1)).Nodup
  ln : ρ'.sl.length = ρ.sl.length
theorem Le.refl (ρ : Rho G) : Le ρ ρ := ⟨fun _ _ h => h, fun _ h => h, fun h => h, rfl⟩
theorem EnvB.le (E : EnvB G A B0 B ρ σ H) (l : Le ρ ρ') : EnvB G A B0 B ρ' σ H :=
  ⟨E.b0, E.bh, E.ah, E.av, E.tabs, fun i p e => E.sl i p (l.sl i p e), fun a c m => E.ow a c (l.ow _ m), l.nd E.nd, l.ln.trans E.ln⟩
end
end MR
/-! L2b: expressions. -/
namespace MR
open PySem PySem.Spec PyProof.Rows L2
section
variable {G : GC} {L : LC G} {ρ ρ1 ρ2 : Rho G} {e a b c : Expr} {es : List Expr} {p q z : PV G} {pos : Pos} {d d1 d2 : PyData}

theorem EvM.mono {Po Po' : PV G → Rho G → Prop} (h : EvM L ρ e Po) (w : ∀ p ρ', Po p ρ' → Po' p ρ') : EvM L ρ e Po' := .mk fun A B0 B σ H Q E k => h A B0 B σ H Q E fun p ρ' x => k p ρ' (w p ρ' x)
theorem EvD.cast (h : EvD L ρ e (dat d)) (w : d = d1) : EvD L ρ e (dat d1) := w ▸ h
theorem EvD.cB {t t2 : Bool} (h : EvD L ρ e (dat (.bool t))) (w : t = t2) : EvD L ρ e (dat (.bool t2)) := w ▸ h
theorem EvD.cI {t t2 : Int} (h : EvD L ρ e (dat (.int t))) (w : t = t2) : EvD L ρ e (dat (.int t2)) := w ▸ h
theorem EvD.m {Po : PV G → Rho G → Prop} (h : EvD L ρ e p) (w : Po p ρ) : EvM L ρ e Po := EvM.mono h fun q ρ' ⟨h1, h2⟩ => by subst h1 h2; exact w
theorem EvD.run (h : EvD L ρ e p) {A B0 B : Hp} {σ : L2.St} {H : Hp} {Q : VK} (E : EnvB G A B0 B ρ σ H) (k : ∀ v B' H', Ext B B' → EnvB G A B0 B' ρ σ H' → p.p B' v → Q v H') : WE L.X e σ H Q :=
  h A B0 B σ H Q E fun q ρ' ⟨h1, h2⟩ v B' H' x E' y => by subst h1 h2; exact k v B' H' x E' y
theorem EvD.of (h : ∀ (A B0 B : Hp) (σ : L2.St) (H : Hp) (Q : VK), EnvB G A B0 B ρ σ H → (∀ v B' H', Ext B B' → EnvB G A B0 B' ρ σ H' → p.p B' v → Q v H') → WE L.X e σ H Q) : EvD L ρ e p :=
  .mk fun A B0 B σ H Q E k => h A B0 B σ H Q E fun v B' H' x E' y => k p ρ ⟨rfl, rfl⟩ v B' H' x E' y
theorem EvT.run {t : Bool} (h : EvT L ρ e t) {A B0 B : Hp} {σ : L2.St} {H : Hp} {Q : Bool → Hp → Prop} (E : EnvB G A B0 B ρ σ H) (k : ∀ B' H', Ext B B' → EnvB G A B0 B' ρ σ H' → Q t H') : WT L.X e σ H Q :=
  h A B0 B σ H Q E fun q ρ' ⟨h1, h2⟩ B' H' x E' => by subst h1 h2; exact k B' H' x E'
theorem EvT.of {t : Bool} (h : ∀ (A B0 B : Hp) (σ : L2.St) (H : Hp) (Q : Bool → Hp → Prop), EnvB G A B0 B ρ σ H → (∀ B' H', Ext B B' → EnvB G A B0 B' ρ σ H' → Q t H') → WT L.X e σ H Q) : EvT L ρ e t :=
  .mk fun A B0 B σ H Q E k => h A B0 B σ H Q E fun B' H' x E' => k t ρ ⟨rfl, rfl⟩ B' H' x E'
theorem EvA.run {ps : List (PV G)} (h : EvA L ρ es ps) {A B0 B : Hp} {σ : L2.St} {H : Hp} {Q : List V → Hp → Prop} (E : EnvB G A B0 B ρ σ H) (k : ∀ vs B' H', Ext B B' → EnvB G A B0 B' ρ σ H' → PVs B' vs ps → Q vs H') : WA L.X es σ H Q :=
  h A B0 B σ H Q E fun q ρ' ⟨h1, h2⟩ v B' H' x E' y => by subst h1 h2; exact k v B' H' x E' y
theorem EvT.m {t : Bool} {Po : Bool → Rho G → Prop} (h : EvT L ρ e t) (w : Po t ρ) : EvTM L ρ e Po := .mk fun A B0 B σ H Q E k => h.run E fun B' H' x E' => k t ρ w B' H' x E'
theorem EvT.cast {t t' : Bool} (h : EvT L ρ e t) (w : t = t') : EvT L ρ e t' := w ▸ h

/-! ### values by values -/
def Val1 (G : GC) (r : V → Hp → VK → Prop) (p z : PV G) : Prop := ∀ (A B0 B : Hp) (ρ : Rho G) (σ : L2.St) (H : Hp) (x : V) (Q : VK), EnvB G A B0 B ρ σ H → p.p B x →
  (∀ v B' H', Ext B B' → EnvB G A B0 B' ρ σ H' → z.p B' v → Q v H') → r x H Q
def Val2 (G : GC) (r : R2) (p q z : PV G) : Prop := ∀ (A B0 B : Hp) (ρ : Rho G) (σ : L2.St) (H : Hp) (x y : V) (Q : VK), EnvB G A B0 B ρ σ H → p.p B x → q.p B y →
  (∀ v B' H', Ext B B' → EnvB G A B0 B' ρ σ H' → z.p B' v → Q v H') → r x y H Q
def ValL (G : GC) (r : List V → Hp → VK → Prop) (ps : List (PV G)) (z : PV G) : Prop := ∀ (A B0 B : Hp) (ρ : Rho G) (σ : L2.St) (H : Hp) (xs : List V) (Q : VK), EnvB G A B0 B ρ σ H → PVs B xs ps →
  (∀ v B' H', Ext B B' → EnvB G A B0 B' ρ σ H' → z.p B' v → Q v H') → r xs H Q
/-- a result that asks no heap -/
theorem here {A B0 B : Hp} {ρ : Rho G} {σ : L2.St} {H : Hp} {v : V} {Q : VK} (E : EnvB G A B0 B ρ σ H) (k : ∀ v B' H', Ext B B' → EnvB G A B0 B' ρ σ H' → z.p B' v → Q v H') (h : z.p B v) : Q v H := k v B H (Ext.refl B) E h
/-- a new tuple -/
theorem newT {A B0 B : Hp} {ρ : Rho G} {σ : L2.St} {H : Hp} {vs : List V} {ds : List PyData} {Q : VK} (E : EnvB G A B0 B ρ σ H) (k : ∀ v B' H', Ext B B' → EnvB G A B0 B' ρ σ H' → (dat (G := G) (.tuple ds)).p B' v → Q v H') (h : DpAll G.K B vs ds) :
    ∀ t, H t = none → Q (.ref t) (upd H t (.tup vs)) := fun t ht => by
  obtain ⟨x, E'⟩ := E.new (o := .tup vs) ht
  exact k _ _ _ x E' (.tup (SqT.of upd_same) (dpa_mono x _ _ h))
theorem newL {A B0 B : Hp} {ρ : Rho G} {σ : L2.St} {H : Hp} {vs : List V} {ds : List PyData} {Q : VK} (E : EnvB G A B0 B ρ σ H) (k : ∀ v B' H', Ext B B' → EnvB G A B0 B' ρ σ H' → (dat (G := G) (.list ds)).p B' v → Q v H') (h : DpAll G.K B vs ds) :
    ∀ t, H t = none → Q (.ref t) (upd H t (.lst vs)) := fun t ht => by
  obtain ⟨x, E'⟩ := E.new (o := .lst vs) ht
  exact k _ _ _ x E' (.lst (SqL.of upd_same) (dpa_mono x _ _ h))

/-! ### operators -/
def BinD (L : LC G) (op : Operator) (p q z : PV G) : Prop := ∃ r, OpR L.X (binaryOp op) r ∧ Val2 G r p q z
def CmpD (L : LC G) (op : CmpOp) (p q : PV G) (t : Bool) : Prop := ∃ r, OpR L.X (compareOp op) r ∧ Val2 G r p q (dat (.bool t))
def IxD (L : LC G) (p q z : PV G) : Prop := ∃ r, IxR L.X r ∧ Val2 G r p q z
def CallD (L : LC G) (f : Value) (ps : List (PV G)) (z : PV G) : Prop := ∃ r, CallR L.X f r ∧ ValL G r ps z

theorem em_two {r : R2} {t : TE} {Pa : PV G → Rho G → Prop} {Pb : PV G → PV G → Rho G → Prop} {Po : PV G → Rho G → Prop} (hpe : PE L.X e (tOp r (WE L.X a) (WE L.X b))) (ha : EvM L ρ a Pa) (hb : ∀ p ρ1, Pa p ρ1 → EvM L ρ1 b (Pb p))
    (hr : ∀ p ρ1 q ρ2, Pa p ρ1 → Pb p q ρ2 → ∃ z, Val2 G r p q z ∧ Po z ρ2) : EvM L ρ e Po := by
  refine .mk ?_
  intro A B0 B σ H Q E k
  refine WE.of hpe ?_
  refine ha A B0 B σ H _ E fun p ρ1 w1 x B1 H1 x1 E1 y1 => ?_
  refine hb p ρ1 w1 A B0 B1 σ H1 _ E1 fun q ρ2 w2 y B2 H2 x2 E2 y2 => ?_
  obtain ⟨z, hz, w⟩ := hr p ρ1 q ρ2 w1 w2
  exact hz A B0 B2 ρ2 σ H2 x y Q E2 (p.mono x2 y1) y2 fun v B' H' x3 E' y' => k z ρ2 w v B' H' ((x1.trans x2).trans x3) E' y'
theorem e_two {r : R2} (hpe : PE L.X e (tOp r (WE L.X a) (WE L.X b))) (ha : EvD L ρ a p) (hb : EvD L ρ b q) (hr : Val2 G r p q z) : EvD L ρ e z := by
  refine EvD.of fun A B0 B σ H Q E k => WE.of hpe ?_
  refine ha.run E fun x B1 H1 x1 E1 y1 => hb.run E1 fun y B2 H2 x2 E2 y2 => ?_
  exact hr A B0 B2 ρ σ H2 x y Q E2 (p.mono x2 y1) y2 fun v B' H' x3 E' y' => k v B' H' ((x1.trans x2).trans x3) E' y'
theorem e_bin {op : Operator} (h : BinD L op p q z) (ha : EvD L ρ a p) (hb : EvD L ρ b q) : EvD L ρ (.BinOp a op b pos) z := let ⟨_, ho, hv⟩ := h; e_two (pe_op ho (WE.pe _ _) (WE.pe _ _)) ha hb hv
theorem e_cmp {op : CmpOp} {t : Bool} (h : CmpD L op p q t) (ha : EvD L ρ a p) (hb : EvD L ρ b q) (hm : behindInMarks op b = false := by first | exact nomark _ | rfl | with_unfolding_all rfl) : EvD L ρ (.Compare a [op] [b] pos) (dat (.bool t)) :=
  let ⟨_, ho, hv⟩ := h; e_two (pe_cmpR ho (WE.pe _ _) (WE.pe _ _) hm) ha hb hv
theorem CmpD.cast {op : CmpOp} {t t2 : Bool} (h : CmpD L op p q t) (w : t = t2) : CmpD L op p q t2 := w ▸ h
theorem e_ix (h : IxD L p q z) (ha : EvD L ρ a p) (hb : EvD L ρ b q) (hs : PlainIx b := by exact fun _ _ => rfl) : EvD L ρ (.Subscript a b pos) z := let ⟨_, ho, hv⟩ := h; e_two (pe_ix ho (WE.pe _ _) (WE.pe _ _) hs) ha hb hv
theorem dp_bool {K : PySem.W.Frag} {H : Hp} {v : V} {t : Bool} (h : Dp K H v (.bool t)) : v = .bl t := by cases h; rfl
theorem dp_int {K : PySem.W.Frag} {H : Hp} {v : V} {i : Int} (h : Dp K H v (.int i)) : v = .int i := by cases h; rfl
theorem dp_str {K : PySem.W.Frag} {H : Hp} {v : V} {i : Str} (h : Dp K H v (.str i)) : v = .str i := by cases h; rfl
theorem dp_non {K : PySem.W.Frag} {H : Hp} {v : V} (h : Dp K H v .none) : v = .non := by cases h; rfl
theorem dp_tup {K : PySem.W.Frag} {H : Hp} {v : V} {ds : List PyData} (h : Dp K H v (.tuple ds)) : ∃ a xs, v = .ref a ∧ SqT K H a xs ∧ DpAll K H xs ds := by cases h with | tup h1 h2 => exact ⟨_, _, rfl, h1, h2⟩
theorem dp_lst {K : PySem.W.Frag} {H : Hp} {v : V} {ds : List PyData} (h : Dp K H v (.list ds)) : ∃ a xs, v = .ref a ∧ SqL K H a xs ∧ DpAll K H xs ds := by cases h with | lst h1 h2 => exact ⟨_, _, rfl, h1, h2⟩
theorem t_cmp {op : CmpOp} {t : Bool} (h : CmpD L op p q t) (ha : EvD L ρ a p) (hb : EvD L ρ b q) (hm : behindInMarks op b = false := by first | exact nomark _ | rfl | with_unfolding_all rfl) : EvT L ρ (.Compare a [op] [b] pos) t := by
  obtain ⟨r, ho, hv⟩ := h
  refine EvT.of fun A B0 B σ H Q E k => WT.of (pt_cmpR ho (WE.pe _ _) (WE.pe _ _) hm) ?_
  refine ha.run E fun x B1 H1 x1 E1 y1 => hb.run E1 fun y B2 H2 x2 E2 y2 => ?_
  exact hv A B0 B2 ρ σ H2 x y _ E2 (p.mono x2 y1) y2 fun v B' H' x3 E' y' => ⟨t, dp_bool y', k B' H' ((x1.trans x2).trans x3) E'⟩
theorem e_chain {op op' : CmpOp} {p3 : PV G} {t t' : Bool} (h : CmpD L op p q t) (h' : CmpD L op' q p3 t') (ha : EvD L ρ a p) (hb : EvD L ρ b q) (hc : t = true → EvD L ρ c p3) (hm : lastMarks [op, op'] [b, c] = false := by with_unfolding_all rfl) : EvD L ρ (.Compare a [op, op'] [b, c] pos) (dat (.bool (t && t'))) := by
  obtain ⟨r, ho, hv⟩ := h
  obtain ⟨r', ho', hv'⟩ := h'
  refine EvD.of fun A B0 B σ H Q E k => WE.of (pe_chain ho ho' (WE.pe _ _) (WE.pe _ _) (WE.pe _ _) hm) ?_
  refine ha.run E fun x B1 H1 x1 E1 y1 => hb.run E1 fun y B2 H2 x2 E2 y2 => ?_
  refine hv A B0 B2 ρ σ H2 x y _ E2 (p.mono x2 y1) y2 fun v B3 H3 x3 E3 y3 => ⟨t, dp_bool y3, ?_⟩
  cases t with
  | true => exact iteT ((hc rfl).run E3 fun w B4 H4 x4 E4 y4 => hv' A B0 B4 ρ σ H4 y w Q E4 (q.mono (x3.trans x4) y2) y4 fun v5 B5 H5 x5 E5 y5 => k v5 B5 H5 ((((x1.trans x2).trans x3).trans x4).trans x5) E5 (by simpa using y5))
  | false => exact iteF (k _ B3 H3 ((x1.trans x2).trans x3) E3 (.bl false))
theorem t_chain {op op' : CmpOp} {p3 : PV G} {t t' : Bool} (h : CmpD L op p q t) (h' : CmpD L op' q p3 t') (ha : EvD L ρ a p) (hb : EvD L ρ b q) (hc : t = true → EvD L ρ c p3) (hm : lastMarks [op, op'] [b, c] = false := by with_unfolding_all rfl) : EvT L ρ (.Compare a [op, op'] [b, c] pos) (t && t') := by
  obtain ⟨r, ho, hv⟩ := h
  obtain ⟨r', ho', hv'⟩ := h'
  refine EvT.of fun A B0 B σ H Q E k => WT.of (pt_chain ho ho' (WE.pe _ _) (WE.pe _ _) (WE.pe _ _) hm) ?_
  refine ha.run E fun x B1 H1 x1 E1 y1 => hb.run E1 fun y B2 H2 x2 E2 y2 => ?_
  refine hv A B0 B2 ρ σ H2 x y _ E2 (p.mono x2 y1) y2 fun v B3 H3 x3 E3 y3 => ⟨t, dp_bool y3, ?_⟩
  cases t with
  | true => exact iteT ((hc rfl).run E3 fun w B4 H4 x4 E4 y4 => hv' A B0 B4 ρ σ H4 y w _ E4 (q.mono (x3.trans x4) y2) y4 fun v5 B5 H5 x5 E5 y5 => ⟨t', dp_bool y5, k B5 H5 ((((x1.trans x2).trans x3).trans x4).trans x5) E5⟩)
  | false => exact iteF ⟨false, rfl, k B3 H3 ((x1.trans x2).trans x3) E3⟩

/-! ### names, constants -/
theorem e_var (i : Nat) {x : Str} (h : ρ.sl[i]? = some (some p) := by rfl) (hN : L.X.N[i]? = some x := by rfl) (hv : Vis L.X.env.scope x := by first | exact Or.inl rfl | exact Or.inr (Or.inl rfl) | exact Or.inr (Or.inr rfl)) (hd : (x == ("__debug__" : Str)) = false := by decide)
    (hcd : (x == ("__classdict__" : Str)) = false := by decide) : EvD L ρ (.Name x pos) p := EvD.of fun A B0 B σ H Q E k => by
  obtain ⟨v, h1, h2⟩ := E.sl i p h
  exact WE.of (pe_var hN hv hd hcd) ⟨v, h1, here E k h2⟩
theorem e_int {i : Int} {j} : EvD L ρ (.Constant (.int i) j pos) (dat (.int i)) := EvD.of fun A B0 B σ H Q E k => WE.of pe_int (here (v := .int i) E k (.int i))
theorem e_bl {i : Bool} {j} : EvD L ρ (.Constant (.bool i) j pos) (dat (.bool i)) := EvD.of fun A B0 B σ H Q E k => WE.of pe_bl (here (v := .bl i) E k (.bl i))
theorem e_non {j} : EvD L ρ (.Constant .none j pos) (dat .none) := EvD.of fun A B0 B σ H Q E k => WE.of pe_non (here (v := .non) E k .non)
theorem e_str {i : Str} {j} : EvD L ρ (.Constant (.str i) j pos) (dat (.str i)) := EvD.of fun A B0 B σ H Q E k => WE.of pe_str (here (v := .str i) E k (.str i))
/-- a module's constant -/
theorem e_glob {x : Str} {v : V} {u : Value} (hm : G.mg x = some u) (r : RelV v u) (h : ∀ B, p.p B v) (hg : Gl L.X x := by rfl) (hd : (x == ("__debug__" : Str)) = false := by decide) : EvD L ρ (.Name x pos) p := EvD.of fun A B0 B σ H Q E k =>
  WE.of (pe_glob hg (by rw [L.hm]; exact hm) r hd) (here (v := v) E k (h B))

/-! ### and, or, not, if -/
theorem e_not {t : Bool} (ha : EvD L ρ a (dat (.bool t))) : EvD L ρ (.UnaryOp .Not a pos) (dat (.bool (!t))) := EvD.of fun A B0 B σ H Q E k => by
  refine WE.of (pe_not (WE.pe _ _)) (ha.run E fun v B' H' x E' y => ⟨t, dp_bool y, ?_⟩)
  exact k _ B' H' x E' (.bl _)
theorem e_if {t : Bool} (hc : EvT L ρ c t) (ha : t = true → EvD L ρ a p) (hb : t = false → EvD L ρ b p) : EvD L ρ (.IfExp c a b pos) p := EvD.of fun A B0 B σ H Q E k => by
  refine WE.of (pe_ifExp (WT.pt _ _) (WE.pe _ _) (WE.pe _ _)) (hc.run E fun B' H' x E' => ?_)
  cases t with
  | true => exact iteT ((ha rfl).run E' fun v B2 H2 x2 E2 y2 => k v B2 H2 (x.trans x2) E2 y2)
  | false => exact iteF ((hb rfl).run E' fun v B2 H2 x2 E2 y2 => k v B2 H2 (x.trans x2) E2 y2)
theorem e_one {op} (ha : EvD L ρ a p) : EvD L ρ (.BoolOp op [a] pos) p := EvD.of fun A B0 B σ H Q E k => WE.of (pe_one (WE.pe _ _)) (ha.run E k)
theorem e_and {rest : List Expr} {t u : Bool} (ha : EvD L ρ a (dat (.bool t))) (hb : t = true → EvD L ρ (.BoolOp .And (b :: rest) pos) (dat (.bool u))) : EvD L ρ (.BoolOp .And (a :: b :: rest) pos) (dat (.bool (t && u))) := EvD.of fun A B0 B σ H Q E k => by
  refine WE.of (pe_and (WE.pe _ _) (WE.pe _ _)) (ha.run E fun v B' H' x E' y => ⟨t, dp_bool y, ?_⟩)
  cases t with
  | true => exact iteT ((hb rfl).run E' fun v B2 H2 x2 E2 y2 => k v B2 H2 (x.trans x2) E2 (by simpa using y2))
  | false => exact iteF (k _ B' H' x E' (.bl false))
theorem e_or {rest : List Expr} {t u : Bool} (ha : EvD L ρ a (dat (.bool t))) (hb : t = false → EvD L ρ (.BoolOp .Or (b :: rest) pos) (dat (.bool u))) : EvD L ρ (.BoolOp .Or (a :: b :: rest) pos) (dat (.bool (t || u))) := EvD.of fun A B0 B σ H Q E k => by
  refine WE.of (pe_or (WE.pe _ _) (WE.pe _ _)) (ha.run E fun v B' H' x E' y => ⟨t, dp_bool y, ?_⟩)
  cases t with
  | true => exact iteT (k _ B' H' x E' (.bl true))
  | false => exact iteF ((hb rfl).run E' fun v B2 H2 x2 E2 y2 => k v B2 H2 (x.trans x2) E2 (by simpa using y2))
/-! tests -/
theorem t_val {t : Bool} (h : EvD L ρ e (dat (.bool t))) (he : ∀ whole, isTrue e L.X.env whole = (do let v ← whole; standAt e.pos; holding [v] (truthy v)) := by intro _; rfl) : EvT L ρ e t := EvT.of fun A B0 B σ H Q E k =>
  WT.of (pt_val (WE.pe _ _) he) (h.run E fun v B' H' x E' y => ⟨t, dp_bool y, k B' H' x E'⟩)
theorem t_not {t : Bool} (h : EvT L ρ a t) : EvT L ρ (.UnaryOp .Not a pos) (!t) := EvT.of fun A B0 B σ H Q E k => WT.of (pt_not (WT.pt _ _)) (h.run E fun B' H' x E' => k B' H' x E')
theorem w_and1 {t : Bool} (h : EvT L ρ a t) : EvW L ρ (.BoolOp .And [a] pos) t := .mk fun A B0 B σ H Q E k => WW.of (pw_and1 (WT.pt _ _)) (h.run E fun B' H' x E' => k B' H' x E')
theorem w_or1 {t : Bool} (h : EvT L ρ a t) : EvW L ρ (.BoolOp .Or [a] pos) t := .mk fun A B0 B σ H Q E k => WW.of (pw_or1 (WT.pt _ _)) (h.run E fun B' H' x E' => k B' H' x E')
theorem w_and {rest : List Expr} {t u : Bool} (ha : EvT L ρ a t) (hb : t = true → EvW L ρ (.BoolOp .And (b :: rest) pos) u) : EvW L ρ (.BoolOp .And (a :: b :: rest) pos) (t && u) := .mk fun A B0 B σ H Q E k => by
  refine WW.of (pw_and (WT.pt _ _) (WW.pw _ _)) (ha.run E fun B' H' x E' => ?_)
  cases t with
  | true => exact iteT (hb rfl A B0 B' σ H' Q E' fun B2 H2 x2 E2 => by simpa using k B2 H2 (x.trans x2) E2)
  | false => exact iteF (k B' H' x E')
theorem w_or {rest : List Expr} {t u : Bool} (ha : EvT L ρ a t) (hb : t = false → EvW L ρ (.BoolOp .Or (b :: rest) pos) u) : EvW L ρ (.BoolOp .Or (a :: b :: rest) pos) (t || u) := .mk fun A B0 B σ H Q E k => by
  refine WW.of (pw_or (WT.pt _ _) (WW.pw _ _)) (ha.run E fun B' H' x E' => ?_)
  cases t with
  | true => exact iteT (k B' H' x E')
  | false => exact iteF (hb rfl A B0 B' σ H' Q E' fun B2 H2 x2 E2 => by simpa using k B2 H2 (x.trans x2) E2)
theorem t_w {t : Bool} (h : EvW L ρ e t) : EvT L ρ e t := EvT.of fun A B0 B σ H Q E k => WT.of (WW.pw _ _).pt (h A B0 B σ H Q E k)

/-! ### argument lists, displays -/
theorem a_nil : EvA L ρ [] [] := .mk fun A B0 B σ H Q E k => WA.of pa_nil (k [] ρ ⟨rfl, rfl⟩ [] B H (Ext.refl B) E .nil)
theorem a_cons {ps : List (PV G)} (ha : EvD L ρ e p) (hr : EvA L ρ es ps) (hs : starEach (e :: es) L.X.env = (false, eval e L.X.env) :: starEach es L.X.env := by rfl) : EvA L ρ (e :: es) (p :: ps) := .mk fun A B0 B σ H Q E k => by
  refine WA.of (pa_cons (WE.pe _ _) (WA.pa _ _) hs) (ha.run E fun v B' H' x E' y => hr.run E' fun vs B2 H2 x2 E2 y2 => ?_)
  exact k (p :: ps) ρ ⟨rfl, rfl⟩ _ B2 H2 (x.trans x2) E2 (.cons (p.mono x2 y) y2)
theorem am_nil {Po : List (PV G) → Rho G → Prop} (w : Po [] ρ) : EvAM L ρ [] Po := .mk fun A B0 B σ H Q E k => WA.of pa_nil (k [] ρ w [] B H (Ext.refl B) E .nil)
theorem am_cons {Pa : PV G → Rho G → Prop} {Pr : PV G → List (PV G) → Rho G → Prop} {Po : List (PV G) → Rho G → Prop} (ha : EvM L ρ e Pa) (hr : ∀ p ρ1, Pa p ρ1 → EvAM L ρ1 es (Pr p)) (w : ∀ p ρ1 ps ρ2, Pa p ρ1 → Pr p ps ρ2 → Po (p :: ps) ρ2)
    (hs : starEach (e :: es) L.X.env = (false, eval e L.X.env) :: starEach es L.X.env := by rfl) : EvAM L ρ (e :: es) Po := .mk fun A B0 B σ H Q E k => by
  refine WA.of (pa_cons (WE.pe _ _) (WA.pa _ _) hs) (ha A B0 B σ H _ E fun p ρ1 w1 v B' H' x E' y => hr p ρ1 w1 A B0 B' σ H' _ E' fun ps ρ2 w2 vs B2 H2 x2 E2 y2 => ?_)
  exact k (p :: ps) ρ2 (w p ρ1 ps ρ2 w1 w2) _ B2 H2 (x.trans x2) E2 (.cons (p.mono x2 y) y2)
theorem pvs_dat {B : Hp} : ∀ {ds : List PyData} {vs : List V}, PVs (G := G) B vs (ds.map dat) → DpAll G.K B vs ds
  | [], _, h => by cases h; exact .nil
  | d :: ds, _, h => by
    cases h with
    | cons h1 h2 => exact .cons h1 (pvs_dat h2)
theorem pvs_len {B : Hp} {ps : List (PV G)} {vs : List V} (h : PVs B vs ps) : vs.length = ps.length := Paired.length h
theorem em_tup {x1} {Pa : List (PV G) → Rho G → Prop} {Po : PV G → Rho G → Prop} (h : EvAM L ρ es Pa) (hl : es.length ≤ 1000) (w : ∀ ps ρ', Pa ps ρ' → ∃ ds : List PyData, ps = ds.map dat ∧ ds.length ≤ 1000 ∧ Po (dat (.tuple ds)) ρ') : EvM L ρ (.Tuple es x1 pos) Po := .mk fun A B0 B σ H Q E k => by
  refine WE.of (pe_tup (WA.pa _ _)) (h A B0 B σ H _ E fun ps ρ' w1 vs B' H' x E' y => ?_)
  obtain ⟨ds, e, hl2, w2⟩ := w ps ρ' w1
  subst e
  have hl3 := pvs_len y
  rw [List.length_map] at hl3
  refine ⟨by rw [sizeLine_eq]; omega, ?_⟩
  exact newT E' (fun v B2 H2 x2 E2 y2 => k _ ρ' w2 v B2 H2 (x.trans x2) E2 y2) (pvs_dat y)
theorem e_tup {x1} {ds : List PyData} (h : EvA L ρ es (ds.map dat)) (hl : ds.length ≤ 1000 := by first | decide | simp) : EvD L ρ (.Tuple es x1 pos) (dat (.tuple ds)) := EvD.of fun A B0 B σ H Q E k => by
  refine WE.of (pe_tup (WA.pa _ _)) (h.run E fun vs B' H' x E' y => ?_)
  have hl3 := pvs_len y
  rw [List.length_map] at hl3
  refine ⟨by rw [sizeLine_eq]; omega, ?_⟩
  exact newT E' (fun v B2 H2 x2 E2 y2 => k v B2 H2 (x.trans x2) E2 y2) (pvs_dat y)
theorem e_lst {ds : List PyData} (h : EvA L ρ es (ds.map dat)) (hl : ds.length ≤ 1000 := by first | decide | simp) : EvD L ρ (.List es pos) (dat (.list ds)) := EvD.of fun A B0 B σ H Q E k => by
  refine WE.of (pe_lst (WA.pa _ _)) (h.run E fun vs B' H' x E' y => ?_)
  have hl3 := pvs_len y
  rw [List.length_map] at hl3
  refine ⟨by rw [sizeLine_eq]; omega, ?_⟩
  exact newL E' (fun v B2 H2 x2 E2 y2 => k v B2 H2 (x.trans x2) E2 y2) (pvs_dat y)
/-- f(e, ..), f a built-in -/
theorem e_callB {x : Str} {pf : Pos} {id : String} {ps : List (PV G)} (h : CallD L (.builtin id) ps z) (hm : G.mg x = none) (hv : bootBuiltins x = some (.builtin id)) (ha : EvA L ρ (e :: es) ps) (hg : Gl L.X x := by rfl) (hn : x ≠ "__name__" := by decide) (hdb : (x == ("__debug__" : Str)) = false := by decide)
    (he : starEach (e :: es) L.X.env = (false, eval e L.X.env) :: starEach es L.X.env := by rfl) (hpl : (backTo pos (starEach es L.X.env)).any (·.1) = false := by rfl) : EvD L ρ (.Call (.Name x pf) (e :: es) [] pos) z := by
  obtain ⟨r, hc, hr⟩ := h
  refine EvD.of fun A B0 B σ H Q E k => WE.of (pe_callB hc hg (by rw [L.hm]; exact hm) hv (WA.pa _ _) hn hdb he hpl) (ha.run E fun vs B' H' x E' y => ?_)
  exact hr A B0 B' ρ σ H' vs Q E' y fun v B2 H2 x2 E2 y2 => k v B2 H2 (x.trans x2) E2 y2
theorem e_callTy {x : Str} {pf : Pos} {id : String} {ps : List (PV G)} (h : CallD L (.type id) ps z) (hm : G.mg x = none) (hv : bootBuiltins x = some (.type id)) (ha : EvA L ρ (e :: es) ps) (hg : Gl L.X x := by rfl) (hn : x ≠ "__name__" := by decide) (hdb : (x == ("__debug__" : Str)) = false := by decide)
    (he : starEach (e :: es) L.X.env = (false, eval e L.X.env) :: starEach es L.X.env := by rfl) (hpl : (backTo pos (starEach es L.X.env)).any (·.1) = false := by rfl) : EvD L ρ (.Call (.Name x pf) (e :: es) [] pos) z := by
  obtain ⟨r, hc, hr⟩ := h
  refine EvD.of fun A B0 B σ H Q E k => WE.of (pe_callTy hc hg (by rw [L.hm]; exact hm) hv (WA.pa _ _) hn hdb he hpl) (ha.run E fun vs B' H' x E' y => ?_)
  exact hr A B0 B' ρ σ H' vs Q E' y fun v B2 H2 x2 E2 y2 => k v B2 H2 (x.trans x2) E2 y2
end
end MR
/-! L2c: operators, comparisons, subscripts, slices, calls of built-ins. -/
namespace MR
open PySem PySem.Spec PyProof.Rows L2
section
variable {G : GC} {L : LC G} {ρ ρ1 ρ2 : Rho G} {e a b c : Expr} {es : List Expr} {p q z : PV G} {pos : Pos} {d d1 d2 : PyData}

/-! ### ints -/
theorem v_I {C : Int → Int → Prop} {g : Int → Int → V} {i j : Int} {dd : PyData} (hc : C i j) (h : ∀ B, Dp G.K B (g i j) dd) : Val2 G (rI C g) (dat (.int i)) (dat (.int j)) (dat dd) := fun A B0 B ρ σ H x y Q E hx hy k => by
  have e1 := dp_int hx
  have e2 := dp_int hy
  subst e1 e2
  exact ⟨i, j, rfl, rfl, hc, here E k (h B)⟩
theorem v_I0 {g : Int → Int → V} {i j : Int} {dd : PyData} (h : ∀ B, Dp G.K B (g i j) dd) : Val2 G (rI0 g) (dat (.int i)) (dat (.int j)) (dat dd) := fun A B0 B ρ σ H x y Q E hx hy k => by
  have e1 := dp_int hx
  have e2 := dp_int hy
  subst e1 e2
  exact ⟨i, j, rfl, rfl, here E k (h B)⟩
theorem b_add {i j : Int} : BinD L .Add (dat (.int i)) (dat (.int j)) (dat (.int (i + j))) := ⟨_, op_add, v_I0 fun _ => .int _⟩
theorem b_sub {i j : Int} : BinD L .Sub (dat (.int i)) (dat (.int j)) (dat (.int (i - j))) := ⟨_, op_sub, v_I0 fun _ => .int _⟩
theorem b_mul {i j : Int} (h : CMul i j) : BinD L .Mult (dat (.int i)) (dat (.int j)) (dat (.int (i * j))) := ⟨_, op_mul, v_I h fun _ => .int _⟩
theorem b_mod {i j : Int} (h : 0 < j) : BinD L .Mod (dat (.int i)) (dat (.int j)) (dat (.int (i % j))) := ⟨_, op_mod, v_I h fun _ => .int _⟩
theorem b_fdiv {i j : Int} (h : 0 < j ∧ j < 1073741824) : BinD L .FloorDiv (dat (.int i)) (dat (.int j)) (dat (.int (i / j))) := ⟨_, op_fdiv, v_I h fun _ => .int _⟩
theorem b_pow {i j : Int} (h : 0 ≤ j ∧ j ≤ 1000000 ∧ i.natAbs < 2 ^ 64) : BinD L .Pow (dat (.int i)) (dat (.int j)) (dat (.int (i ^ j.toNat))) := ⟨_, op_pow, v_I h fun _ => .int _⟩
theorem c_lt {i j : Int} : CmpD L .Lt (dat (.int i)) (dat (.int j)) (decide (i < j)) := ⟨_, op_lt, v_I0 fun _ => .bl _⟩
theorem c_le {i j : Int} : CmpD L .LtE (dat (.int i)) (dat (.int j)) (decide (i ≤ j)) := ⟨_, op_le, v_I0 fun _ => .bl _⟩
theorem c_gt {i j : Int} : CmpD L .Gt (dat (.int i)) (dat (.int j)) (decide (j < i)) := ⟨_, op_gt, v_I0 fun _ => .bl _⟩
theorem c_ge {i j : Int} : CmpD L .GtE (dat (.int i)) (dat (.int j)) (decide (j ≤ i)) := ⟨_, op_ge, v_I0 fun _ => .bl _⟩
theorem c_ltS {x y : Str} : CmpD L .Lt (dat (.str x)) (dat (.str y)) (decide (x.cps.toList < y.cps.toList)) := ⟨_, op_lt_str, fun A B0 B ρ σ H x y Q E hx hy k => by
  have e1 := dp_str hx
  have e2 := dp_str hy
  subst e1 e2
  exact ⟨_, _, rfl, rfl, here E k (.bl _)⟩⟩
/-! ### == of data -/
theorem c_eq {t : Bool} (h1 : SeqAt.shaped d = true) (h2 : SeqAt.shaped d1 = true) (h : PyData.eqv d d1 = t) : CmpD L .Eq (dat d) (dat d1) t := ⟨_, op_eqD L.room.units, fun A B0 B ρ σ H x y Q E hx hy k => by
  rw [L.hK]
  exact ⟨d, d1, dp_mono E.bh _ _ hx, dp_mono E.bh _ _ hy, h1, h2, here E k (by rw [h]; exact .bl _)⟩⟩
theorem c_ne {t : Bool} (h1 : SeqAt.shaped d = true) (h2 : SeqAt.shaped d1 = true) (h : PyData.eqv d d1 = !t) : CmpD L .NotEq (dat d) (dat d1) t := ⟨_, op_neD L.room.units, fun A B0 B ρ σ H x y Q E hx hy k => by
  rw [L.hK]
  exact ⟨d, d1, dp_mono E.bh _ _ hx, dp_mono E.bh _ _ hy, h1, h2, here E k (by rw [h, Bool.not_not]; exact .bl _)⟩⟩
theorem eqv_int (i j : Int) : PyData.eqv (.int i) (.int j) = decide (i = j) := by
  unfold PyData.eqv
  first | rfl | (rw [Bool.eq_iff_iff]; simp)
theorem eqv_str (i j : Str) : PyData.eqv (.str i) (.str j) = decide (i = j) := by
  unfold PyData.eqv
  first | rfl | (rw [Bool.eq_iff_iff]; simp)
theorem c_eqI {i j : Int} : CmpD L .Eq (dat (.int i)) (dat (.int j)) (decide (i = j)) := c_eq rfl rfl (eqv_int i j)
theorem c_neI {i j : Int} : CmpD L .NotEq (dat (.int i)) (dat (.int j)) (!decide (i = j)) := c_ne rfl rfl (by rw [eqv_int, Bool.not_not])
theorem c_eqS {i j : Str} : CmpD L .Eq (dat (.str i)) (dat (.str j)) (decide (i = j)) := ⟨_, op_eq, fun A B0 B ρ σ H x y Q E hx hy k => by
  have e1 := dp_str hx
  have e2 := dp_str hy
  subst e1 e2
  refine ⟨rfl, here E k ?_⟩
  have e : decide (V.str i = V.str j) = decide (i = j) := decide_eq_decide.mpr ⟨fun h => V.str.inj h, fun h => by rw [h]⟩
  rw [e]
  exact .bl _⟩
theorem c_neS {i j : Str} : CmpD L .NotEq (dat (.str i)) (dat (.str j)) (!decide (i = j)) := ⟨_, op_ne, fun A B0 B ρ σ H x y Q E hx hy k => by
  have e1 := dp_str hx
  have e2 := dp_str hy
  subst e1 e2
  refine ⟨rfl, here E k ?_⟩
  have e : decide (V.str i = V.str j) = decide (i = j) := decide_eq_decide.mpr ⟨fun h => V.str.inj h, fun h => by rw [h]⟩
  rw [e]
  exact .bl _⟩
def isN : PyData → Bool
  | .none => true
  | _ => false
theorem dp_isN {K : PySem.W.Frag} {H : Hp} {v : V} (h : Dp K H v d) : decide (v = .non) = isN d := by
  cases h <;> first | rfl | exact decide_eq_false (fun e => nomatch e) | exact decide_eq_true rfl
theorem c_isN : CmpD L .Is (dat d) (dat .none) (isN d) := ⟨_, op_isN, fun A B0 B ρ σ H x y Q E hx hy k => ⟨dp_non hy, here E k (by rw [dp_isN hx]; exact .bl _)⟩⟩
theorem c_notN : CmpD L .IsNot (dat d) (dat .none) (!isN d) := ⟨_, op_notN, fun A B0 B ρ σ H x y Q E hx hy k => ⟨dp_non hy, here E k (by rw [dp_isN hx]; exact .bl _)⟩⟩
/-! ### in -/
def flatD : PyData → Bool
  | .none => true
  | .bool _ => true
  | .int _ => true
  | .str _ => true
  | _ => false
def vOf : PyData → V
  | .bool b => .bl b
  | .int i => .int i
  | .str x => .str x
  | _ => .non
theorem dp_flat {K : PySem.W.Frag} {H : Hp} {v : V} (f : flatD d = true) (h : Dp K H v d) : v = vOf d ∧ flatV v = true := by
  cases h <;> first | exact ⟨rfl, rfl⟩ | cases f
theorem dpa_flat {K : PySem.W.Frag} {H : Hp} : ∀ {ds : List PyData} {vs : List V}, ds.all flatD = true → DpAll K H vs ds → vs = ds.map vOf ∧ vs.all flatV = true
  | [], _, _, h => by cases h; exact ⟨rfl, rfl⟩
  | d :: ds, _, f, h => by
    rw [List.all_cons, Bool.and_eq_true] at f
    cases h with
    | cons h1 h2 =>
      obtain ⟨e1, f1⟩ := dp_flat f.1 h1
      obtain ⟨e2, f2⟩ := dpa_flat f.2 h2
      subst e1 e2
      exact ⟨rfl, by rw [List.all_cons, f1, f2]; rfl⟩
def inD (d : PyData) (ds : List PyData) : Bool := inV (vOf d) (ds.map vOf)
theorem c_inT {ds : List PyData} (f : flatD d = true) (fs : ds.all flatD = true) : CmpD L .In (dat d) (dat (.tuple ds)) (inD d ds) := ⟨_, op_in_seq, fun A B0 B ρ σ H x y Q E hx hy k => by
  obtain ⟨p, xs, rfl, hs, ha⟩ := dp_tup hy
  obtain ⟨e1, f1⟩ := dp_flat f hx
  obtain ⟨e2, f2⟩ := dpa_flat fs ha
  rw [L.hK]
  refine ⟨p, xs, rfl, .inr (E.bh.sqT hs), f1, f2, here E k ?_⟩
  rw [e1, e2]
  exact .bl _⟩
theorem c_ninT {ds : List PyData} (f : flatD d = true) (fs : ds.all flatD = true) : CmpD L .NotIn (dat d) (dat (.tuple ds)) (!inD d ds) := ⟨_, op_notIn_seq, fun A B0 B ρ σ H x y Q E hx hy k => by
  obtain ⟨p, xs, rfl, hs, ha⟩ := dp_tup hy
  obtain ⟨e1, f1⟩ := dp_flat f hx
  obtain ⟨e2, f2⟩ := dpa_flat fs ha
  rw [L.hK]
  refine ⟨p, xs, rfl, .inr (E.bh.sqT hs), f1, f2, here E k ?_⟩
  rw [e1, e2]
  exact .bl _⟩
theorem c_inL {ds : List PyData} (f : flatD d = true) (fs : ds.all flatD = true) : CmpD L .In (dat d) (dat (.list ds)) (inD d ds) := ⟨_, op_in_seq, fun A B0 B ρ σ H x y Q E hx hy k => by
  obtain ⟨p, xs, rfl, hs, ha⟩ := dp_lst hy
  obtain ⟨e1, f1⟩ := dp_flat f hx
  obtain ⟨e2, f2⟩ := dpa_flat fs ha
  rw [L.hK]
  refine ⟨p, xs, rfl, .inl (E.bh.sqL hs), f1, f2, here E k ?_⟩
  rw [e1, e2]
  exact .bl _⟩
/-- one text in another -/
theorem c_inS {x y : Str} : CmpD L .In (dat (.str x)) (dat (.str y)) (!(Builtin.Str.occurrences y x 0 y.length 1).isEmpty) := ⟨_, op_in_str, fun A B0 B ρ σ H x y Q E hx hy k => by
  have e1 := dp_str hx
  have e2 := dp_str hy
  subst e1 e2
  exact ⟨_, _, rfl, rfl, here E k (.bl _)⟩⟩
/-! ### tuples together -/
theorem b_cat {ds es : List PyData} (hl : ds.length + es.length ≤ 100000) : BinD L .Add (dat (.tuple ds)) (dat (.tuple es)) (dat (.tuple (ds ++ es))) := ⟨_, op_catA, fun A B0 B ρ σ H x y Q E hx hy k => by
  obtain ⟨p1, xs, rfl, hs, ha⟩ := dp_tup hx
  obtain ⟨p2, ys, rfl, ht, hb⟩ := dp_tup hy
  have l1 := dpa_len ha
  have l2 := dpa_len hb
  rw [L.hK]
  refine ⟨p1, p2, xs, ys, rfl, rfl, E.bh.sqT hs, E.bh.sqT ht, by rw [sizeLine_eq]; omega, fun e0 => ?_, fun _ e0 => ?_, fun _ _ => newT E k (dpa_app ha hb)⟩
  · subst e0
    cases ha
    exact here (v := .ref p2) E k hy
  · subst e0
    cases hb
    rw [List.append_nil] at k
    exact here (v := .ref p1) E k hx⟩

/-! ### subscripts -/
theorem x_tup {ds : List PyData} {i : Int} (h : atI ds i = some d) : IxD L (dat (.tuple ds)) (dat (.int i)) (dat d) := ⟨_, ix_tup, fun A B0 B ρ σ H x y Q E hx hy k => by
  obtain ⟨p1, xs, rfl, hs, ha⟩ := dp_tup hx
  have e2 := dp_int hy
  subst e2
  obtain ⟨j, h1, h2, h3, h4, h5⟩ := atI_get h
  obtain ⟨v, e1, e2⟩ := dpa_get ha h2
  have l1 := dpa_len ha
  rw [L.hK]
  refine ⟨p1, xs, i, v, rfl, rfl, E.bh.sqT hs, ?_, here E k e2⟩
  unfold atI at h ⊢
  rw [l1]
  cases q : ixN ds.length i with
  | none => rw [q] at h; cases h
  | some m =>
    obtain ⟨z1, _⟩ := ixN_seq q
    rw [h1] at z1
    cases z1
    exact e1⟩
theorem x_lst {ds : List PyData} {i : Int} (h : atI ds i = some d) : IxD L (dat (.list ds)) (dat (.int i)) (dat d) := ⟨_, ix_list, fun A B0 B ρ σ H x y Q E hx hy k => by
  obtain ⟨p1, xs, rfl, hs, ha⟩ := dp_lst hx
  have e2 := dp_int hy
  subst e2
  obtain ⟨j, h1, h2, h3, h4, h5⟩ := atI_get h
  obtain ⟨v, e1, e2⟩ := dpa_get ha h2
  have l1 := dpa_len ha
  rw [L.hK]
  refine ⟨p1, xs, i, v, rfl, rfl, E.bh.sqL hs, ?_, here E k e2⟩
  unfold atI at h ⊢
  rw [l1]
  cases q : ixN ds.length i with
  | none => rw [q] at h; cases h
  | some m =>
    obtain ⟨z1, _⟩ := ixN_seq q
    rw [h1] at z1
    cases z1
    exact e1⟩
/-! ### slices -/
def EvO (L : LC G) (ρ : Rho G) (e : Option Expr) (o : Option Int) : Prop := (e = none ∧ o = none) ∨ ∃ e' i, e = some e' ∧ o = some i ∧ EvD L ρ e' (dat (.int i))
theorem o_none : EvO L ρ none none := .inl ⟨rfl, rfl⟩
theorem o_some {i : Int} (h : EvD L ρ e (dat (.int i))) : EvO L ρ (some e) (some i) := .inr ⟨e, i, rfl, rfl, h⟩
def cutD (ds : List PyData) (lo hi : Option Int) : List PyData := (ds.drop (HT.sIx ds.length 0 lo)).take (HT.sIx ds.length ds.length hi - HT.sIx ds.length 0 lo)
theorem dpa_cut {K : PySem.W.Frag} {H : Hp} {ds : List PyData} {vs : List V} (h : DpAll K H vs ds) (lo hi : Option Int) : DpAll K H (cutV vs lo hi) (cutD ds lo hi) := by
  unfold cutV cutD
  rw [dpa_len h]
  exact dpa_take _ (dpa_drop _ h)
theorem po_of {o : Option Expr} {m : Option Int} (h : EvO L ρ o m) : ∃ t : TO, PO L.X o t ∧ ∀ {A B0 B : Hp} {σ : L2.St} {H : Hp} {Q : Option Int → Hp → Prop}, EnvB G A B0 B ρ σ H → (∀ B' H', Ext B B' → EnvB G A B0 B' ρ σ H' → Q m H') → t σ H Q := by
  rcases h with ⟨rfl, rfl⟩ | ⟨e', i, rfl, rfl, h⟩
  · exact ⟨_, po_none, fun E k => k _ _ (Ext.refl _) E⟩
  · exact ⟨_, po_some (WE.pe _ _), fun E k => h.run E fun v B' H' x E' y => ⟨i, dp_int y, k B' H' x E'⟩⟩
theorem e_slT {lo hi : Option Expr} {l h : Option Int} {p2 : Pos} {ds : List PyData} (ha : EvD L ρ a (dat (.tuple ds))) (hl : EvO L ρ lo l) (hh : EvO L ρ hi h) : EvD L ρ (.Subscript a (.Slice lo hi none p2) pos) (dat (.tuple (cutD ds l h))) := EvD.of fun A B0 B σ H Q E k => by
  obtain ⟨t1, q1, r1⟩ := po_of hl
  obtain ⟨t2, q2, r2⟩ := po_of hh
  refine WE.of (pe_slice sl_tupA (WE.pe _ _) q1 q2) (ha.run E fun v B1 H1 x1 E1 y1 => r1 E1 fun B2 H2 x2 E2 => r2 E2 fun B3 H3 x3 E3 => ?_)
  obtain ⟨p1, xs, rfl, hs, hd⟩ := dp_tup (dp_mono (x2.trans x3) _ _ y1)
  have l1 := dpa_len hd
  rw [L.hK]
  refine ⟨p1, xs, rfl, E3.bh.sqT hs, fun hw => ?_, fun _ => newT E3 (fun v B' H' x' E' y' => k v B' H' (((x1.trans x2).trans x3).trans x') E' y') (dpa_cut hd l h)⟩
  have e : cutD ds l h = ds := by
    unfold cutD
    rw [← l1, hw.1, hw.2, List.drop_zero, Nat.sub_zero, l1, List.take_length]
  rw [e] at k
  exact k _ B3 H3 ((x1.trans x2).trans x3) E3 (.tup hs hd)
theorem e_slL {lo hi : Option Expr} {l h : Option Int} {p2 : Pos} {ds : List PyData} (ha : EvD L ρ a (dat (.list ds))) (hl : EvO L ρ lo l) (hh : EvO L ρ hi h) : EvD L ρ (.Subscript a (.Slice lo hi none p2) pos) (dat (.list (cutD ds l h))) := EvD.of fun A B0 B σ H Q E k => by
  obtain ⟨t1, q1, r1⟩ := po_of hl
  obtain ⟨t2, q2, r2⟩ := po_of hh
  refine WE.of (pe_slice sl_list (WE.pe _ _) q1 q2) (ha.run E fun v B1 H1 x1 E1 y1 => r1 E1 fun B2 H2 x2 E2 => r2 E2 fun B3 H3 x3 E3 => ?_)
  obtain ⟨p1, xs, rfl, hs, hd⟩ := dp_lst (dp_mono (x2.trans x3) _ _ y1)
  rw [L.hK]
  exact ⟨p1, xs, rfl, E3.bh.sqL hs, newL E3 (fun v B' H' x' E' y' => k v B' H' (((x1.trans x2).trans x3).trans x') E' y') (dpa_cut hd l h)⟩

/-! ### calls of built-ins -/
theorem pvs1 {B : Hp} {vs : List V} (h : PVs B vs [p]) : ∃ v, vs = [v] ∧ p.p B v := by
  cases h with
  | cons h1 h2 => cases h2; exact ⟨_, rfl, h1⟩
theorem pvs2 {B : Hp} {vs : List V} (h : PVs B vs [p, q]) : ∃ v w, vs = [v, w] ∧ p.p B v ∧ q.p B w := by
  cases h with
  | cons h1 h2 =>
    cases h2 with
    | cons h3 h4 => cases h4; exact ⟨_, _, rfl, h1, h3⟩
theorem k_lenT {ds : List PyData} : CallD L (.builtin "len") [dat (.tuple ds)] (dat (.int ds.length)) := ⟨_, call_len, fun A B0 B ρ σ H xs Q E hx k => by
  obtain ⟨v, rfl, h⟩ := pvs1 hx
  obtain ⟨p1, ys, rfl, hs, hd⟩ := dp_tup h
  rw [L.hK]
  exact ⟨_, ys.length, rfl, .inr ⟨ys, E.bh.sqT hs, rfl⟩, here E k (by rw [dpa_len hd]; exact .int _)⟩⟩
theorem k_lenL {ds : List PyData} : CallD L (.builtin "len") [dat (.list ds)] (dat (.int ds.length)) := ⟨_, call_len, fun A B0 B ρ σ H xs Q E hx k => by
  obtain ⟨v, rfl, h⟩ := pvs1 hx
  obtain ⟨p1, ys, rfl, hs, hd⟩ := dp_lst h
  rw [L.hK]
  exact ⟨_, ys.length, rfl, .inl ⟨ys, E.bh.sqL hs, rfl⟩, here E k (by rw [dpa_len hd]; exact .int _)⟩⟩
theorem k_lenS {x : Str} (hl : x.length ≤ 100000) : CallD L (.builtin "len") [dat (.str x)] (dat (.int x.length)) := ⟨_, call_len, fun A B0 B ρ σ H xs Q E hx k => by
  obtain ⟨v, rfl, h⟩ := pvs1 hx
  have e1 := dp_str h
  subst e1
  exact ⟨_, x.length, rfl, ⟨by rw [sizeLine_eq]; omega, rfl⟩, here E k (.int _)⟩⟩
/-- a class's name as a value -/
def tyP {G : GC} (n : String) : PV G := ⟨fun _ v => v = .ty n, fun _ h => h⟩
theorem e_ty {x : Str} {n : String} (hm : G.mg x = none) (hv : bootBuiltins x = some (.type n)) (hg : Gl L.X x := by rfl) (hn : x ≠ "__name__" := by decide) (hd : (x == ("__debug__" : Str)) = false := by decide) : EvD L ρ (.Name x pos) (tyP n) := EvD.of fun A B0 B σ H Q E k =>
  WE.of (pe_bltn (v := .ty n) hg (by rw [L.hm]; exact hm) hv rfl hn hd) (here (v := .ty n) E k rfl)
def tyD : PyData → String
  | .none => "NoneType"
  | .bool _ => "bool"
  | .int _ => "int"
  | .str _ => "str"
  | .list _ => "list"
  | .tuple _ => "tuple"
  | .dict _ => "dict"
theorem dp_ty {K : PySem.W.Frag} {H : Hp} {v : V} (h : Dp K H v d) : TyX K H v (.type (tyD d)) := by
  cases h with
  | non => exact .base .non
  | bl b => exact .base (.bl b)
  | int i => exact .base (.int i)
  | str x => exact .base (.str x)
  | lst hs _ =>
    rcases hs with (h | ⟨o, h⟩) | ⟨o, its, n, h1, h2, _⟩
    · exact .base (.lst h)
    · exact .base (.frz h)
    · exact .kList h1 h2
  | tup hs _ =>
    rcases hs with (h | ⟨o, h⟩) | ⟨o, its, n, h1, h2, _⟩
    · exact .base (.tup h)
    · exact .fTuple h
    · exact .kTuple h1 h2
theorem k_isi {n : String} {t : Bool} (h : kitB (tyD d) n = some t) : CallD L (.builtin "isinstance") [dat d, tyP n] (dat (.bool t)) := ⟨_, call_isi, fun A B0 B ρ σ H xs Q E hx k => by
  obtain ⟨v, w, rfl, h1, h2⟩ := pvs2 hx
  cases h2
  exact ⟨v, .ty n, .type (tyD d), .type n, t, rfl, .ty n, dp_ty (dp_mono (by exact E.bh) _ _ (by rw [L.hK]; exact h1)), kit_ty h, here E k (.bl _)⟩⟩
theorem dpa_bools {K : PySem.W.Frag} {H : Hp} : ∀ {bs : List Bool} {vs : List V}, DpAll K H vs (bs.map PyData.bool) → vs = bs.map V.bl
  | [], _, h => by cases h; rfl
  | b :: bs, _, h => by
    cases h with
    | cons h1 h2 => rw [dpa_bools h2]; cases h1; rfl
theorem k_all {bs : List Bool} : CallD L (.builtin "all") [dat (.list (bs.map PyData.bool))] (dat (.bool (bs.all id))) := ⟨_, cr_all L.calm, fun A B0 B ρ σ H xs Q E hx k => by
  obtain ⟨v, rfl, h⟩ := pvs1 hx
  obtain ⟨p1, ys, rfl, hs, hd⟩ := dp_lst h
  rw [L.hK]
  rw [dpa_bools hd] at hs
  exact ⟨p1, bs, rfl, E.bh.sqL hs, here E k (.bl _)⟩⟩
theorem k_any {bs : List Bool} : CallD L (.builtin "any") [dat (.list (bs.map PyData.bool))] (dat (.bool (bs.any id))) := ⟨_, cr_any L.calm, fun A B0 B ρ σ H xs Q E hx k => by
  obtain ⟨v, rfl, h⟩ := pvs1 hx
  obtain ⟨p1, ys, rfl, hs, hd⟩ := dp_lst h
  rw [L.hK]
  rw [dpa_bools hd] at hs
  exact ⟨p1, bs, rfl, E.bh.sqL hs, here E k (.bl _)⟩⟩
theorem k_tupL {ds : List PyData} : CallD L (.type "tuple") [dat (.list ds)] (dat (.tuple ds)) := ⟨_, call_tuple_of, fun A B0 B ρ σ H xs Q E hx k => by
  obtain ⟨v, rfl, h⟩ := pvs1 hx
  obtain ⟨p1, ys, rfl, hs, hd⟩ := dp_lst h
  rw [L.hK]
  exact ⟨p1, ys, rfl, .inl ⟨E.bh.sqL hs, newT E k hd⟩⟩⟩
theorem k_intB {t : Bool} : CallD L (.type "int") [dat (.bool t)] (dat (.int (if t then 1 else 0))) := ⟨_, call_int1, fun A B0 B ρ σ H xs Q E hx k => by
  obtain ⟨v, rfl, h⟩ := pvs1 hx
  have e1 := dp_bool h
  subst e1
  exact .inr ⟨t, rfl, here E k (.int _)⟩⟩
theorem k_max {i j : Int} : CallD L (.builtin "max") [dat (.int i), dat (.int j)] (dat (.int (if j > i then j else i))) := ⟨_, call_max2 L.calm, fun A B0 B ρ σ H xs Q E hx k => by
  obtain ⟨v, w, rfl, h1, h2⟩ := pvs2 hx
  have e1 := dp_int h1
  have e2 := dp_int h2
  subst e1 e2
  exact ⟨i, j, rfl, here E k (.int _)⟩⟩
theorem k_min {i j : Int} : CallD L (.builtin "min") [dat (.int i), dat (.int j)] (dat (.int (if j < i then j else i))) := ⟨_, call_min2 L.calm, fun A B0 B ρ σ H xs Q E hx k => by
  obtain ⟨v, w, rfl, h1, h2⟩ := pvs2 hx
  have e1 := dp_int h1
  have e2 := dp_int h2
  subst e1 e2
  exact ⟨i, j, rfl, here E k (.int _)⟩⟩
end
end MR
/-! L3: statements, targets. -/
namespace MR
open PySem PySem.Spec PyProof.Rows L2
section
variable {G : GC} {L : LC G} {ρ ρ1 ρ2 : Rho G} {e a b c : Expr} {es : List Expr} {p q z : PV G} {pos : Pos} {d d1 d2 : PyData} {st : Stmt} {rest : List Stmt} {Po : Post G}

/-! ### anchors -/
def restH (ow : List (Addr × Cont G)) (H : Hp) : Hp := fun a => if a ∈ ow.map (·.1) then none else H a
theorem restH_in {ow : List (Addr × Cont G)} {H : Hp} {a : Addr} (h : a ∈ ow.map (·.1)) : restH ow H a = none := if_pos h
theorem restH_out {ow : List (Addr × Cont G)} {H : Hp} {a : Addr} (h : a ∉ ow.map (·.1)) : restH ow H a = H a := if_neg h
theorem EnvB.re {A B0 B : Hp} {σ : L2.St} {H : Hp} (E : EnvB G A B0 B ρ σ H) : EnvB G (restH ρ.ow H) B B ρ σ H where
  b0 := Ext.refl B
  bh := E.bh
  ah := ⟨fun b o e _ => by
    unfold restH at e
    split at e
    · cases e
    · exact e, fun b e => by
    unfold restH
    split
    · rfl
    · exact e⟩
  av := fun a _ h => h
  tabs := E.tabs
  sl := E.sl
  ow := fun a c m => ⟨restH_in (List.mem_map.mpr ⟨(a, c), m, rfl⟩), (E.ow a c m).2⟩
  nd := E.nd
  ln := E.ln
theorem EnvB.un {A B0 B B' : Hp} {σ σ' : L2.St} {H H' : Hp} (E : EnvB G A B0 B ρ σ H) (E2 : EnvB G (restH ρ.ow H) B B' ρ1 σ' H') : EnvB G A B0 B' ρ1 σ' H' := by
  have hA : Ext A (restH ρ.ow H) := by
    constructor
    · intro b o e n
      rw [restH_out]
      · exact E.ah.keep b o e n
      · intro hb
        obtain ⟨⟨a', c'⟩, hq, e'⟩ := List.mem_map.mp hb
        have e' : a' = b := e'
        subst e'
        rw [(E.ow a' c' hq).1] at e
        cases e
    · intro b e
      by_cases hb : b ∈ ρ.ow.map (·.1)
      · obtain ⟨⟨a', c'⟩, hq, e'⟩ := List.mem_map.mp hb
        have e' : a' = b := e'
        subst e'
        exact (E.ow a' c' hq).1
      · rw [restH_out hb] at e
        exact E.ah.back b e
  refine ⟨E.b0.trans E2.b0, E2.bh, hA.trans E2.ah, fun a ha hb => ?_, E2.tabs, E2.sl, fun a c m => ⟨hA.back a (E2.ow a c m).1, (E2.ow a c m).2⟩, E2.nd, E2.ln⟩
  exact E2.av a (hA.some ha) (E.av a ha hb)

/-! ### blocks -/
theorem s_nil (h : Po.nx ρ) : StD L ρ [] Po := .mk fun A B0 B σ H D E S => WSs.of pss_nil (S.nx ρ h B σ H E)
theorem s_cons (h : S1D L ρ st { Po with nx := fun ρ' => StD L ρ' rest Po }) : StD L ρ (st :: rest) Po := .mk fun A B0 B σ H D E S =>
  WSs.of (pss_cons (WSt.ps _ _) (WSs.pss _ _)) (h A B0 B σ H { D with nx := fun σ' H' => WSs L.X rest D σ' H' } E
    ⟨fun ρ' h' B' σ' H' E' => h' A B0 B' σ' H' D E' S, S.rt, S.bk, S.ct⟩)
theorem s_weak (l : Le ρ ρ1) (h : StD L ρ1 rest Po) : StD L ρ rest Po := .mk fun A B0 B σ H D E S => h A B0 B σ H D (E.le l) S
theorem StD.post {Po' : Post G} (h : StD L ρ rest Po) (n : ∀ ρ, Po.nx ρ → Po'.nx ρ) (r : ∀ p ρ, Po.rt p ρ → Po'.rt p ρ) (bk : ∀ ρ, Po.bk ρ → Po'.bk ρ) (ct : ∀ ρ, Po.ct ρ → Po'.ct ρ) : StD L ρ rest Po' := .mk fun A B0 B σ H D E S =>
  h A B0 B σ H D E ⟨fun ρ h => S.nx ρ (n ρ h), fun p ρ h => S.rt p ρ (r p ρ h), fun ρ h => S.bk ρ (bk ρ h), fun ρ h => S.ct ρ (ct ρ h)⟩

/-! ### targets -/
def WG (X : Cx) (tg : Expr) (v : V) (σ : L2.St) (H : Hp) (Q : L2.St → Hp → Prop) : Prop := ∀ (pins : List (Addr × Obj)) (s : Shared) (u : Value), Inv X pins σ H s → RelV v u →
  wpAny (model X.prog X.w) X.A (assign tg X.env u) (fun _ s' => ∃ σ' H', Inv X pins σ' H' s' ∧ Q σ' H') X.xe s
theorem WG.pg (X : Cx) (tg : Expr) : PG X tg (WG X tg) := ⟨fun pins s σ H v u Q I r h => h pins s u I r⟩
def WGs (X : Cx) (tgs : List Expr) (vs : List V) (σ : L2.St) (H : Hp) (Q : L2.St → Hp → Prop) : Prop := ∀ (pins : List (Addr × Obj)) (s : Shared) (us : List Value), Inv X pins σ H s → Vals vs us →
  wpAny (model X.prog X.w) X.A (assignInOrder ((assignEach tgs X.env).map (·.2)) us) (fun _ s' => ∃ σ' H', Inv X pins σ' H' s' ∧ Q σ' H') X.xe s
theorem WGs.pgs (X : Cx) (tgs : List Expr) : PGs X tgs (WGs X tgs) := ⟨fun pins s σ H vs us Q I r h => h pins s us I r⟩
/-- no slot but those of is has changed -/
structure OutS (is : List Nat) (σ σ' : L2.St) : Prop where
  ln : σ'.length = σ.length
  at_ : ∀ j, j ∉ is → σ'[j]? = σ[j]?
theorem OutS.trans {is js : List Nat} {σ σ1 σ2 : L2.St} (a : OutS is σ σ1) (b : OutS js σ1 σ2) : OutS (is ++ js) σ σ2 :=
  ⟨b.ln.trans a.ln, fun j h => by rw [b.at_ j (fun z => h (List.mem_append_right _ z)), a.at_ j (fun z => h (List.mem_append_left _ z))]⟩
/-- p goes to the target: the slots is change by f -/
structure TgD (L : LC G) (tg : Expr) (p : PV G) (is : List Nat) (f : List (Option (PV G)) → List (Option (PV G))) : Prop where
  mk ::
  go : ∀ (A B0 B : Hp) (ρ : Rho G) (σ : L2.St) (H : Hp) (v : V) (Q : L2.St → Hp → Prop), EnvB G A B0 B ρ σ H → p.p B v →
  (∀ σ', OutS is σ σ' → EnvB G A B0 B ⟨f ρ.sl, ρ.ow⟩ σ' H → Q σ' H) → WG L.X tg v σ H Q
structure TgsD (L : LC G) (tgs : List Expr) (ps : List (PV G)) (is : List Nat) (f : List (Option (PV G)) → List (Option (PV G))) : Prop where
  mk ::
  go : ∀ (A B0 B : Hp) (ρ : Rho G) (σ : L2.St) (H : Hp) (vs : List V) (Q : L2.St → Hp → Prop), EnvB G A B0 B ρ σ H → PVs B vs ps →
  (∀ σ', OutS is σ σ' → EnvB G A B0 B ⟨f ρ.sl, ρ.ow⟩ σ' H → Q σ' H) → WGs L.X tgs vs σ H Q
instance {L : LC G} {tg : Expr} {p : PV G} {is : List Nat} {f : List (Option (PV G)) → List (Option (PV G))} : CoeFun (TgD L tg p is f) fun _ => ∀ (A B0 B : Hp) (ρ : Rho G) (σ : L2.St) (H : Hp) (v : V) (Q : L2.St → Hp → Prop), EnvB G A B0 B ρ σ H → p.p B v → (∀ σ', OutS is σ σ' → EnvB G A B0 B ⟨f ρ.sl, ρ.ow⟩ σ' H → Q σ' H) → WG L.X tg v σ H Q := ⟨TgD.go⟩
instance {L : LC G} {tgs : List Expr} {ps : List (PV G)} {is : List Nat} {f : List (Option (PV G)) → List (Option (PV G))} : CoeFun (TgsD L tgs ps is f) fun _ => ∀ (A B0 B : Hp) (ρ : Rho G) (σ : L2.St) (H : Hp) (vs : List V) (Q : L2.St → Hp → Prop), EnvB G A B0 B ρ σ H → PVs B vs ps → (∀ σ', OutS is σ σ' → EnvB G A B0 B ⟨f ρ.sl, ρ.ow⟩ σ' H → Q σ' H) → WGs L.X tgs vs σ H Q := ⟨TgsD.go⟩
abbrev setS (i : Nat) (p : PV G) (l : List (Option (PV G))) : List (Option (PV G)) := l.set i (some p)
theorem slot_lt {X : Cx} {pins : List (Addr × Obj)} {σ : L2.St} {H : Hp} {s : Shared} {i : Nat} {x : Str} (I : Inv X pins σ H s) (hN : X.N[i]? = some x) : i < σ.length := by
  rw [I.len]
  exact (List.getElem?_eq_some_iff.mp hN).1
theorem g_name (i : Nat) {x : Str} (hN : L.X.N[i]? = some x := by rfl) (hx : Loc L.X.env.scope x := by first | exact Or.inl rfl | exact Or.inr rfl) (hf : L.X.fn x = true ∨ L.X.env.scope.names.lookup x = some .local := by first | exact .inl rfl | exact .inr rfl) : TgD L (.Name x pos) p [i] (setS i p) := .mk fun A B0 B ρ σ H v Q E hp k pins s u I r =>
  (pg_name L.nd hN hx hf).run pins s σ H v u Q I r (k _ ⟨by simp, fun j hj => by rw [List.getElem?_set_ne (fun e => hj (by simp [e]))]⟩ (E.set (by rw [E.ln]; exact slot_lt I hN) hp))
theorem gs_nil : TgsD L [] [] [] (fun l => l) := .mk fun A B0 B ρ σ H vs Q E hp k pins s us I r => by
  cases hp
  exact pgs_nil.run pins s σ H [] us Q I r ⟨rfl, k σ ⟨rfl, fun _ _ => rfl⟩ E⟩
theorem gs_cons {tg : Expr} {tgs : List Expr} {ps : List (PV G)} {is js : List Nat} {f g : List (Option (PV G)) → List (Option (PV G))} (h1 : TgD L tg p is f) (h2 : TgsD L tgs ps js g) (hs : (assignEach (tg :: tgs) L.X.env).map (·.2) = assign tg L.X.env :: (assignEach tgs L.X.env).map (·.2) := by rfl) :
    TgsD L (tg :: tgs) (p :: ps) (is ++ js) (fun l => g (f l)) := .mk fun A B0 B ρ σ H vs Q E hp k pins s us I r => by
  cases hp with
  | cons hp1 hp2 =>
    refine (pgs_cons (WG.pg _ _) (WGs.pgs _ _) hs).run pins s σ H _ us Q I r ⟨_, _, rfl, ?_⟩
    exact h1 A B0 B ρ σ H _ _ E hp1 fun σ' o1 E' => h2 A B0 B _ σ' H _ _ E' hp2 fun σ2 o2 => k σ2 (o1.trans o2)
/-- a tuple of things -/
def tupP (ps : List (PV G)) : PV G := ⟨fun H v => ∃ a xs, v = .ref a ∧ SqT G.K H a xs ∧ PVs H xs ps, fun x ⟨a, xs, e, h1, h2⟩ => ⟨a, xs, e, x.sqT h1, PVs.mono x h2⟩⟩
theorem pvs_of {B : Hp} : ∀ {ds : List PyData} {vs : List V}, DpAll G.K B vs ds → PVs (G := G) B vs (ds.map dat)
  | [], _, h => by cases h; exact .nil
  | d :: ds, _, h => by
    cases h with
    | cons h1 h2 => exact .cons h1 (pvs_of h2)
theorem g_tup {tgs : List Expr} {k : Nat} {ps : List (PV G)} {is : List Nat} {f : List (Option (PV G)) → List (Option (PV G))} (h : TgsD L tgs ps is f) (hn : (assignEach tgs L.X.env).length = ps.length := by rfl) (hst : (assignEach tgs L.X.env).findIdx? (·.1) = none := by rfl) :
    TgD L (.Tuple tgs k pos) (tupP ps) is f := .mk fun A B0 B ρ σ H v Q E hp kk pins s u I r => by
  obtain ⟨a, xs, rfl, h1, h2⟩ := hp
  refine (pg_tup L.calm (WGs.pgs _ _) hn hst).run pins s σ H _ u Q I r ⟨a, xs, rfl, by rw [L.hK]; exact E.bh.sqT h1, pvs_len h2, ?_⟩
  exact h A B0 B ρ σ H xs Q E h2 kk
theorem g_tupD {tgs : List Expr} {k : Nat} {ds : List PyData} {is : List Nat} {f : List (Option (PV G)) → List (Option (PV G))} (h : TgsD L tgs (ds.map dat) is f) (hn : (assignEach tgs L.X.env).length = ds.length := by rfl) (hst : (assignEach tgs L.X.env).findIdx? (·.1) = none := by rfl) :
    TgD L (.Tuple tgs k pos) (dat (.tuple ds)) is f := .mk fun A B0 B ρ σ H v Q E hp kk pins s u I r => by
  obtain ⟨a, xs, rfl, h1, h2⟩ := dp_tup hp
  refine (pg_tup L.calm (WGs.pgs _ _) hn hst).run pins s σ H _ u Q I r ⟨a, xs, rfl, by rw [L.hK]; exact E.bh.sqT h1, dpa_len h2, ?_⟩
  exact h A B0 B ρ σ H xs Q E (pvs_of h2) kk

/-! ### small statements -/
theorem s1_asgM {tg : Expr} {Pa : PV G → Rho G → Prop} {is : List Nat} {f : PV G → List (Option (PV G)) → List (Option (PV G))} (he : EvM L ρ e Pa) (hg : ∀ p ρ1, Pa p ρ1 → TgD L tg p is (f p)) (k : ∀ p ρ1, Pa p ρ1 → Po.nx ⟨f p ρ1.sl, ρ1.ow⟩) (hs : swapsWithSole [tg] e pos.line L.X.env = pure false := by rfl)
    (hw : swappedStores [tg] e L.X.env = pure none := by rfl) (h1 : (assignEach [tg] L.X.env).map (·.2) = [assign tg L.X.env] := by rfl) : S1D L ρ (.Assign [tg] e pos) Po := .mk fun A B0 B σ H D E S => by
  refine WSt.of (ps_asg (WE.pe _ _) (WG.pg _ _) hs hw h1) (he A B0 B σ H _ E fun p ρ1 w v B' H' x E' y => ?_)
  exact hg p ρ1 w A B0 B' ρ1 σ H' v _ E' y fun σ' _ E2 => S.nx _ (k p ρ1 w) B' σ' H' E2
theorem s1_asg {tg : Expr} {is : List Nat} {f : List (Option (PV G)) → List (Option (PV G))} (he : EvD L ρ e p) (hg : TgD L tg p is f) (k : Po.nx ⟨f ρ.sl, ρ.ow⟩) (hs : swapsWithSole [tg] e pos.line L.X.env = pure false := by rfl)
    (hw : swappedStores [tg] e L.X.env = pure none := by rfl) (h1 : (assignEach [tg] L.X.env).map (·.2) = [assign tg L.X.env] := by rfl) : S1D L ρ (.Assign [tg] e pos) Po := by
  refine s1_asgM (is := is) (f := fun _ => f) he (fun p' ρ1 w => ?_) (fun p' ρ1 w => ?_) hs hw h1
  · rw [w.1]; exact hg
  · rw [w.2]; exact k
theorem s1_setM (i : Nat) {x : Str} {px : Pos} {Pa : PV G → Rho G → Prop} (he : EvM L ρ e Pa) (k : ∀ p ρ1, Pa p ρ1 → Po.nx ⟨ρ1.sl.set i (some p), ρ1.ow⟩) (hN : L.X.N[i]? = some x := by rfl) (hx : Loc L.X.env.scope x := by first | exact Or.inl rfl | exact Or.inr rfl)
    (hs : swapsWith e (some (.Name x px)) pos.line L.X.env = pure false := by rfl) (hf : L.X.fn x = true ∨ L.X.env.scope.names.lookup x = some .local := by first | exact .inl rfl | exact .inr rfl) : S1D L ρ (.Assign [.Name x px] e pos) Po := .mk fun A B0 B σ H D E S pins s I => by
  refine (ps_set L.nd hN hx (WE.pe _ _) hs hf).run pins s σ H D I (he A B0 B σ H _ E fun p ρ1 w v B' H' x' E' y => ?_)
  exact S.nx _ (k p ρ1 w) B' _ H' (E'.set (by rw [E'.ln]; exact slot_lt I hN) y)
theorem s1_set (i : Nat) {x : Str} {px : Pos} (he : EvD L ρ e p) (k : Po.nx ⟨ρ.sl.set i (some p), ρ.ow⟩) (hN : L.X.N[i]? = some x := by rfl) (hx : Loc L.X.env.scope x := by first | exact Or.inl rfl | exact Or.inr rfl)
    (hs : swapsWith e (some (.Name x px)) pos.line L.X.env = pure false := by rfl) (hf : L.X.fn x = true ∨ L.X.env.scope.names.lookup x = some .local := by first | exact .inl rfl | exact .inr rfl) : S1D L ρ (.Assign [.Name x px] e pos) Po :=
  s1_setM i he (fun p' ρ1 w => by rw [w.1, w.2]; exact k) hN hx hs hf
theorem s1_retM {Pa : PV G → Rho G → Prop} (he : EvM L ρ e Pa) (k : ∀ p ρ1, Pa p ρ1 → Po.rt p ρ1) : S1D L ρ (.Return (some e) pos) Po := .mk fun A B0 B σ H D E S =>
  WSt.of (ps_ret (WE.pe _ _)) (he A B0 B σ H _ E fun p ρ1 w v B' H' x' E' y => S.rt p ρ1 (k p ρ1 w) v B' σ H' E' y)
theorem s1_ret (he : EvD L ρ e p) (k : Po.rt p ρ) : S1D L ρ (.Return (some e) pos) Po := s1_retM he fun p' ρ1 w => by rw [w.1, w.2]; exact k
theorem s1_exprM {Pa : PV G → Rho G → Prop} (he : EvM L ρ e Pa) (k : ∀ p ρ1, Pa p ρ1 → Po.nx ρ1) (hs : swapsWith e none pos.line L.X.env = pure false := by rfl) : S1D L ρ (.Expr e pos) Po := .mk fun A B0 B σ H D E S =>
  WSt.of (ps_expr (WE.pe _ _) hs) (he A B0 B σ H _ E fun p ρ1 w v B' H' x' E' y => S.nx ρ1 (k p ρ1 w) B' σ H' E')
theorem s1_ifM {Pc : Bool → Rho G → Prop} {body orelse : List Stmt} (hc : EvTM L ρ c Pc) (ht : ∀ ρ1, Pc true ρ1 → StD L ρ1 body Po) (hf : ∀ ρ1, Pc false ρ1 → StD L ρ1 orelse Po) : S1D L ρ (.If c body orelse pos) Po := .mk fun A B0 B σ H D E S => by
  refine WSt.of (ps_if (WT.pt _ _) (WSs.pss _ _) (WSs.pss _ _)) (hc A B0 B σ H _ E fun t ρ1 w B' H' x' E' => ?_)
  cases t with
  | true => exact iteT (ht ρ1 w A B0 B' σ H' D E' S)
  | false => exact iteF (hf ρ1 w A B0 B' σ H' D E' S)
theorem s1_if {t : Bool} {body orelse : List Stmt} (hc : EvT L ρ c t) (ht : t = true → StD L ρ body Po) (hf : t = false → StD L ρ orelse Po) : S1D L ρ (.If c body orelse pos) Po :=
  s1_ifM hc (fun ρ1 w => by rw [w.2]; exact ht w.1.symm) (fun ρ1 w => by rw [w.2]; exact hf w.1.symm)
theorem s1_never (h : False) : S1D L ρ st Po := h.elim

/-! ### while -/
theorem s1_while {body : List Stmt} (J : Nat → Rho G → Prop) (h0 : ∃ m, J m ρ) (hs : ∀ m ρ1, J m ρ1 → ∃ t, EvT L ρ1 c t ∧ (t = true → StD L ρ1 body { nx := fun ρ2 => ∃ m', m' < m ∧ J m' ρ2, ct := fun ρ2 => ∃ m', m' < m ∧ J m' ρ2, bk := Po.nx, rt := Po.rt }) ∧ (t = false → Po.nx ρ1))
    (hp : PassesOwn (model L.X.prog L.X.w) L.X.A L.X.env L.X.xe := by exact PassesOwn.never) : S1D L ρ (.While c body [] pos) Po := .mk fun A B0 B σ H D E S => by
  refine WSt.of (ps_while hp (WT.pt _ _) (WSs.pss _ _)) ?_
  obtain ⟨m0, h0⟩ := h0
  refine ⟨fun m σ' H' => ∃ ρ1 B1, J m ρ1 ∧ EnvB G A B0 B1 ρ1 σ' H', ⟨m0, ρ, B, h0, E⟩, ?_⟩
  rintro m σ1 H1 ⟨ρ1, B1, j1, E1⟩
  obtain ⟨t, ht, h1, h2⟩ := hs m ρ1 j1
  refine ht.run E1 fun B2 H2 x2 E2 => ?_
  cases t with
  | true =>
    refine iteT ⟨fun σ' H' => ∃ ρ2 B3, (∃ m', m' < m ∧ J m' ρ2) ∧ EnvB G A B0 B3 ρ2 σ' H', fun σ' H' ⟨ρ2, B3, ⟨m', hm, j2⟩, E3⟩ => ⟨m', hm, ρ2, B3, j2, E3⟩, ?_⟩
    exact h1 rfl A B0 B2 σ1 H2 _ E2 ⟨fun ρ3 w B3 σ3 H3 E3 => ⟨ρ3, B3, w, E3⟩, S.rt, fun ρ3 w B3 σ3 H3 E3 => S.nx ρ3 w B3 σ3 H3 E3, fun ρ3 w B3 σ3 H3 E3 => ⟨ρ3, B3, w, E3⟩⟩
  | false => exact iteF (S.nx ρ1 (h2 rfl) B2 σ1 H2 E2)
end
end MR
/-! L4: what is walked; for; list comprehensions. -/
namespace MR
open PySem PySem.Spec PyProof.Rows L2
section
variable {G : GC} {L : LC G} {ρ ρ1 ρ2 : Rho G} {e a b c : Expr} {es : List Expr} {p q z : PV G} {pos : Pos} {d d1 d2 : PyData} {st : Stmt} {rest : List Stmt} {Po : Post G} {tg iter : Expr}

def WI (X : Cx) (tg iter : Expr) (σ : L2.St) (H : Hp) (R : It → Hp → Prop) : Prop := ∀ (pins : List (Addr × Obj)) (s : Shared), Inv X pins σ H s →
  wpAny (model X.prog X.w) X.A (eval iter X.env) (fun v s1 => wpAny (model X.prog X.w) X.A (pyIter v) (PIE X pins σ tg R) X.xe s1) X.xe s
theorem WI.pi (X : Cx) (tg iter : Expr) : PI X tg iter (WI X tg iter) := ⟨fun pins s σ H R I h => h pins s I⟩
theorem WI.of {X : Cx} {wi : TI} {σ : L2.St} {H : Hp} {R : It → Hp → Prop} (h : PI X tg iter wi) (q : wi σ H R) : WI X tg iter σ H R := fun pins s I => h.run pins s σ H R I q
/-- the things ps are walked, while the heap holds what B holds -/
structure WalkD (G : GC) (B : Hp) (J : It) (ps : List (PV G)) : Prop where
  goes : ∀ i H, i < ps.length → Ext B H → J.go i H
  stops : ∀ H, Ext B H → J.stop ps.length H
  yields : ∀ (i : Nat) p A B0 B' ρ σ H x H', ps[i]? = some p → Ext B B' → EnvB G A B0 B' ρ σ H → J.yld i H x H' → ∃ B2, Ext B' B2 ∧ EnvB G A B0 B2 ρ σ H' ∧ p.p B2 x
structure ItD (L : LC G) (ρ : Rho G) (tg iter : Expr) (ps : List (PV G)) : Prop where
  mk ::
  go : ∀ (A B0 B : Hp) (σ : L2.St) (H : Hp) (R : It → Hp → Prop), EnvB G A B0 B ρ σ H →
  (∀ J B' H', WalkD G B' J ps → Ext B B' → EnvB G A B0 B' ρ σ H' → R J H') → WI L.X tg iter σ H R
instance {L : LC G} {ρ : Rho G} {tg iter : Expr} {ps : List (PV G)} : CoeFun (ItD L ρ tg iter ps) fun _ => ∀ (A B0 B : Hp) (σ : L2.St) (H : Hp) (R : It → Hp → Prop), EnvB G A B0 B ρ σ H → (∀ J B' H', WalkD G B' J ps → Ext B B' → EnvB G A B0 B' ρ σ H' → R J H') → WI L.X tg iter σ H R := ⟨ItD.go⟩
theorem dats_get {ds : List PyData} {i : Nat} (h : (ds.map (dat (G := G)))[i]? = some p) : ∃ d, ds[i]? = some d ∧ p = dat d := by
  rw [List.getElem?_map] at h
  cases e : ds[i]? with
  | none => rw [e] at h; cases h
  | some d => rw [e] at h; exact ⟨d, rfl, (Option.some.inj h).symm⟩
theorem wd_list {B : Hp} {a : Addr} {xs : List V} {ds : List PyData} (h1 : SqL G.K B a xs) (h2 : DpAll G.K B xs ds) : WalkD G B (Itl G.K a) (ds.map dat) := by
  have l := dpa_len h2
  refine ⟨fun i H hi x => ?_, fun H x => ⟨xs, x.sqL h1, by simp [l]⟩, fun i p A B0 B' ρ σ H x H' e w E y => ?_⟩
  · exact (walk_list (K := G.K) (a := a) (xs := xs)).goes i H (by simpa [l] using hi) (x.sqL h1)
  · obtain ⟨d, e1, rfl⟩ := dats_get e
    obtain ⟨e2, y2⟩ := y
    subst e2
    obtain ⟨v, e3, e4⟩ := dpa_get h2 e1
    have := y2 xs (E.bh.sqL (w.sqL h1))
    rw [e3] at this
    cases this
    exact ⟨B', Ext.refl _, E, dp_mono w _ _ e4⟩
theorem wd_tup {B : Hp} {a : Addr} {xs : List V} {ds : List PyData} (h1 : SqT G.K B a xs) (h2 : DpAll G.K B xs ds) : WalkD G B (Itt G.K a) (ds.map dat) := by
  have l := dpa_len h2
  refine ⟨fun i H hi x => ?_, fun H x => ⟨xs, x.sqT h1, by simp [l]⟩, fun i p A B0 B' ρ σ H x H' e w E y => ?_⟩
  · exact (walk_tup (K := G.K) (a := a) (xs := xs)).goes i H (by simpa [l] using hi) (x.sqT h1)
  · obtain ⟨d, e1, rfl⟩ := dats_get e
    obtain ⟨e2, y2⟩ := y
    subst e2
    obtain ⟨v, e3, e4⟩ := dpa_get h2 e1
    have := y2 xs (E.bh.sqT (w.sqT h1))
    rw [e3] at this
    cases this
    exact ⟨B', Ext.refl _, E, dp_mono w _ _ e4⟩
theorem i_lst {ds : List PyData} (h : EvD L ρ iter (dat (.list ds))) : ItD L ρ tg iter (ds.map dat) := .mk fun A B0 B σ H R E k => by
  refine WI.of (pi_list (WE.pe _ _)) (h.run E fun v B' H' x E' y => ?_)
  obtain ⟨a, xs, rfl, h1, h2⟩ := dp_lst y
  rw [L.hK]
  exact ⟨a, rfl, ⟨xs, E'.bh.sqL h1⟩, k _ B' H' (wd_list h1 h2) x E'⟩
theorem i_tup {ds : List PyData} (h : EvD L ρ iter (dat (.tuple ds))) : ItD L ρ tg iter (ds.map dat) := .mk fun A B0 B σ H R E k => by
  refine WI.of (pi_tup (WE.pe _ _)) (h.run E fun v B' H' x E' y => ?_)
  obtain ⟨a, xs, rfl, h1, h2⟩ := dp_tup y
  rw [L.hK]
  exact ⟨a, rfl, ⟨xs, E'.bh.sqT h1⟩, k _ B' H' (wd_tup h1 h2) x E'⟩
/-- range(n) -/
def rngD (n : Nat) : List PyData := (List.range n).map fun i => PyData.int (i : Nat)
theorem rngD_get {n i : Nat} {d : PyData} (h : (rngD n)[i]? = some d) : i < n ∧ d = .int (i : Nat) := by
  unfold rngD at h
  rw [List.getElem?_map] at h
  by_cases hi : i < n
  · rw [List.getElem?_range hi] at h
    exact ⟨hi, (Option.some.inj h).symm⟩
  · rw [List.getElem?_eq_none (by simpa using hi)] at h; cases h
theorem rngD_len (n : Nat) : (rngD n).length = n := by simp [rngD]
theorem i_rngM {pf : Pos} {n : Nat} (hm : G.mg "range" = none) (hn : n ≤ 100000) (h : EvD L ρ a (dat (.int (n : Nat)))) (hg : Gl L.X "range" := by rfl) (hs : starEach [a] L.X.env = [(false, eval a L.X.env)] := by rfl) (hs2 : starEach [a] L.X.env = (false, eval a L.X.env) :: starEach [] L.X.env := by rfl) :
    ItD L ρ tg (.Call (.Name "range" pf) [a] [] pos) ((rngD n).map dat) := .mk fun A B0 B σ H R E k => by
  refine WI.of (pi_range1 hg (by rw [L.hm]; exact hm) (WA.pa _ _) hs) ((a_cons h a_nil hs2).run E fun vs B' H' x E' y => ?_)
  obtain ⟨v, rfl, hv⟩ := pvs1 y
  have e1 := dp_int hv
  subst e1
  refine ⟨_, rfl, by omega, by omega, k _ B' H' ⟨fun i H hi _ => ?_, fun H _ => ?_, fun i p A B0 B2 ρ σ H x H' e w E y => ?_⟩ x E'⟩
  · have : i < n := by simpa [rngD_len] using hi
    show i < ((n : Nat) : Int).toNat
    simpa using this
  · show ((n : Nat) : Int).toNat ≤ _
    simp [rngD_len]
  · obtain ⟨d, e1, rfl⟩ := dats_get e
    obtain ⟨h1, rfl⟩ := rngD_get e1
    obtain ⟨e2, y2⟩ := y
    subst e2 y2
    exact ⟨B2, Ext.refl _, E, by rw [Int.zero_add]; exact .int _⟩
theorem newPair {A B0 B : Hp} {σ : L2.St} {H : Hp} {T : Addr} {x y : V} (E : EnvB G A B0 B ρ σ H) (hT : H T = none) (h1 : p.p B x) (h2 : q.p B y) : ∃ B2, Ext B B2 ∧ EnvB G A B0 B2 ρ σ (upd H T (.tup [x, y])) ∧ (tupP [p, q]).p B2 (.ref T) := by
  obtain ⟨w, E'⟩ := E.new (o := .tup [x, y]) hT
  exact ⟨_, w, E', T, [x, y], rfl, SqT.of upd_same, .cons (p.mono w h1) (.cons (q.mono w h2) .nil)⟩
/-- enumerate(list) -/
def enumP (ds : List PyData) : List (PV G) := ds.mapIdx fun i d => tupP [dat (.int (i : Nat)), dat d]
theorem enumP_get {ds : List PyData} {i : Nat} (h : (enumP (G := G) ds)[i]? = some p) : ∃ d, ds[i]? = some d ∧ p = tupP [dat (.int (i : Nat)), dat d] := by
  unfold enumP at h
  rw [List.getElem?_mapIdx] at h
  cases e : ds[i]? with
  | none => rw [e] at h; cases h
  | some d => rw [e] at h; exact ⟨d, rfl, (Option.some.inj h).symm⟩
theorem enumP_len (ds : List PyData) : (enumP (G := G) ds).length = ds.length := by simp [enumP]
theorem i_enum {pf tpos : Pos} {elts : List Expr} {kk : Nat} {ds : List PyData} (hm : G.mg "enumerate" = none) (h : EvD L ρ a (dat (.list ds))) (hg : Gl L.X "enumerate" := by rfl) (hs : starEach [a] L.X.env = [(false, eval a L.X.env)] := by rfl) (hs2 : starEach [a] L.X.env = (false, eval a L.X.env) :: starEach [] L.X.env := by rfl) :
    ItD L ρ (.Tuple elts kk tpos) (.Call (.Name "enumerate" pf) [a] [] pos) (enumP ds) := .mk fun A B0 B σ H R E k => by
  refine WI.of (pi_enum hg (by rw [L.hm]; exact hm) (WA.pa _ _) hs) ((a_cons h a_nil hs2).run E fun vs B' H' x E' y => ?_)
  obtain ⟨v, rfl, hv⟩ := pvs1 y
  obtain ⟨a, xs, rfl, h1, h2⟩ := dp_lst hv
  have l := dpa_len h2
  rw [L.hK]
  refine ⟨a, xs, rfl, E'.bh.sqL h1, k _ B' H' ⟨fun i H hi x => ?_, fun H x => ⟨xs, x.sqL h1, by simp [enumP_len, l]⟩, fun i p A B0 B2 ρ σ H x H' e w E y => ?_⟩ x E'⟩
  · exact (walk_enum (K := G.K) (a := a) (xs := xs)).goes i H (by simpa [enumP_len, l] using hi) (x.sqL h1)
  · obtain ⟨d, e1, rfl⟩ := enumP_get e
    obtain ⟨T, z, rfl, hT, rfl, y2⟩ := y
    obtain ⟨v, e3, e4⟩ := dpa_get h2 e1
    have := y2 xs (E.bh.sqL (w.sqL h1))
    rw [e3] at this
    cases this
    exact newPair E hT (.int _) (dp_mono w _ _ e4)
/-- zip of two lists, of two tuples -/
def zipP (ds es : List PyData) : List (PV G) := (ds.zip es).map fun q => tupP [dat q.1, dat q.2]
theorem zipP_get {ds es : List PyData} {i : Nat} (h : (zipP (G := G) ds es)[i]? = some p) : ∃ d e, ds[i]? = some d ∧ es[i]? = some e ∧ p = tupP [dat d, dat e] := by
  unfold zipP at h
  rw [List.getElem?_map] at h
  cases e : (ds.zip es)[i]? with
  | none => rw [e] at h; cases h
  | some q =>
    rw [e] at h
    have hz := List.getElem?_zip_eq_some.mp e
    exact ⟨q.1, q.2, hz.1, hz.2, (Option.some.inj h).symm⟩
theorem zipP_len (ds es : List PyData) : (zipP (G := G) ds es).length = min ds.length es.length := by simp [zipP]
theorem i_zipL {pf tpos : Pos} {elts : List Expr} {kk : Nat} {ds es : List PyData} (hm : G.mg "zip" = none) (h : EvD L ρ a (dat (.list ds))) (h' : EvD L ρ b (dat (.list es))) (hg : Gl L.X "zip" := by rfl) (hs : starEach [a, b] L.X.env = (false, eval a L.X.env) :: starEach [b] L.X.env := by rfl)
    (hs2 : starEach [b] L.X.env = (false, eval b L.X.env) :: starEach [] L.X.env := by rfl) (hpl : (backTo pos (starEach [b] L.X.env)).any (·.1) = false := by rfl) : ItD L ρ (.Tuple elts kk tpos) (.Call (.Name "zip" pf) [a, b] [] pos) (zipP ds es) := .mk fun A B0 B σ H R E k => by
  refine WI.of (RZ.pi_zipA hg (by rw [L.hm]; exact hm) (WA.pa _ _) hs hpl) ((a_cons h (a_cons h' a_nil hs2) hs).run E fun vs B' H' x E' y => ?_)
  obtain ⟨v, w, rfl, hv, hw⟩ := pvs2 y
  obtain ⟨a, xs, rfl, h1, h2⟩ := dp_lst hv
  obtain ⟨b, ys, rfl, h3, h4⟩ := dp_lst hw
  have l := dpa_len h2
  have l' := dpa_len h4
  rw [L.hK]
  have W := walk_zip (K := G.K) (a := a) (b := b) (xs := xs) (ys := ys) (n := (zipP (G := G) ds es).length) (by rw [zipP_len, l, l'])
  refine ⟨a, b, xs, ys, rfl, .inl ⟨E'.bh.sqL h1, E'.bh.sqL h3, k _ B' H' ⟨fun i H hi x => W.goes i H hi ⟨x.sqL h1, x.sqL h3⟩, fun H x => W.stops H ⟨x.sqL h1, x.sqL h3⟩, fun i p A B0 B2 ρ σ H x H' e w E y => ?_⟩ x E'⟩⟩
  obtain ⟨d, e1, e2, e3, rfl⟩ := zipP_get e
  obtain ⟨T, z1, z2, rfl, hT, rfl, y2, y3⟩ := y
  obtain ⟨v, e5, e6⟩ := dpa_get h2 e2
  obtain ⟨v', e7, e8⟩ := dpa_get h4 e3
  have q1 := y2 xs (E.bh.sqL (w.sqL h1))
  have q2 := y3 ys (E.bh.sqL (w.sqL h3))
  rw [e5] at q1
  rw [e7] at q2
  cases q1
  cases q2
  exact newPair E hT (dp_mono w _ _ e6) (dp_mono w _ _ e8)
theorem i_zipT {pf tpos : Pos} {elts : List Expr} {kk : Nat} {ds es : List PyData} (hm : G.mg "zip" = none) (h : EvD L ρ a (dat (.tuple ds))) (h' : EvD L ρ b (dat (.tuple es))) (hg : Gl L.X "zip" := by rfl) (hs : starEach [a, b] L.X.env = (false, eval a L.X.env) :: starEach [b] L.X.env := by rfl)
    (hs2 : starEach [b] L.X.env = (false, eval b L.X.env) :: starEach [] L.X.env := by rfl) (hpl : (backTo pos (starEach [b] L.X.env)).any (·.1) = false := by rfl) : ItD L ρ (.Tuple elts kk tpos) (.Call (.Name "zip" pf) [a, b] [] pos) (zipP ds es) := .mk fun A B0 B σ H R E k => by
  refine WI.of (RZ.pi_zipA hg (by rw [L.hm]; exact hm) (WA.pa _ _) hs hpl) ((a_cons h (a_cons h' a_nil hs2) hs).run E fun vs B' H' x E' y => ?_)
  obtain ⟨v, w, rfl, hv, hw⟩ := pvs2 y
  obtain ⟨a, xs, rfl, h1, h2⟩ := dp_tup hv
  obtain ⟨b, ys, rfl, h3, h4⟩ := dp_tup hw
  have l := dpa_len h2
  have l' := dpa_len h4
  rw [L.hK]
  have ln : (zipP (G := G) ds es).length = min xs.length ys.length := by rw [zipP_len, l, l']
  refine ⟨a, b, xs, ys, rfl, .inr ⟨E'.bh.sqT h1, E'.bh.sqT h3, k _ B' H' ⟨fun i H hi x => ?_, fun H x => ⟨xs, ys, x.sqT h1, x.sqT h3, by rw [ln]; omega⟩, fun i p A B0 B2 ρ σ H x H' e w E y => ?_⟩ x E'⟩⟩
  · have g1 : i < xs.length := by omega
    have g2 : i < ys.length := by omega
    exact ⟨xs, ys, xs[i], ys[i], x.sqT h1, x.sqT h3, by simp [g1], by simp [g2]⟩
  obtain ⟨d, e1, e2, e3, rfl⟩ := zipP_get e
  obtain ⟨T, z1, z2, rfl, hT, rfl, y2, y3⟩ := y
  obtain ⟨v, e5, e6⟩ := dpa_get h2 e2
  obtain ⟨v', e7, e8⟩ := dpa_get h4 e3
  have q1 := y2 xs (E.bh.sqT (w.sqT h1))
  have q2 := y3 ys (E.bh.sqT (w.sqT h3))
  rw [e5] at q1
  rw [e7] at q2
  cases q1
  cases q2
  exact newPair E hT (dp_mono w _ _ e6) (dp_mono w _ _ e8)
/-- a text, sign by sign -/
def signsD (x : Str) : List PyData := x.cps.toList.map fun c => PyData.str ⟨#[c]⟩
theorem i_str {x : Str} (h : EvD L ρ iter (dat (.str x))) (hl : x.length ≤ 1000) : ItD L ρ tg iter ((signsD x).map dat) := .mk fun A B0 B σ H R E k => by
  refine WI.of (pi_str (WE.pe _ _)) (h.run E fun v B' H' w E' y => ?_)
  have e1 := dp_str y
  subst e1
  have ln : ((signsD x).map (dat (G := G))).length = x.cps.size := by simp [signsD]
  refine ⟨x, rfl, ?_⟩
  have fin : ∀ J, J = Its x → R J H' := fun J hJ => by
    subst hJ
    refine k _ B' H' ⟨fun i H hi _ => by rw [ln] at hi; exact hi, fun H _ => by rw [ln]; exact Nat.le_refl _, fun i p A B0 B2 ρ σ H x' H' e w E y => ?_⟩ w E'
    obtain ⟨d, e1, rfl⟩ := dats_get e
    obtain ⟨rfl, c, e2, rfl⟩ := y
    unfold signsD at e1
    rw [List.getElem?_map, Array.getElem?_toList, e2] at e1
    have e1 := Option.some.inj e1
    subst e1
    exact ⟨B2, Ext.refl _, E, .str _⟩
  first
    | exact fin _ rfl
    | exact ⟨by rw [sizeLine_eq]; omega, fin _ rfl⟩

/-! ### for -/
theorem s1_for {body : List Stmt} {ps : List (PV G)} {is : List Nat} {f : Nat → List (Option (PV G)) → List (Option (PV G))} (hi : ItD L ρ tg iter ps) (hg : ∀ (i : Nat) p, ps[i]? = some p → TgD L tg p is (f i)) (J : Nat → Rho G → Prop) (h0 : J 0 ρ)
    (hs : ∀ (i : Nat) p ρ1, ps[i]? = some p → J i ρ1 → StD L ⟨f i ρ1.sl, ρ1.ow⟩ body { nx := J (i + 1), ct := J (i + 1), bk := Po.nx, rt := Po.rt }) (hd : ∀ ρ1, J ps.length ρ1 → Po.nx ρ1)
    (hp : PassesOwn (model L.X.prog L.X.w) L.X.A L.X.env L.X.xe := by exact PassesOwn.never) (hfs : ∀ x, foldedSetIterable iter L.X.env x = pure x := by intro _; rfl) : S1D L ρ (.For tg iter body [] pos) Po := .mk fun A B0 B σ H D E S => by
  refine WSt.of (ps_for hp L.calm (WI.pi _ _ _) (WG.pg _ _) (WSs.pss _ _) hfs) (hi A B0 B σ H _ E fun J0 B1 H1 W x1 E1 => ?_)
  refine ⟨fun i m σ' H' => m = ps.length - i ∧ i ≤ ps.length ∧ ∃ ρ1 B2, J i ρ1 ∧ Ext B1 B2 ∧ EnvB G A B0 B2 ρ1 σ' H', ⟨ps.length, by simp, Nat.zero_le _, ρ, B1, h0, Ext.refl _, E1⟩, ?_⟩
  rintro i m σ2 H2 ⟨rfl, hi2, ρ2, B2, j2, x2, E2⟩
  by_cases hlt : i < ps.length
  · refine .inr ⟨W.goes i H2 hlt (x2.trans E2.bh), fun σ' H' => ∃ ρ3 B3, J (i + 1) ρ3 ∧ Ext B1 B3 ∧ EnvB G A B0 B3 ρ3 σ' H', fun σ' H' ⟨ρ3, B3, j3, x3, E3⟩ => ⟨ps.length - (i + 1), by omega, rfl, hlt, ρ3, B3, j3, x3, E3⟩, fun v H3 y => ?_⟩
    have hp2 : ps[i]? = some ps[i] := by simp [hlt]
    obtain ⟨B4, x4, E4, hv⟩ := W.yields i ps[i] A B0 B2 ρ2 σ2 H2 v H3 hp2 x2 E2 y
    refine hg i ps[i] hp2 A B0 B4 ρ2 σ2 H3 v _ E4 hv fun σ5 _ E5 => ?_
    -- from here the part B4 stays
    have E6 : EnvB G A B4 B4 ⟨f i ρ2.sl, ρ2.ow⟩ σ5 H3 := ⟨Ext.refl _, E5.bh, E5.ah, fun a _ h => h, E5.tabs, E5.sl, E5.ow, E5.nd, E5.ln⟩
    have back : ∀ {B7 : Hp} {ρ7 : Rho G} {σ7 : L2.St} {H7 : Hp}, EnvB G A B4 B7 ρ7 σ7 H7 → Ext B1 B7 ∧ EnvB G A B0 B7 ρ7 σ7 H7 := fun {B7 ρ7 σ7 H7} E7 =>
      ⟨(x2.trans x4).trans E7.b0, ⟨(E4.b0).trans E7.b0, E7.bh, E7.ah, fun a ha hb => E7.av a ha (E4.av a ha hb), E7.tabs, E7.sl, E7.ow, E7.nd, E7.ln⟩⟩
    refine hs i ps[i] ρ2 hp2 j2 A B4 B4 σ5 H3 _ E6 ⟨fun ρ7 w B7 σ7 H7 E7 => ?_, fun p7 ρ7 w v7 B7 σ7 H7 E7 h7 => S.rt p7 ρ7 w v7 B7 σ7 H7 (back E7).2 h7, fun ρ7 w B7 σ7 H7 E7 => S.nx ρ7 w B7 σ7 H7 (back E7).2, fun ρ7 w B7 σ7 H7 E7 => ?_⟩
    · exact ⟨ρ7, B7, w, (back E7).1, (back E7).2⟩
    · exact ⟨ρ7, B7, w, (back E7).1, (back E7).2⟩
  · have e : i = ps.length := by omega
    subst e
    exact .inl ⟨W.stops H2 (x2.trans E2.bh), S.nx ρ2 (hd ρ2 j2) B2 σ2 H2 E2⟩
end
end MR
/-! L4b: list comprehensions. -/
namespace MR
open PySem PySem.Spec PyProof.Rows L2
section
variable {G : GC} {L : LC G} {ρ ρ1 ρ2 : Rho G} {e a b c : Expr} {es : List Expr} {p q z : PV G} {pos : Pos} {d d1 d2 : PyData} {st : Stmt} {rest : List Stmt} {Po : Post G} {tg iter elt : Expr}

/-- the slots vs forgotten -/
def wipeS (l : List (Option (PV G))) : List Nat → List (Option (PV G))
  | [] => l
  | v :: vs => (wipeS l vs).set v none
theorem wipeS_len (l : List (Option (PV G))) : ∀ vs : List Nat, (wipeS l vs).length = l.length
  | [] => rfl
  | v :: vs => by unfold wipeS; rw [List.length_set, wipeS_len l vs]
theorem wipeS_some {l : List (Option (PV G))} {i : Nat} : ∀ {vs : List Nat}, (wipeS l vs)[i]? = some (some p) → l[i]? = some (some p) ∧ i ∉ vs
  | [], h => ⟨h, by simp⟩
  | v :: vs, h => by
    unfold wipeS at h
    by_cases hi : v = i
    · subst hi
      by_cases hv : v < (wipeS l vs).length
      · rw [List.getElem?_set_self hv] at h; cases h
      · rw [List.getElem?_eq_none (by simpa using hv)] at h; cases h
    · rw [List.getElem?_set_ne hi] at h
      obtain ⟨h1, h2⟩ := wipeS_some h
      exact ⟨h1, by simp only [List.mem_cons, not_or]; exact ⟨fun e => hi e.symm, h2⟩⟩
theorem wipe_out2 {σ : L2.St} {i : Nat} : ∀ {vs : List Nat}, i ∉ vs → (wipe σ vs)[i]? = σ[i]?
  | [], _ => rfl
  | v :: vs, h => by
    simp only [List.mem_cons, not_or] at h
    unfold wipe
    rw [List.getElem?_set_ne (fun e => h.1 e.symm), wipe_out2 h.2]
theorem EnvB.wiped {A B0 B : Hp} {σ : L2.St} {H : Hp} (E : EnvB G A B0 B ρ σ H) (vs : List Nat) : EnvB G A B0 B ⟨wipeS ρ.sl vs, ρ.ow⟩ (wipe σ vs) H :=
  ⟨E.b0, E.bh, E.ah, E.av, E.tabs, fun i p e => by
    obtain ⟨h1, h2⟩ := wipeS_some e
    obtain ⟨v, h3, h4⟩ := E.sl i p h1
    exact ⟨v, by rw [wipe_out2 h2]; exact h3, h4⟩, E.ow, E.nd, by rw [wipeS_len, wipe_length]; exact E.ln⟩
/-- back from the block: the slots as they were -/
theorem EnvB.back {A B0 B B' : Hp} {σ σ' : L2.St} {H H' : Hp} {sl' : List (Option (PV G))} (E : EnvB G A B0 B ρ σ H) (x : Ext B B') (E' : EnvB G A B0 B' ⟨sl', ρ.ow⟩ σ' H') : EnvB G A B0 B' ρ σ H' :=
  ⟨E'.b0, E'.bh, E'.ah, E'.av, E'.tabs, fun i p e => let ⟨v, h1, h2⟩ := E.sl i p e; ⟨v, h1, p.mono x h2⟩, E'.ow, E'.nd, E.ln⟩

/-- a block: the contexts that a comprehension's parts run in -/
abbrev BlkL (L : LC G) (scope : Scope) (L' : LC G) : Prop := ∃ (s : Shared) (H : Hp) (C : Addr) (cl : List (Str × Addr)) (fp : List Addr), L' = L.blk s H scope C cl fp
theorem wg_blk {scope : Scope} (s : Shared) (H : Hp) (C : Addr) (cl : List (Str × Addr)) (fp : List Addr) : PG (L.X.blk s H scope (compEnvC scope cl C L.X.env) fp) tg (fun v σ H Q => ∀ L', BlkL L scope L' → WG L'.X tg v σ H Q) :=
  ⟨fun pins s' σ H' v u Q I r h => h (L.blk s H scope C cl fp) ⟨s, H, C, cl, fp, rfl⟩ pins s' u I r⟩
theorem we_blk {scope : Scope} (s : Shared) (H : Hp) (C : Addr) (cl : List (Str × Addr)) (fp : List Addr) : PE (L.X.blk s H scope (compEnvC scope cl C L.X.env) fp) elt (fun σ H Q => ∀ L', BlkL L scope L' → WE L'.X elt σ H Q) :=
  ⟨fun pins s' σ H' Q I h => h (L.blk s H scope C cl fp) ⟨s, H, C, cl, fp, rfl⟩ pins s' I⟩
theorem wt_blk {scope : Scope} (s : Shared) (H : Hp) (C : Addr) (cl : List (Str × Addr)) (fp : List Addr) : PT (L.X.blk s H scope (compEnvC scope cl C L.X.env) fp) c (fun σ H Q => ∀ L', BlkL L scope L' → WT L'.X c σ H Q) :=
  ⟨fun pins s' σ H' Q I h => h (L.blk s H scope C cl fp) ⟨s, H, C, cl, fp, rfl⟩ pins s' I⟩
theorem lc_go {vs : List Nat} {ps : List (PV G)} {gs : List (Option PyData)} {tt : TT} {B1 : Hp} {J0 : It} {A B0 : Hp} {σ : L2.St} {H1 : Hp} {Q : VK} (W : WalkD G B1 J0 ps) (E1 : EnvB G A B0 B1 ρ σ H1) (hl : gs.length = ps.length) (hsz : ps.length ≤ 100000)
    {tg' : TG} {te' : TE}
    (hs : ∀ (i : Nat) p g, ps[i]? = some p → gs[i]? = some g → ∀ (A B0 B : Hp) (σ2 : L2.St) (H : Hp) (v : V) (Qe : VK) (Qn : Hp → Prop), EnvB G A B0 B ⟨wipeS ρ.sl vs, ρ.ow⟩ (wipe σ vs) H → p.p B v →
      (∀ d, g = some d → ∀ v B' H' sl' σ', Ext B B' → EnvB G A B0 B' ⟨sl', ρ.ow⟩ σ' H' → Dp G.K B' v d → Qe v H') → (g = none → ∀ B' H' sl' σ', Ext B B' → EnvB G A B0 B' ⟨sl', ρ.ow⟩ σ' H' → Qn H') →
      tg' v (wipe σ vs) H fun σ2 H2 => wipe σ2 vs = wipe σ vs ∧ tt σ2 H2 fun t H3 => if t = true then te' σ2 H3 Qe else Qn H3)
    (k : ∀ v B' H', Ext B1 B' → EnvB G A B0 B' ρ σ H' → (dat (G := G) (.list (gs.filterMap id))).p B' v → Q v H') :
    ∀ D, H1 D = none → ∃ W : Nat → Nat → Hp → Prop, (∃ m, W 0 m (upd H1 D (.lst []))) ∧ ∀ i m H, W i m H →
      (J0.stop i H ∧ Q (.ref D) H) ∨ (J0.go i H ∧ ∃ Nx : Hp → Prop, (∀ H', Nx H' → ∃ m', m' < m ∧ W (i + 1) m' H') ∧ ∀ x H', J0.yld i H x H' → tg' x (wipe σ vs) H' fun σ2 H2 => wipe σ2 vs = wipe σ vs ∧ tt σ2 H2 fun b H3 =>
        if b = true then te' σ2 H3 fun y H4 => ∃ acc, H4 D = some (.lst acc) ∧ acc.length < sizeLine ∧ Nx (upd H4 D (.lst (acc ++ [y]))) else Nx H3) := by
  intro D hD
  have hBD := E1.fresh hD
  have hAD : A D = none := E1.ah.back D hD
  have hoD : D ∉ ρ.ow.map (·.1) := fun hm => by
    obtain ⟨⟨a', c'⟩, hq, e'⟩ := List.mem_map.mp hm
    have e' : a' = D := e'
    subst e'
    obtain ⟨_, _, h3⟩ := E1.ow a' c' hq
    obtain ⟨o, e, _⟩ := h3
    rw [hD] at e
    cases e
  -- the state with the list so far
  let St := fun (i : Nat) (H : Hp) => ∃ (B2 : Hp) (acc : List V), Ext B1 B2 ∧ B2 D = none ∧ EnvB G A B0 B2 ρ σ H ∧ H D = some (.lst acc) ∧ DpAll G.K B2 acc ((gs.take i).filterMap id)
  have h0 : St 0 (upd H1 D (.lst [])) := by
    refine ⟨B1, [], Ext.refl _, hBD, ⟨E1.b0, E1.bh.hid hBD, E1.ah.hid hAD, E1.av, E1.tabs.ext fun b u e => by rw [upd_ne (ne_of_none e hD)]; exact e, E1.sl, fun a c m => ?_, E1.nd, E1.ln⟩, upd_same, .nil⟩
    obtain ⟨h1, h2, h3⟩ := E1.ow a c m
    refine ⟨h1, h2, h3.mono (Ext.refl _) (Ext.new hD)⟩
  refine ⟨fun i m H => m = ps.length - i ∧ i ≤ ps.length ∧ St i H, ⟨ps.length, by simp, Nat.zero_le _, h0⟩, ?_⟩
  rintro i m H ⟨rfl, hi, B2, acc, x2, hB2, E2, hDl, hacc⟩
  by_cases hlt : i < ps.length
  · refine .inr ⟨W.goes i H hlt (x2.trans E2.bh), St (i + 1), fun H' s' => ⟨ps.length - (i + 1), by omega, rfl, hlt, s'⟩, fun v H3 y => ?_⟩
    have hp2 : ps[i]? = some ps[i] := by simp [hlt]
    have hg2 : gs[i]? = some (gs[i]'(by omega)) := by simp [hl, hlt]
    generalize gs[i]'(by omega) = g at hg2
    obtain ⟨B4, x4, E4, hv⟩ := W.yields i ps[i] _ _ B2 ρ σ H v H3 hp2 x2 E2.re y
    have E4w := E4.re.wiped vs
    have tk : gs.take (i + 1) = gs.take i ++ [g] := by rw [List.take_add_one, hg2]; rfl
    have nT : ∀ ps', HO.lst acc ≠ .tbl ps' := fun ps' z => nomatch z
    have keepD : ∀ {H' : Hp}, Ext (restH ρ.ow H3) H' → H' D = some (.lst acc) := fun {H'} w => by
      have h3 : H3 D = some (.lst acc) := E4.ah.keep D _ (by rw [restH_out hoD]; exact hDl) nT
      exact w.keep D _ (by rw [restH_out hoD]; exact h3) nT
    have h3D : H3 D = some (.lst acc) := E4.ah.keep D _ (by rw [restH_out hoD]; exact hDl) nT
    have hB4 : B4 D = none := E4.av D (by rw [restH_out hoD, hDl]; exact fun z => nomatch z) hB2
    have keepB : ∀ {B' H' : Hp} {sl' : List (Option (PV G))} {σ' : L2.St}, EnvB G (restH ρ.ow H3) B4 B' ⟨sl', ρ.ow⟩ σ' H' → B' D = none := fun {B' H' sl' σ'} E' =>
      E'.av D (by rw [restH_out hoD, h3D]; exact fun z => nomatch z) hB4
    refine hs i ps[i] g hp2 hg2 _ _ B4 (wipe σ vs) H3 v _ _ E4w hv (fun d hd w B5 H5 sl' σ5 x5 E5 y5 => ?_) fun hn B5 H5 sl' σ5 x5 E5 => ?_
    · have E6 := E2.un (E4.un (ρ1 := ⟨sl', ρ.ow⟩) E5)
      have E7 := E2.back (x4.trans x5) E6
      have e5 : H5 D = some (.lst acc) := keepD E5.ah
      have b5 := keepB E5
      refine ⟨acc, e5, ?_, B5, acc ++ [w], (x2.trans x4).trans x5, b5, ⟨E7.b0, E7.bh.hid b5, E7.ah.hid hAD, E7.av, ?_, E7.sl, fun a c m => ?_, E7.nd, E7.ln⟩, upd_same, ?_⟩
      · have h1 := dpa_len hacc
        have h2 : ((gs.take i).filterMap id).length ≤ (gs.take i).length := List.length_filterMap_le _ _
        rw [List.length_take] at h2
        rw [sizeLine_eq]
        omega
      · intro pq hpq
        obtain ⟨ps', q1, q2, q3⟩ := E7.tabs pq hpq
        have neD : ∀ {o : HO} {b : Addr}, H5 b = some o → o ≠ .lst acc → b ≠ D := fun {o b} e ne z => by
          rw [z, e5] at e
          exact ne (Option.some.inj e).symm
        refine ⟨ps', by rw [upd_ne (neD q1 fun z => nomatch z)]; exact q1, q2, fun pos cv hc => ?_⟩
        obtain ⟨c', q4, q5⟩ := q3 pos cv hc
        exact ⟨c', q4, by rw [upd_ne (neD q5 fun z => by unfold LamX.CodeO at z; cases z)]; exact q5⟩
      · obtain ⟨h1, h2, h3⟩ := E7.ow a c m
        refine ⟨h1, h2, ?_⟩
        have na : a ≠ D := fun z => hoD (by rw [← z]; exact List.mem_map.mpr ⟨(a, c), m, rfl⟩)
        obtain ⟨o, e1, e2⟩ := h3
        exact ⟨o, by rw [upd_ne na]; exact e1, e2⟩
      · rw [tk, List.filterMap_append, hd]
        exact dpa_snoc (dpa_mono (x4.trans x5) _ _ hacc) y5
    · have E6 := E2.un (E4.un (ρ1 := ⟨sl', ρ.ow⟩) E5)
      have E7 := E2.back (x4.trans x5) E6
      refine ⟨B5, acc, (x2.trans x4).trans x5, keepB E5, E7, keepD E5.ah, ?_⟩
      rw [tk, List.filterMap_append, hn]
      have : ([none] : List (Option PyData)).filterMap id = [] := rfl
      rw [this, List.append_nil]
      exact dpa_mono (x4.trans x5) _ _ hacc
  · have e : i = ps.length := by omega
    subst e
    refine .inl ⟨W.stops H (x2.trans E2.bh), ?_⟩
    have hB : Ext B2 (upd B2 D (.lst acc)) := Ext.new hB2
    have bh' : Ext (upd B2 D (.lst acc)) H := by
      constructor
      · intro b o e n
        by_cases hb : b = D
        · subst hb; rw [upd_same] at e; rw [hDl]; exact e
        · rw [upd_ne hb] at e; exact E2.bh.keep b o e n
      · intro b e
        have hb : b ≠ D := fun z => by rw [z, hDl] at e; cases e
        rw [upd_ne hb]
        exact E2.bh.back b e
    have tk : gs.take ps.length = gs := by rw [← hl, List.take_length]
    rw [tk] at hacc
    refine k (.ref D) (upd B2 D (.lst acc)) H (x2.trans hB) ⟨E2.b0.trans hB, bh', E2.ah, fun a ha hb => ?_, E2.tabs, fun j p e => let ⟨v, h1, h2⟩ := E2.sl j p e; ⟨v, h1, p.mono hB h2⟩, fun a c m => ?_, E2.nd, E2.ln⟩ (.lst (SqL.of upd_same) (dpa_mono hB _ _ hacc))
    · have na : a ≠ D := fun z => ha (by rw [z]; exact hAD)
      rw [upd_ne na]
      exact E2.av a ha hb
    · obtain ⟨h1, h2, h3⟩ := E2.ow a c m
      have na : a ≠ D := fun z => hoD (by rw [← z]; exact List.mem_map.mpr ⟨(a, c), m, rfl⟩)
      exact ⟨h1, by rw [upd_ne na]; exact h2, h3.mono hB (Ext.refl _)⟩
theorem wipe_in {σ : L2.St} {i : Nat} : ∀ {vs : List Nat}, i ∈ vs → i < σ.length → (wipe σ vs)[i]? = some none
  | v :: vs, h, hl => by
    unfold wipe
    by_cases e : v = i
    · subst e
      rw [List.getElem?_set_self (by rw [wipe_length]; exact hl)]
    · rw [List.getElem?_set_ne e]
      rcases List.mem_cons.mp h with h | h
      · exact absurd h.symm e
      · exact wipe_in h hl
theorem wipe_eq {vs : List Nat} {σ τ : L2.St} (hl : σ.length = τ.length) (h : ∀ j, j ∉ vs → σ[j]? = τ[j]?) : wipe σ vs = wipe τ vs := by
  refine List.ext_getElem? fun j => ?_
  by_cases hj : j ∈ vs
  · by_cases hb : j < σ.length
    · rw [wipe_in hj hb, wipe_in hj (by omega)]
    · rw [List.getElem?_eq_none (by rw [wipe_length]; omega), List.getElem?_eq_none (by rw [wipe_length]; omega)]
  · rw [wipe_out2 hj, wipe_out2 hj]; exact h j hj
theorem OutS.wiped {is vs : List Nat} {σ σ2 : L2.St} (o : OutS is (wipe σ vs) σ2) (h : ∀ j ∈ is, j ∈ vs) : wipe σ2 vs = wipe σ vs := by
  refine wipe_eq (o.ln.trans (wipe_length σ vs)) fun j hj => ?_
  rw [o.at_ j (fun z => hj (h j z)), wipe_out2 hj]

/-- a comprehension makes the list ds -/
structure LcR (L : LC G) (ρ : Rho G) (own : List (Str × Nat)) (scope : Scope) (ifs : List Expr) (elt tg iter : Expr) (ds : List PyData) : Prop where
  ok : BlkOk L.X.N L.X.env.scope scope own
  hfs : ∀ x, foldedSetIterable iter L.X.env x = pure x
  ex : ∃ (wi : TI) (g : TG) (tt : TT) (te : TE), PI L.X tg iter wi ∧ (∀ (s : Shared) (H : Hp) (C : Addr) (cl : List (Str × Addr)) (fp : List Addr), PG (L.X.blk s H scope (compEnvC scope cl C L.X.env) fp) tg g) ∧ (∀ (s : Shared) (H : Hp) (C : Addr) (cl : List (Str × Addr)) (fp : List Addr), PTs (L.X.blk s H scope (compEnvC scope cl C L.X.env) fp) ifs tt) ∧
    (∀ (s : Shared) (H : Hp) (C : Addr) (cl : List (Str × Addr)) (fp : List Addr), PE (L.X.blk s H scope (compEnvC scope cl C L.X.env) fp) elt te) ∧
    ∀ (A B0 B : Hp) (σ : L2.St) (H : Hp) (Q : VK), EnvB G A B0 B ρ σ H → (∀ v B' H', Ext B B' → EnvB G A B0 B' ρ σ H' → (dat (G := G) (.list ds)).p B' v → Q v H') → tLc wi g tt te (own.map (·.2)) σ H Q
theorem LcR.ev {own : List (Str × Nat)} {scope : Scope} {ifs : List Expr} {ds : List PyData} (h : LcR L ρ own scope ifs elt tg iter ds) : EvD L ρ (.ListComp elt [⟨tg, iter, ifs, 0⟩] scope pos) (dat (.list ds)) := EvD.of fun A B0 B σ H Q E k => by
  obtain ⟨ok, hfs, wi, g, tt, te, h1, h2, h3, h4, h5⟩ := h
  exact WE.of (pe_lc L.calm L.nd h1 ok h2 h3 h4 hfs) (h5 A B0 B σ H Q E k)
theorem LcR.cast {own : List (Str × Nat)} {scope : Scope} {ifs : List Expr} {ds ds' : List PyData} (h : LcR L ρ own scope ifs elt tg iter ds) (w : ds = ds') : LcR L ρ own scope ifs elt tg iter ds' := w ▸ h
/-- x = [..] -/
theorem s1_lc (i : Nat) {x : Str} {px spos : Pos} {own : List (Str × Nat)} {scope : Scope} {ifs : List Expr} {ds : List PyData} (h : LcR L ρ own scope ifs elt tg iter ds) (k : Po.nx ⟨ρ.sl.set i (some (dat (.list ds))), ρ.ow⟩) (hN : L.X.N[i]? = some x := by rfl) (hx : L.X.env.scope.names.lookup x = some .local := by rfl)
    (hsw : swapsWith (.ListComp elt [⟨tg, iter, ifs, 0⟩] scope pos) (some (.Name x px)) spos.line L.X.env = pure true := by rfl) : S1D L ρ (.Assign [.Name x px] (.ListComp elt [⟨tg, iter, ifs, 0⟩] scope pos) spos) Po := .mk fun A B0 B σ H D E S pins s I => by
  obtain ⟨ok, hfs, wi, g, tt, te, h1, h2, h3, h4, h5⟩ := h
  refine (ps_setLc L.calm L.nd hN hx hsw h1 ok h2 h3 h4 hfs).run pins s σ H D I (h5 A B0 B σ H _ E fun v B' H' x' E' y => ?_)
  exact S.nx _ k B' _ H' (E'.set (by rw [E'.ln]; exact slot_lt I hN) y)
/-- [elt for tg in iter if c] -/
theorem lcR {own : List (Str × Nat)} {scope : Scope} {ps : List (PV G)} {is : List Nat} (f : Nat → List (Option (PV G)) → List (Option (PV G))) (gs : List PyData) (hi : ItD L ρ tg iter ps) (ok : BlkOk L.X.N L.X.env.scope scope own) (hl : gs.length = ps.length) (hsz : ps.length ≤ 100000)
    (his : ∀ j ∈ is, j ∈ own.map (·.2)) (hg : ∀ L', BlkL L scope L' → ∀ (i : Nat) p, ps[i]? = some p → TgD L' tg p is (f i))
    (he : ∀ L', BlkL L scope L' → ∀ (i : Nat) p g, ps[i]? = some p → gs[i]? = some g → EvD L' ⟨f i (wipeS ρ.sl (own.map (·.2))), ρ.ow⟩ elt (dat g)) (hfs : ∀ x, foldedSetIterable iter L.X.env x = pure x := by intro _; rfl) :
    LcR L ρ own scope [] elt tg iter gs := by
  refine ⟨ok, hfs, _, _, _, _, WI.pi _ _ _, (fun s H C cl fp => wg_blk s H C cl fp), (fun s H C cl fp => pts_nil), (fun s H C cl fp => we_blk s H C cl fp), fun A B0 B σ H Q E k => ?_⟩
  refine hi A B0 B σ H _ E fun J B1 H1 W x1 E1 => ?_
  refine lc_go (gs := gs.map some) (vs := own.map (·.2)) (tt := tYes) (tg' := fun v σ H Q => ∀ L', BlkL L scope L' → WG L'.X tg v σ H Q) (te' := fun σ H Q => ∀ L', BlkL L scope L' → WE L'.X elt σ H Q) W E1 (by rw [List.length_map]; exact hl) hsz (fun i p g hp hg2 A B0 B2 σ2 H2 v Qe Qn E2 hv ke kn => ?_) fun v B' H' x E' y => k v B' H' (x1.trans x) E' (by
    have e : (gs.map some).filterMap id = gs := by rw [List.filterMap_map]; simp
    rw [e] at y; exact y)
  rw [List.getElem?_map] at hg2
  cases e : gs[i]? with
  | none => rw [e] at hg2; cases hg2
  | some d =>
    rw [e] at hg2
    have hg2 := Option.some.inj hg2
    subst hg2
    intro L' hL'
    refine hg L' hL' i p hp A B0 B2 _ (wipe σ (own.map (·.2))) H2 v _ E2 hv fun σ3 o3 E3 => ?_
    refine ⟨o3.wiped his, ?_⟩
    show (if true = true then (∀ L', BlkL L scope L' → WE L'.X elt σ3 H2 Qe) else Qn H2)
    rw [if_pos rfl]
    intro L2' hL2'
    exact (he L2' hL2' i p d hp e).run E3 fun w B4 H4 x4 E4 y4 => ke d rfl w B4 H4 _ σ3 x4 E4 y4
/-- .. with a test: gs tells the elements taken -/
theorem lcRIf {own : List (Str × Nat)} {scope : Scope} {ps : List (PV G)} {is : List Nat} (f : Nat → List (Option (PV G)) → List (Option (PV G))) (gs : List (Option PyData)) (hi : ItD L ρ tg iter ps) (ok : BlkOk L.X.N L.X.env.scope scope own) (hl : gs.length = ps.length) (hsz : ps.length ≤ 100000)
    (his : ∀ j ∈ is, j ∈ own.map (·.2)) (hg : ∀ L', BlkL L scope L' → ∀ (i : Nat) p, ps[i]? = some p → TgD L' tg p is (f i))
    (ht : ∀ L', BlkL L scope L' → ∀ (i : Nat) p g, ps[i]? = some p → gs[i]? = some g → EvT L' ⟨f i (wipeS ρ.sl (own.map (·.2))), ρ.ow⟩ c g.isSome)
    (he : ∀ L', BlkL L scope L' → ∀ (i : Nat) p g, ps[i]? = some p → gs[i]? = some (some g) → EvD L' ⟨f i (wipeS ρ.sl (own.map (·.2))), ρ.ow⟩ elt (dat g)) (hfs : ∀ x, foldedSetIterable iter L.X.env x = pure x := by intro _; rfl) :
    LcR L ρ own scope [c] elt tg iter (gs.filterMap id) := by
  refine ⟨ok, hfs, _, _, _, _, WI.pi _ _ _, (fun s H C cl fp => wg_blk s H C cl fp), (fun s H C cl fp => pts_one (wt_blk s H C cl fp)), (fun s H C cl fp => we_blk s H C cl fp), fun A B0 B σ H Q E k => ?_⟩
  refine hi A B0 B σ H _ E fun J B1 H1 W x1 E1 => ?_
  refine lc_go (gs := gs) (vs := own.map (·.2)) (tt := fun σ H Q => ∀ L', BlkL L scope L' → WT L'.X c σ H Q) (tg' := fun v σ H Q => ∀ L', BlkL L scope L' → WG L'.X tg v σ H Q) (te' := fun σ H Q => ∀ L', BlkL L scope L' → WE L'.X elt σ H Q) W E1 hl hsz (fun i p g hp hg2 A B0 B2 σ2 H2 v Qe Qn E2 hv ke kn => ?_) fun v B' H' x E' y => k v B' H' (x1.trans x) E' y
  intro L' hL'
  refine hg L' hL' i p hp A B0 B2 _ (wipe σ (own.map (·.2))) H2 v _ E2 hv fun σ3 o3 E3 => ?_
  refine ⟨o3.wiped his, ?_⟩
  intro L2' hL2'
  refine (ht L2' hL2' i p g hp hg2).run E3 fun B4 H4 x4 E4 => ?_
  cases g with
  | none =>
    show (if false = true then (∀ L', BlkL L scope L' → WE L'.X elt σ3 H4 Qe) else Qn H4)
    rw [if_neg Bool.false_ne_true]
    exact kn rfl B4 H4 _ σ3 x4 E4
  | some d =>
    show (if true = true then (∀ L', BlkL L scope L' → WE L'.X elt σ3 H4 Qe) else Qn H4)
    rw [if_pos rfl]
    intro L3' hL3'
    exact (he L3' hL3' i p d hp hg2).run E4 fun w B5 H5 x5 E5 y5 => ke d rfl w B5 H5 _ σ3 (x4.trans x5) E5 y5
end
end MR
/-! L5: defs and their calls. -/
namespace MR
open PySem PySem.Spec PyProof.Rows L2
section
variable {G : GC} {L : LC G} {ρ ρ1 ρ2 : Rho G} {e a b c : Expr} {es : List Expr} {p q z : PV G} {pos : Pos} {d d1 d2 : PyData} {st : Stmt} {rest : List Stmt} {Po : Post G}

abbrev Rel (G : GC) := List (PV G) → PV G → Prop
/-- the promise of a def that changes nothing -/
def spR (R : Rel G) : Sp := fun vs H Q _ => LamX.Tabs G.T H ∧ ∃ B ps r, Ext B H ∧ R ps r ∧ PVs B vs ps ∧
  ∀ v B' H', Ext H H' → Ext B B' → Ext B' H' → LamX.Tabs G.T H' → (∀ a, H a ≠ none → B a = none → B' a = none) → r.p B' v → Q v H'
structure FnD (G : GC) (k : Nat) (x : Str) (ps : List Str) (R : Rel G) : Prop where
  ex : ∃ f fd, G.mg x = some (.ref f) ∧ PySem.W.keepIn G.K (.ref f) = true ∧ Binds G.K fd ps [] ∧ FnOk G.P G.w G.K G.mg G.base CX0 k f fd ps (spR R)
theorem LC.fnOk {k : Nat} {f : Addr} {fd : FuncData} {ps : List Str} {sp : Sp} (L : LC G) (F : FnOk G.P G.w G.K G.mg G.base CX0 k f fd ps sp) : FnOk L.X.prog L.X.w L.X.K L.X.mg L.X.base CX0 k f fd ps sp := by
  rw [L.hP, L.hw, L.hK, L.hm, L.hb]
  exact F
theorem FnD.mono {j k : Nat} {x : Str} {ps : List Str} {R : Rel G} (F : FnD G j x ps R) (h : j ≤ k) : FnD G k x ps R := by
  obtain ⟨f, fd, h1, h2, h3, h4⟩ := F.ex
  exact ⟨f, fd, h1, h2, h3, h4.mono h⟩
theorem e_call {j : Nat} {x : Str} {pf : Pos} {pn : List Str} {R : Rel G} {ps : List (PV G)} (F : FnD G j x pn R) (hj : j ≤ L.k) (ha : EvA L ρ (e :: es) ps) (hR : R ps z) (hg : Gl L.X x := by rfl) (hdb : (x == ("__debug__" : Str)) = false := by decide)
    (he : starEach (e :: es) L.X.env = (false, eval e L.X.env) :: starEach es L.X.env := by rfl) (hpl : (backTo pos (starEach es L.X.env)).any (·.1) = false := by rfl) : EvD L ρ (.Call (.Name x pf) (e :: es) [] pos) z := by
  obtain ⟨f, fd, h1, h2, h3, h4⟩ := F.ex
  refine EvD.of fun A B0 B σ H Q E k => WE.of (pe_call (L.fnOk h4) (L.room.mono hj) hg (by rw [L.hm]; exact h1) (by rw [L.hK]; exact h2) (by rw [L.hK]; exact h3) .nil pass0 (WA.pa _ _) hdb he hpl) (ha.run E fun vs B1 H1 x1 E1 y1 => ?_)
  refine ⟨E1.tabs, B1, ps, z, E1.bh, hR, by rw [List.append_nil]; exact y1, fun v B' H' w1 w2 w3 t av y => ?_⟩
  exact k v B' H' (x1.trans w2) (E1.grow w2 w1 w3 av t) y

/-! ### a def's body -/
/-- the context of the def st at f -/
abbrev bodyL (G : GC) (k : Nat) (N : List Str) (qual : Str) (st : Stmt) (f : Addr) (cd : Value) (A : Around) (outer : List Env) (s : Shared) (H : Hp) (E : XK) (nd : N.Nodup) (hr : Room k (A.deeper (envOfC qual (defScope st) s.heap.objs.size f cd))) : LC G where
  X := (cxOf CX0 G.P G.w G.K G.mg G.base N qual (defScope st) f cd A outer s H E).nox
  hP := rfl
  hw := rfl
  hK := rfl
  hm := rfl
  hb := rfl
  calm := rfl
  nd := nd
  k := k
  room := hr
/-- the slots at the entry -/
def startS (N : List Str) (ps : List (PV G)) : List (Option (PV G)) := ps.map some ++ List.replicate (N.length - ps.length) none
theorem startS_len (N : List Str) (ps : List (PV G)) (h : ps.length ≤ N.length) : (startS N ps).length = N.length := by
  unfold startS
  rw [List.length_append, List.length_map, List.length_replicate]
  omega
theorem start_get {N : List Str} {ps : List (PV G)} {vs : List V} {B : Hp} (h : PVs B vs ps) {i : Nat} (e : (startS N ps)[i]? = some (some p)) : ∃ v, (L2.start N vs)[i]? = some (some v) ∧ p.p B v := by
  have l := pvs_len h
  unfold startS at e
  by_cases hi : i < ps.length
  · rw [List.getElem?_append_left (by simpa using hi), List.getElem?_map] at e
    have hp : ps[i]? = some p := by
      cases q : ps[i]? with
      | none => rw [q] at e; cases e
      | some x => rw [q] at e; rw [Option.some.inj (Option.some.inj e)]
    obtain ⟨v, hv⟩ : ∃ v, vs[i]? = some v := ⟨vs[i]'(by omega), by simp [l, hi]⟩
    refine ⟨v, ?_, ?_⟩
    · unfold L2.start
      rw [List.getElem?_append_left (by rw [List.length_map]; omega), List.getElem?_map, hv]; rfl
    · have key : ∀ {vs : List V} {ps : List (PV G)} {i : Nat} {v : V} {p : PV G}, PVs B vs ps → vs[i]? = some v → ps[i]? = some p → p.p B v := by
        intro vs ps i v p h
        induction h generalizing i with
        | nil => intro e _; simp at e
        | cons h1 _ ih =>
          cases i with
          | zero => intro e1 e2; simp at e1 e2; subst e1 e2; exact h1
          | succ i => intro e1 e2; exact ih (by simpa using e1) (by simpa using e2)
      exact key h hv hp
  · rw [List.getElem?_append_right (by simpa using hi), List.getElem?_replicate] at e
    split at e <;> cases e
theorem fnd_mk {k : Nat} {x qual : Str} {st : Stmt} {f : Addr} {fd : FuncData} {N ps : List Str} {R : Rel G} (hm : G.mg x = some (.ref f)) (hk : PySem.W.keepIn G.K (.ref f) = true) (F : Fun G.K x qual st f fd) (hb : Binds G.K fd ps [])
    (S : FnScope N ps (defScope st)) (hR : ∀ pvs r, R pvs r → pvs.length = ps.length)
    (body : ∀ (pvs : List (PV G)) (r : PV G), R pvs r → ∀ (f : Addr) (cd : Value) (A : Around) (outer : List Env) (s : Shared) (H : Hp) (E : XK) (hr : Room k (A.deeper (envOfC qual (defScope st) s.heap.objs.size f cd))),
      StD (bodyL G k N qual st f cd A outer s H E S.nd hr) ⟨startS N pvs, []⟩ (defBody st) { nx := fun _ => ∀ B, r.p B .non, rt := fun p _ => p = r }) : FnD G (k + 1) x ps R := by
  refine ⟨f, fd, hm, hk, hb, F.ok S (fun vs H Q E ⟨_, B, pvs, r, _, hr, hv, _⟩ => by rw [pvs_len hv]; exact hR _ _ hr) fun cdv A outer s H vs Q E hr h => ?_⟩
  obtain ⟨ht, B, pvs, r, hB, hrel, hv, kk⟩ := h
  have lp : ps.length ≤ N.length := by have q := congrArg List.length S.pre; rw [List.length_take] at q; omega
  refine ⟨_, WSs.pss _ _, body pvs r hrel f cdv A outer s H E hr H B B (L2.start N vs) H _ ⟨Ext.refl _, hB, Ext.refl _, fun a _ h => h, ht, fun i p e => start_get hv e, (fun a c m => absurd m (by simp)), List.nodup_nil, ?_⟩ ⟨fun ρ h B' σ' H' E' => ?_, fun p ρ h v B' σ' H' E' y => ?_, fun _ h => h.elim, fun _ h => h.elim⟩⟩
  · show (startS N pvs).length = (L2.start N vs).length
    rw [startS_len N pvs (by rw [hR _ _ hrel]; exact lp)]
    unfold L2.start
    rw [List.length_append, List.length_map, List.length_replicate, pvs_len hv, hR _ _ hrel]
    omega
  · exact kk .non B' H' E'.ah E'.b0 E'.bh E'.tabs E'.av (h B')
  · subst h
    exact kk v B' H' E'.ah E'.b0 E'.bh E'.tabs E'.av y
end
end MR
/-! L6: built-ins by their names. -/
namespace MR
open PySem PySem.Spec PyProof.Rows L2
/-- the built-ins are the built-ins -/
structure Bs (G : GC) : Prop where
  isinstance : G.mg "isinstance" = none
  int : G.mg "int" = none
  bool : G.mg "bool" = none
  str : G.mg "str" = none
  tuple : G.mg "tuple" = none
  len : G.mg "len" = none
  all : G.mg "all" = none
  any : G.mg "any" = none
  zip : G.mg "zip" = none
  enumerate : G.mg "enumerate" = none
  range : G.mg "range" = none
  max : G.mg "max" = none
  min : G.mg "min" = none
  list : G.mg "list" = none
theorem bt_isinstance : bootBuiltins "isinstance" = some (.builtin "isinstance") := PyProof.Rows.boot_isinstance
theorem bt_int : bootBuiltins "int" = some (.type "int") := PyProof.Rows.boot_int
theorem bt_bool : bootBuiltins "bool" = some (.type "bool") := PyProof.Rows.boot_bool
theorem bt_str : bootBuiltins "str" = some (.type "str") := PyProof.Rows.boot_str
theorem bt_tuple : bootBuiltins "tuple" = some (.type "tuple") := PyProof.Rows.boot_tuple
theorem bt_list : bootBuiltins "list" = some (.type "list") := PyProof.Rows.boot_list
theorem bt_len : bootBuiltins "len" = some (.builtin "len") := PySem.boot_len
theorem bt_all : bootBuiltins "all" = some (.builtin "all") := PyProof.Rows.boot_all
theorem bt_any : bootBuiltins "any" = some (.builtin "any") := PyProof.Rows.boot_any
theorem bt_max : bootBuiltins "max" = some (.builtin "max") := PyProof.Rows.boot_max
theorem bt_min : bootBuiltins "min" = some (.builtin "min") := PyProof.Rows.boot_min
theorem kb_tt : kitB "tuple" "tuple" = some true := by decide +kernel
theorem kb_ss : kitB "str" "str" = some true := by decide +kernel
theorem kb_ii : kitB "int" "int" = some true := by decide +kernel
theorem kb_ib : kitB "int" "bool" = some false := by decide +kernel
section
variable {G : GC} {L : LC G} {ρ ρ1 ρ2 : Rho G} {e a b c : Expr} {es : List Expr} {p q z : PV G} {pos p1 p2 : Pos} {d d1 d2 : PyData} {ds : List PyData}
theorem e_callB1 {x : Str} {id : String} (h : CallD L (.builtin id) [p] z) (hm : G.mg x = none) (hv : bootBuiltins x = some (.builtin id)) (ha : EvD L ρ a p) (hg : Gl L.X x) (h1 : starEach [a] L.X.env = (false, eval a L.X.env) :: starEach [] L.X.env) (hn : x ≠ "__name__" := by decide) (hdb : (x == ("__debug__" : Str)) = false := by decide) :
    EvD L ρ (.Call (.Name x p1) [a] [] pos) z := e_callB h hm hv (a_cons ha a_nil h1) hg hn hdb h1 rfl
theorem e_callTy1 {x : Str} {id : String} (h : CallD L (.type id) [p] z) (hm : G.mg x = none) (hv : bootBuiltins x = some (.type id)) (ha : EvD L ρ a p) (hg : Gl L.X x) (h1 : starEach [a] L.X.env = (false, eval a L.X.env) :: starEach [] L.X.env) (hn : x ≠ "__name__" := by decide) (hdb : (x == ("__debug__" : Str)) = false := by decide) :
    EvD L ρ (.Call (.Name x p1) [a] [] pos) z := e_callTy h hm hv (a_cons ha a_nil h1) hg hn hdb h1 rfl
theorem e_callB2 {x : Str} {id : String} (h : CallD L (.builtin id) [p, q] z) (hm : G.mg x = none) (hv : bootBuiltins x = some (.builtin id)) (ha : EvD L ρ a p) (hb : EvD L ρ b q) (hg : Gl L.X x) (h1 : starEach [a, b] L.X.env = (false, eval a L.X.env) :: starEach [b] L.X.env) (h2 : starEach [b] L.X.env = (false, eval b L.X.env) :: starEach [] L.X.env)
    (hn : x ≠ "__name__" := by decide) (hdb : (x == ("__debug__" : Str)) = false := by decide) : EvD L ρ (.Call (.Name x p1) [a, b] [] pos) z := e_callB h hm hv (a_cons ha (a_cons hb a_nil h2) h1) hg hn hdb h1 (by rw [h2]; rfl)
section
variable (B : Bs G)
include B
theorem e_isT (ha : EvD L ρ a (dat (.tuple ds))) (hg : Gl L.X "isinstance" := by rfl) (hg2 : Gl L.X "tuple" := by rfl) (h1 : starEach [a, .Name "tuple" p2] L.X.env = (false, eval a L.X.env) :: starEach [.Name "tuple" p2] L.X.env := by rfl) (h2 : starEach [.Name "tuple" p2] L.X.env = (false, eval (.Name "tuple" p2) L.X.env) :: starEach [] L.X.env := by rfl) :
    EvD L ρ (.Call (.Name "isinstance" p1) [a, .Name "tuple" p2] [] pos) (dat (.bool true)) := e_callB2 (k_isi (d := .tuple ds) kb_tt) B.isinstance bt_isinstance ha (e_ty B.tuple bt_tuple hg2) hg h1 h2
theorem e_isS {x : Str} (ha : EvD L ρ a (dat (.str x))) (hg : Gl L.X "isinstance" := by rfl) (hg2 : Gl L.X "str" := by rfl) (h1 : starEach [a, .Name "str" p2] L.X.env = (false, eval a L.X.env) :: starEach [.Name "str" p2] L.X.env := by rfl) (h2 : starEach [.Name "str" p2] L.X.env = (false, eval (.Name "str" p2) L.X.env) :: starEach [] L.X.env := by rfl) :
    EvD L ρ (.Call (.Name "isinstance" p1) [a, .Name "str" p2] [] pos) (dat (.bool true)) := e_callB2 (k_isi (d := .str x) kb_ss) B.isinstance bt_isinstance ha (e_ty B.str bt_str hg2) hg h1 h2
theorem e_isI {x : Int} (ha : EvD L ρ a (dat (.int x))) (hg : Gl L.X "isinstance" := by rfl) (hg2 : Gl L.X "int" := by rfl) (h1 : starEach [a, .Name "int" p2] L.X.env = (false, eval a L.X.env) :: starEach [.Name "int" p2] L.X.env := by rfl) (h2 : starEach [.Name "int" p2] L.X.env = (false, eval (.Name "int" p2) L.X.env) :: starEach [] L.X.env := by rfl) :
    EvD L ρ (.Call (.Name "isinstance" p1) [a, .Name "int" p2] [] pos) (dat (.bool true)) := e_callB2 (k_isi (d := .int x) kb_ii) B.isinstance bt_isinstance ha (e_ty B.int bt_int hg2) hg h1 h2
theorem e_isB {x : Int} (ha : EvD L ρ a (dat (.int x))) (hg : Gl L.X "isinstance" := by rfl) (hg2 : Gl L.X "bool" := by rfl) (h1 : starEach [a, .Name "bool" p2] L.X.env = (false, eval a L.X.env) :: starEach [.Name "bool" p2] L.X.env := by rfl) (h2 : starEach [.Name "bool" p2] L.X.env = (false, eval (.Name "bool" p2) L.X.env) :: starEach [] L.X.env := by rfl) :
    EvD L ρ (.Call (.Name "isinstance" p1) [a, .Name "bool" p2] [] pos) (dat (.bool false)) := e_callB2 (k_isi (d := .int x) kb_ib) B.isinstance bt_isinstance ha (e_ty B.bool bt_bool hg2) hg h1 h2
theorem e_lenT (ha : EvD L ρ a (dat (.tuple ds))) (hg : Gl L.X "len" := by rfl) (h1 : starEach [a] L.X.env = (false, eval a L.X.env) :: starEach [] L.X.env := by rfl) : EvD L ρ (.Call (.Name "len" p1) [a] [] pos) (dat (.int ds.length)) := e_callB1 k_lenT B.len bt_len ha hg h1
theorem e_lenL (ha : EvD L ρ a (dat (.list ds))) (hg : Gl L.X "len" := by rfl) (h1 : starEach [a] L.X.env = (false, eval a L.X.env) :: starEach [] L.X.env := by rfl) : EvD L ρ (.Call (.Name "len" p1) [a] [] pos) (dat (.int ds.length)) := e_callB1 k_lenL B.len bt_len ha hg h1
theorem e_lenS {x : Str} (hl : x.length ≤ 100000) (ha : EvD L ρ a (dat (.str x))) (hg : Gl L.X "len" := by rfl) (h1 : starEach [a] L.X.env = (false, eval a L.X.env) :: starEach [] L.X.env := by rfl) : EvD L ρ (.Call (.Name "len" p1) [a] [] pos) (dat (.int x.length)) := e_callB1 (k_lenS hl) B.len bt_len ha hg h1
theorem e_all {bs : List Bool} (ha : EvD L ρ a (dat (.list (bs.map PyData.bool)))) (hg : Gl L.X "all" := by rfl) (h1 : starEach [a] L.X.env = (false, eval a L.X.env) :: starEach [] L.X.env := by rfl) : EvD L ρ (.Call (.Name "all" p1) [a] [] pos) (dat (.bool (bs.all id))) := e_callB1 k_all B.all bt_all ha hg h1
theorem e_any {bs : List Bool} (ha : EvD L ρ a (dat (.list (bs.map PyData.bool)))) (hg : Gl L.X "any" := by rfl) (h1 : starEach [a] L.X.env = (false, eval a L.X.env) :: starEach [] L.X.env := by rfl) : EvD L ρ (.Call (.Name "any" p1) [a] [] pos) (dat (.bool (bs.any id))) := e_callB1 k_any B.any bt_any ha hg h1
theorem e_tuple (ha : EvD L ρ a (dat (.list ds))) (hg : Gl L.X "tuple" := by rfl) (h1 : starEach [a] L.X.env = (false, eval a L.X.env) :: starEach [] L.X.env := by rfl) : EvD L ρ (.Call (.Name "tuple" p1) [a] [] pos) (dat (.tuple ds)) := e_callTy1 k_tupL B.tuple bt_tuple ha hg h1
theorem e_intB {t : Bool} (ha : EvD L ρ a (dat (.bool t))) (hg : Gl L.X "int" := by rfl) (h1 : starEach [a] L.X.env = (false, eval a L.X.env) :: starEach [] L.X.env := by rfl) : EvD L ρ (.Call (.Name "int" p1) [a] [] pos) (dat (.int (if t then 1 else 0))) := e_callTy1 k_intB B.int bt_int ha hg h1
theorem e_max {i j : Int} (ha : EvD L ρ a (dat (.int i))) (hb : EvD L ρ b (dat (.int j))) (hg : Gl L.X "max" := by rfl) (h1 : starEach [a, b] L.X.env = (false, eval a L.X.env) :: starEach [b] L.X.env := by rfl) (h2 : starEach [b] L.X.env = (false, eval b L.X.env) :: starEach [] L.X.env := by rfl) :
    EvD L ρ (.Call (.Name "max" p1) [a, b] [] pos) (dat (.int (if j > i then j else i))) := e_callB2 k_max B.max bt_max ha hb hg h1 h2
theorem e_min {i j : Int} (ha : EvD L ρ a (dat (.int i))) (hb : EvD L ρ b (dat (.int j))) (hg : Gl L.X "min" := by rfl) (h1 : starEach [a, b] L.X.env = (false, eval a L.X.env) :: starEach [b] L.X.env := by rfl) (h2 : starEach [b] L.X.env = (false, eval b L.X.env) :: starEach [] L.X.env := by rfl) :
    EvD L ρ (.Call (.Name "min" p1) [a, b] [] pos) (dat (.int (if j < i then j else i))) := e_callB2 k_min B.min bt_min ha hb hg h1 h2
end
theorem all_true : ∀ n : Nat, (List.replicate n true).all id = true
  | 0 => rfl
  | n + 1 => by rw [List.replicate_succ, List.all_cons, all_true n]; rfl
/-- all([..]) where each is so -/
theorem e_allT (B : Bs G) {n : Nat} (ha : EvD L ρ a (dat (.list (List.replicate n (PyData.bool true))))) (hg : Gl L.X "all" := by rfl) (h1 : starEach [a] L.X.env = (false, eval a L.X.env) :: starEach [] L.X.env := by rfl) : EvD L ρ (.Call (.Name "all" p1) [a] [] pos) (dat (.bool true)) := by
  have e : List.replicate n (PyData.bool true) = (List.replicate n true).map PyData.bool := by rw [List.map_replicate]
  rw [e] at ha
  exact EvD.cast (e_all B ha hg h1) (by rw [all_true])
theorem rep_get {n i : Nat} {g d : PyData} (h : (List.replicate n d)[i]? = some g) : g = d := by
  rw [List.getElem?_replicate] at h
  split at h
  · exact (Option.some.inj h).symm
  · cases h
end
end MR
/-! L3b: several names at once. -/
namespace MR
open PySem PySem.Spec PyProof.Rows L2
section
variable {G : GC} {L : LC G} {ρ ρ1 ρ2 : Rho G} {e a b c : Expr} {es : List Expr} {p q z : PV G} {pos : Pos} {d d1 d2 : PyData} {st : Stmt} {rest : List Stmt} {Po : Post G}
theorem pvs3 {B : Hp} {vs : List V} {r : PV G} (h : PVs B vs [p, q, r]) : ∃ v w u, vs = [v, w, u] ∧ p.p B v ∧ q.p B w ∧ r.p B u := by
  cases h with
  | cons h1 h2 =>
    obtain ⟨w, u, rfl, h3, h4⟩ := pvs2 h2
    exact ⟨_, w, u, rfl, h1, h3, h4⟩
/-- x, y = a, b : two locals -/
theorem s1_par2M (i j : Nat) {x y : Str} {px py pt : Pos} {kt k2 pt2} {Pa : List (PV G) → Rho G → Prop} (ha : EvAM L ρ [a, b] Pa) (k : ∀ ps ρ1, Pa ps ρ1 → ∃ p q, ps = [p, q] ∧ Po.nx ⟨(ρ1.sl.set i (some p)).set j (some q), ρ1.ow⟩)
    (hi : L.X.N[i]? = some x := by rfl) (hj : L.X.N[j]? = some y := by rfl) (hij : i ≠ j := by decide) (hx : L.X.env.scope.names.lookup x = some .local := by rfl) (hy : L.X.env.scope.names.lookup y = some .local := by rfl)
    (hw : swappedStores [.Tuple [.Name x px, .Name y py] kt pt] (.Tuple [a, b] k2 pt2) L.X.env = pure (some [x, y]) := by rfl) (hs : swapsWithSole [.Tuple [.Name x px, .Name y py] kt pt] (.Tuple [a, b] k2 pt2) pos.line L.X.env = pure false := by rfl) :
    S1D L ρ (.Assign [.Tuple [.Name x px, .Name y py] kt pt] (.Tuple [a, b] k2 pt2) pos) Po := .mk fun A B0 B σ H D E S pins s I => by
  have h1 := slot_lt I hi
  have h2 := slot_lt I hj
  refine (ps_par L.calm L.nd hi hj hij hx hy (WA.pa _ _) hw hs).run pins s σ H D I (ha A B0 B σ H _ E fun ps ρ1 w vs B' H' x' E' y' => ?_)
  obtain ⟨p, q, e, w2⟩ := k ps ρ1 w
  subst e
  obtain ⟨v, u, rfl, hv, hu⟩ := pvs2 y'
  refine ⟨v, u, rfl, S.nx _ w2 B' _ H' ?_⟩
  have E1 := E'.set (i := i) (by rw [E'.ln]; exact h1) hv
  exact E1.set (i := j) (by rw [E1.ln]; simpa using h2) hu
theorem s1_par2 (i j : Nat) {x y : Str} {px py pt : Pos} {kt k2 pt2} (ha : EvD L ρ a p) (hb : EvD L ρ b q) (k : Po.nx ⟨(ρ.sl.set i (some p)).set j (some q), ρ.ow⟩)
    (hi : L.X.N[i]? = some x := by rfl) (hj : L.X.N[j]? = some y := by rfl) (hij : i ≠ j := by decide) (hx : L.X.env.scope.names.lookup x = some .local := by rfl) (hy : L.X.env.scope.names.lookup y = some .local := by rfl)
    (hw : swappedStores [.Tuple [.Name x px, .Name y py] kt pt] (.Tuple [a, b] k2 pt2) L.X.env = pure (some [x, y]) := by rfl) (hs : swapsWithSole [.Tuple [.Name x px, .Name y py] kt pt] (.Tuple [a, b] k2 pt2) pos.line L.X.env = pure false := by rfl)
    (h1 : starEach [a, b] L.X.env = (false, eval a L.X.env) :: starEach [b] L.X.env := by rfl) (h2 : starEach [b] L.X.env = (false, eval b L.X.env) :: starEach [] L.X.env := by rfl) :
    S1D L ρ (.Assign [.Tuple [.Name x px, .Name y py] kt pt] (.Tuple [a, b] k2 pt2) pos) Po :=
  s1_par2M i j (a_cons ha (a_cons hb a_nil h2) h1) (fun ps ρ1 w => ⟨p, q, w.1, by rw [w.2]; exact k⟩) hi hj hij hx hy hw hs
/-- x, y, z = a, b, c : three locals -/
theorem s1_par3M (i j l : Nat) {x y z : Str} {px py pz pt : Pos} {kt k2 pt2} {Pa : List (PV G) → Rho G → Prop} (ha : EvAM L ρ [a, b, c] Pa) (k : ∀ ps ρ1, Pa ps ρ1 → ∃ p q r, ps = [p, q, r] ∧ Po.nx ⟨((ρ1.sl.set i (some p)).set j (some q)).set l (some r), ρ1.ow⟩)
    (hi : L.X.N[i]? = some x := by rfl) (hj : L.X.N[j]? = some y := by rfl) (hl : L.X.N[l]? = some z := by rfl) (hij : i ≠ j := by decide) (hil : i ≠ l := by decide) (hjl : j ≠ l := by decide) (hx : L.X.env.scope.names.lookup x = some .local := by rfl) (hy : L.X.env.scope.names.lookup y = some .local := by rfl) (hz : L.X.env.scope.names.lookup z = some .local := by rfl)
    (hw : swappedStores [.Tuple [.Name x px, .Name y py, .Name z pz] kt pt] (.Tuple [a, b, c] k2 pt2) L.X.env = pure (some [x, y, z]) := by rfl) (hs : swapsWithSole [.Tuple [.Name x px, .Name y py, .Name z pz] kt pt] (.Tuple [a, b, c] k2 pt2) pos.line L.X.env = pure false := by rfl) :
    S1D L ρ (.Assign [.Tuple [.Name x px, .Name y py, .Name z pz] kt pt] (.Tuple [a, b, c] k2 pt2) pos) Po := .mk fun A B0 B σ H D E S pins s I => by
  have h1 := slot_lt I hi
  have h2 := slot_lt I hj
  have h3 := slot_lt I hl
  refine (ps_par3 L.calm L.nd hi hj hl hij hil hjl hx hy hz (WA.pa _ _) hw hs).run pins s σ H D I (ha A B0 B σ H _ E fun ps ρ1 w vs B' H' x' E' y' => ?_)
  obtain ⟨p, q, r, e, w2⟩ := k ps ρ1 w
  subst e
  obtain ⟨v, u, t, rfl, hv, hu, ht⟩ := pvs3 y'
  refine ⟨v, u, t, rfl, S.nx _ w2 B' _ H' ?_⟩
  have E1 := E'.set (i := i) (by rw [E'.ln]; exact h1) hv
  have E2 := E1.set (i := j) (by rw [E1.ln]; simpa using h2) hu
  exact E2.set (i := l) (by rw [E2.ln]; simpa using h3) ht
end
end MR
/-! L7a: dicts, at the machine's level. -/
namespace MR
open PySem PySem.Spec PyProof.Rows L2

/-! ### plain facts -/
theorem dget_nil {k : PyData} : dget [] k = none := rfl
theorem dget_pos {q : PyData × PyData} {l : List (PyData × PyData)} {k : PyData} (h : nk q.1 = nk k) : dget (q :: l) k = some q.2 := by simp [dget, List.find?_cons, h]
theorem dget_neg {q : PyData × PyData} {l : List (PyData × PyData)} {k : PyData} (h : ¬ nk q.1 = nk k) : dget (q :: l) k = dget l k := by simp [dget, List.find?_cons, h]
theorem dget_some_mem : ∀ {l : List (PyData × PyData)} {k d : PyData}, dget l k = some d → ∃ k', (k', d) ∈ l ∧ nk k' = nk k
  | [], _, _, h => by cases h
  | q :: l, k, d, h => by
    by_cases e : nk q.1 = nk k
    · rw [dget_pos e] at h
      cases h
      exact ⟨q.1, List.mem_cons_self, e⟩
    · rw [dget_neg e] at h
      obtain ⟨k', h1, h2⟩ := dget_some_mem h
      exact ⟨k', List.mem_cons_of_mem _ h1, h2⟩
theorem dget_none {l : List (PyData × PyData)} {k : PyData} (h : dget l k = none) : nk k ∉ l.map fun q => nk q.1 := by
  induction l with
  | nil => simp
  | cons q l ih =>
    by_cases e : nk q.1 = nk k
    · rw [dget_pos e] at h; cases h
    · rw [dget_neg e] at h
      simp only [List.map_cons, List.mem_cons, not_or]
      exact ⟨fun z => e z.symm, ih h⟩
theorem dput_len (l : List (PyData × PyData)) (k v : PyData) : (dput l k v).length ≤ l.length + 1 := by
  unfold dput
  split
  · rw [List.length_map]; omega
  · simp
theorem dput_keys_old {l : List (PyData × PyData)} {k v : PyData} (h : (dget l k).isSome = true) : (dput l k v).map (fun q => nk q.1) = l.map fun q => nk q.1 := by
  unfold dput
  rw [if_pos h, List.map_map]
  refine List.map_congr_left fun q _ => ?_
  show nk (if nk q.1 = nk k then (q.1, v) else q).1 = nk q.1
  split <;> rfl
theorem dput_nodup {l : List (PyData × PyData)} {k v : PyData} (h : (l.map fun q => nk q.1).Nodup) : ((dput l k v).map fun q => nk q.1).Nodup := by
  by_cases e : (dget l k).isSome = true
  · rw [dput_keys_old e]; exact h
  · unfold dput
    rw [if_neg e, List.map_append]
    have hn : dget l k = none := by
      cases q : dget l k with
      | none => rfl
      | some x => rw [q] at e; exact (e rfl).elim
    refine List.nodup_append.mpr ⟨h, by simp, fun a ha b hb => ?_⟩
    have hb : b = nk k := by simpa using hb
    subst hb
    intro z
    subst z
    exact dget_none hn ha
/-- a key of the one kind, of the other -/
def KeyOk (t : Bool) (d : PyData) : Prop := keyable d = true ∧ (t = false → ∃ i, d = .int i) ∧ (t = true → (∃ ds, d = .tuple ds) ∧ (nk d).depth ≤ 8)

section
variable {X : Cx} {pins : List (Addr × Obj)} {σ : L2.St} {H B : Hp} {s : Shared} {a : Addr}
mutual
theorem dp_nested (I : Inv X pins σ H s) : ∀ (d : PyData) (v : V) (u : Value), keyable d = true → Dp X.K H v d → RelV v u → NestedIs s.heap (nk d) u
  | .none, v, u, _, h, r => by
    cases h
    obtain rfl : u = .none := r
    exact .none
  | .bool b, v, u, _, h, r => by
    cases h
    obtain rfl : u = .bool b := r
    exact .bool rfl
  | .int i, v, u, _, h, r => by
    cases h
    obtain ⟨t, rfl⟩ := r
    exact .int i t
  | .str x, v, u, _, h, r => by
    cases h
    obtain ⟨t, rfl⟩ := r
    exact .text x t
  | .list _, _, _, h, _, _ => by cases h
  | .dict _, _, _, h, _, _ => by cases h
  | .tuple ds, v, u, h, hd, r => by
    obtain ⟨a, xs, rfl, hs, ha⟩ := dp_tup hd
    obtain rfl : u = .ref a := r
    obtain ⟨its, rr, ⟨o, ho, hc, n, hdd⟩, hz⟩ := I.tuple hs
    exact .tup ho hc hdd (by simpa using dpa_nested I ds xs its h ha rr)
theorem dpa_nested (I : Inv X pins σ H s) : ∀ (ds : List PyData) (vs : List V) (us : List Value), keyables ds = true → DpAll X.K H vs ds → Vals vs us → NestedAll s.heap (nks ds) us
  | [], _, _, _, h, r => by
    cases h
    cases r
    exact .nil
  | d :: ds, _, _, hk, h, r => by
    cases h with
    | cons h1 h2 =>
      cases r with
      | cons r1 r2 =>
        have hk : (keyable d && keyables ds) = true := hk
        rw [Bool.and_eq_true] at hk
        exact .cons (dp_nested I d _ _ hk.1 h1 r1) (dpa_nested I ds _ _ hk.2 h2 r2)
end
theorem key_is (I : Inv X pins σ H s) {d : PyData} {b : Addr} (hk : keyable d = true) (hd : (nk d).depth ≤ 8) (h : Dp X.K H (.ref b) d) : (nestedKind X.prog X.w).is s.heap (nk d) b := ⟨dp_nested I d _ _ hk h rfl, hd⟩

/-! ### a dict with keys that are tuples -/
abbrev RelE : NestedKey × Addr × V → NestedKey × Addr × Value → Prop := fun x y => x.1 = y.1 ∧ x.2.1 = y.2.1 ∧ RelV x.2.2 y.2.2
abbrev EntV (K : PySem.W.Frag) (B : Hp) : NestedKey × Addr × Value → PyData × PyData → Prop := fun y q => ∃ x, RelE x y ∧ EntN K B x q
theorem paired3 {α β γ : Type} {F : α → β → Prop} {F' : α → γ → Prop} : ∀ {l : List α} {m : List β} {n : List γ}, Paired F l m → Paired F' l n → Paired (fun y z => ∃ x, F x y ∧ F' x z) m n
  | _, _, _, .nil, .nil => .nil
  | _, _, _, .cons h1 t1, .cons h2 t2 => .cons ⟨_, h1, h2⟩ (paired3 t1 t2)
theorem dn_at (I : Inv X pins σ H s) {xs : List (NestedKey × Addr × V)} {kvs : List (PyData × PyData)} (e : H a = some (dN X.prog X.w a xs)) (p : Paired (EntN X.K H) xs kvs) (nd : (kvs.map fun q => nk q.1).Nodup) :
    ∃ ys, Paired RelE xs ys ∧ s.heap.DictOfH (nestedKind X.prog X.w) a ys := by
  obtain ⟨ys, py, o, es, ep, h1, h2, h3, h4⟩ := (show ObjOk X.prog X.w H s.heap a (dN X.prog X.w a xs) from I.hok a _ e).1
  have key : ∀ {xs : List (NestedKey × Addr × V)} {ys : List (NestedKey × Addr × Value)} {kvs : List (PyData × PyData)}, Paired RelE xs ys → Paired (EntN X.K H) xs kvs → (∀ y ∈ ys, (nestedKind X.prog X.w).is s.heap y.1 y.2.1) ∧ ys.map (·.1) = kvs.map fun q => nk q.1 := by
    intro xs ys kvs py
    induction py generalizing kvs with
    | nil => intro h; cases h; exact ⟨fun y hy => (nomatch hy), rfl⟩
    | cons r _ ih =>
      intro h
      cases h with
      | cons h t =>
        obtain ⟨i1, i2⟩ := ih t
        obtain ⟨_, q2, q3, q4, q5, _⟩ := h
        refine ⟨fun y hy => ?_, ?_⟩
        · rcases List.mem_cons.mp hy with e | hy
          · subst e
            rw [← r.1, ← r.2.1, q2]
            exact key_is I q4 (by rw [← q2]; exact q3) q5
          · exact i1 y hy
        · rw [List.map_cons, List.map_cons, i2, ← r.1, q2]
  obtain ⟨k1, k2⟩ := key py p
  exact ⟨ys, py, o, es, ep, h1, h2, h3, h4, k1, by rw [k2]; exact nd⟩
theorem dn_ok {P : Program} {w : World} {H' : Hp} {h' : Heap} {xs : List (NestedKey × Addr × V)} {ys : List (NestedKey × Addr × Value)} (p : Paired RelE xs ys) (h : h'.DictOfH (nestedKind P w) a ys) : ObjOk P w H' h' a (dN P w a xs) := by
  obtain ⟨o, es, ep, h1, h2, h3, h4, _⟩ := h
  refine ⟨⟨ys, p, o, es, ep, h1, h2, h3, h4⟩, ⟨o, h1⟩, fun g1 g2 ⟨ys, py, o, es, ep, k1, k2, k3, k4⟩ hk => ⟨ys, py, o, es, ep, hk o k1, k2, k3, k4⟩⟩
theorem dn_get {K : PySem.W.Frag} {ys : List (NestedKey × Addr × Value)} {kvs : List (PyData × PyData)} (p : Paired (EntV K B) ys kvs) (k : PyData) :
    (∃ q d v, atKey ys (nk k) = some q ∧ dget kvs k = some d ∧ RelV v q.2 ∧ Dp K B v d) ∨ (atKey ys (nk k) = none ∧ dget kvs k = none) := by
  induction p with
  | nil => exact .inr ⟨rfl, rfl⟩
  | @cons y q ys kvs h _ ih =>
    obtain ⟨x, ⟨r1, r2, r3⟩, _, q2, _, _, _, q6⟩ := h
    by_cases e : nk q.1 = nk k
    · refine .inl ⟨y.2, q.2, x.2.2, ?_, dget_pos e, r3, q6⟩
      have e' : y.1 = nk k := by rw [← r1, q2, e]
      simp [atKey, List.find?_cons, e']
    · have e' : ¬ y.1 = nk k := fun z => e (by rw [← q2, r1, z])
      rw [dget_neg e]
      have : atKey (y :: ys) (nk k) = atKey ys (nk k) := by simp [atKey, List.find?_cons, e']
      rw [this]
      exact ih
/-- xs behind d[k] = v -/
def storeX (xs : List (NestedKey × Addr × V)) (t : Bool) (k : NestedKey) (b : Addr) (v : V) : List (NestedKey × Addr × V) := if t = true then xs.map fun x => if x.1 = k then (x.1, x.2.1, v) else x else xs ++ [(k, b, v)]
theorem paired_map {α β α' β' : Type} {F : α → β → Prop} {F' : α' → β' → Prop} {f : α → α'} {g : β → β'} (h : ∀ x q, F x q → F' (f x) (g q)) : ∀ {l : List α} {m : List β}, Paired F l m → Paired F' (l.map f) (m.map g)
  | _, _, .nil => .nil
  | _, _, .cons a t => .cons (h _ _ a) (paired_map h t)
theorem storeX_rel {xs : List (NestedKey × Addr × V)} {ys : List (NestedKey × Addr × Value)} {k : NestedKey} {b : Addr} {v : V} {u : Value} (p : Paired RelE xs ys) (r : RelV v u) : Paired RelE (storeX xs (atKey ys k).isSome k b v) (storedH ys k b u) := by
  unfold storeX storedH
  split
  · refine paired_map (fun x y h => ?_) p
    · unfold putAt
      by_cases e : x.1 = k
      · rw [if_pos e, if_pos (by rw [← h.1]; exact e)]
        exact ⟨h.1, h.2.1, r⟩
      · rw [if_neg e, if_neg (by rw [← h.1]; exact e)]
        exact h
  · exact Paired.snoc p ⟨rfl, rfl, r⟩
theorem storeX_ent {K : PySem.W.Frag} {xs : List (NestedKey × Addr × V)} {kvs : List (PyData × PyData)} {k dv : PyData} {b : Addr} {v : V} (p : Paired (EntN K B) xs kvs) (hk : KeyOk true k) (hb : Dp K B (.ref b) k) (hv : Dp K B v dv) : Paired (EntN K B) (storeX xs (dget kvs k).isSome (nk k) b v) (dput kvs k dv) := by
  unfold storeX dput
  split
  · refine paired_map (fun x q h => ?_) p
    · obtain ⟨h1, h2, h3, h4, h5, h6⟩ := h
      by_cases e : x.1 = nk k
      · rw [if_pos e, if_pos (by rw [← h2]; exact e)]
        exact ⟨h1, h2, h3, h4, h5, hv⟩
      · rw [if_neg e, if_neg (by rw [← h2]; exact e)]
        exact ⟨h1, h2, h3, h4, h5, h6⟩
  · exact Paired.snoc p ⟨(hk.2.2 rfl).1, rfl, (hk.2.2 rfl).2, hk.1, hb, hv⟩
/-! ### a dict with int keys -/
theorem dk_get {K : PySem.W.Frag} {ks : List (Key × V)} {kvs : List (PyData × PyData)} (p : Paired (EntK K B) ks kvs) (i : Int) :
    (∃ v d, valV ks (Sum.inl i) = some v ∧ dget kvs (.int i) = some d ∧ Dp K B v d) ∨ (valV ks (Sum.inl i) = none ∧ dget kvs (.int i) = none) := by
  induction p with
  | nil => exact .inr ⟨rfl, rfl⟩
  | @cons x q ks kvs h _ ih =>
    obtain ⟨j, h1, h2, h3⟩ := h
    by_cases e : j = i
    · subst e
      exact .inl ⟨x.2, q.2, valV_pos h1, dget_pos (by rw [h2]), h3⟩
    · have e1 : ¬ x.1 = Sum.inl i := fun z => e (by rw [h1] at z; exact Sum.inl.inj z)
      have e2 : ¬ nk q.1 = nk (.int i) := fun z => e (by rw [h2] at z; exact NestedKey.num.inj z)
      rw [valV_neg e1, dget_neg e2]
      exact ih
theorem dk_put {K : PySem.W.Frag} {ks : List (Key × V)} {kvs : List (PyData × PyData)} {i : Int} {v : V} {dv : PyData} (p : Paired (EntK K B) ks kvs) (hv : Dp K B v dv) : Paired (EntK K B) (putK ks (Sum.inl i) v) (dput kvs (.int i) dv) := by
  have e : (ks.any fun kv => decide (kv.1 = Sum.inl i)) = (dget kvs (.int i)).isSome := by
    rw [valV_any]
    rcases dk_get p i with ⟨v, d, h1, h2, _⟩ | ⟨h1, h2⟩ <;> rw [h1, h2] <;> rfl
  unfold putK dput
  rw [e]
  split
  · refine paired_map (fun x q h => ?_) p
    · obtain ⟨j, h1, h2, h3⟩ := h
      by_cases e : j = i
      · subst e
        rw [if_pos h1, if_pos (by rw [h2])]
        exact ⟨j, h1, h2, hv⟩
      · rw [if_neg (fun z => e (by rw [h1] at z; exact Sum.inl.inj z)), if_neg (fun z => e (by rw [h2] at z; exact NestedKey.num.inj z))]
        exact ⟨j, h1, h2, h3⟩
  · exact Paired.snoc p ⟨i, rfl, rfl, hv⟩

/-! ### the steps -/
variable {A : Around} {E : Value → Shared → Prop} {t : Bool} {kvs : List (PyData × PyData)} {k dv : PyData} {x v : V} {u r : Value}
abbrev DctAt (X : Cx) (B H : Hp) (a : Addr) (t : Bool) (kvs : List (PyData × PyData)) : Prop := ∃ o, H a = some o ∧ DctO X.prog X.w X.K B a t kvs o
theorem key_ref (I : Inv X pins σ H s) (hk : KeyOk true k) (hx : Dp X.K H x k) (rx : RelV x u) : ∃ b, x = .ref b ∧ u = .ref b ∧ (nestedKind X.prog X.w).is s.heap (nk k) b := by
  obtain ⟨⟨ds, rfl⟩, hd⟩ := hk.2.2 rfl
  obtain ⟨b, xs, rfl, h1, h2⟩ := dp_tup hx
  obtain rfl : u = .ref b := rx
  exact ⟨b, rfl, rfl, key_is I hk.1 hd hx⟩
theorem key_int (hk : KeyOk false k) (hx : Dp X.K H x k) : ∃ i, k = .int i ∧ x = kV (Sum.inl i) := by
  obtain ⟨i, rfl⟩ := hk.2.1 rfl
  exact ⟨i, rfl, dp_int hx⟩
theorem nroom (hu : A.units + 64 < cLine) : (nestedKind X.prog X.w).room A.in1 := by
  show A.units + 1 + 8 < cLine
  omega
theorem dct_type (I : Inv X pins σ H s) (C : DctAt X B H a t kvs) : s.TypeIs (.ref a) "dict" ∧ (∀ b, Value.ref a = .ref b → ∃ ob, s.heap.get? b = some ob ∧ ob.dict = none) := by
  obtain ⟨o, e, h1, h2, h3, h4⟩ := C
  rcases h4 with ⟨rfl, ks, rfl, p⟩ | ⟨rfl, xs, rfl, p⟩
  · obtain ⟨_, _, vs, _, ob, _, _, q1, q2, _⟩ := dk_of I.hok e
    refine ⟨⟨ob, q1, q2.1⟩, fun b z => ?_⟩
    cases z
    exact ⟨ob, q1, q2.2.1⟩
  · obtain ⟨ys, py, ob, es, ep, q1, q2, _⟩ := (show ObjOk X.prog X.w H s.heap a (dN X.prog X.w a xs) from I.hok a _ e).1
    refine ⟨⟨ob, q1, q2.1⟩, fun b z => ?_⟩
    cases z
    exact ⟨ob, q1, q2.2.1⟩
theorem dct_in {Q : Value → Shared → Prop} (hu : A.units + 64 < cLine) (I : Inv X pins σ H s) (bh : Ext B H) (C : DctAt X B H a t kvs) (hk : KeyOk t k) (hx : Dp X.K H x k) (rx : RelV x u) (h : ∀ s', Inv X pins σ H s' → Q (.bool (dget kvs k).isSome) s') :
    wpAny (model X.prog X.w) A (compareOp .In u (.ref a)) Q E s := by
  obtain ⟨o, e, h1, h2, h3, h4⟩ := C
  rcases h4 with ⟨rfl, ks, rfl, p⟩ | ⟨rfl, xs, rfl, p⟩
  · obtain ⟨i, rfl, rfl⟩ := key_int hk hx
    refine d_in (by omega) I (DGet.k e) rx fun s' I' => ?_
    have e2 : (valV ks (Sum.inl i)).isSome = (dget kvs (.int i)).isSome := by rcases dk_get p i with ⟨v, d, h1, h2, _⟩ | ⟨h1, h2⟩ <;> rw [h1, h2] <;> rfl
    rw [e2]
    exact h s' I'
  · obtain ⟨b, rfl, rfl, hb⟩ := key_ref I hk hx rx
    obtain ⟨ys, py, dd⟩ := dn_at I e (pair_mono (fun _ _ z => z.mono bh) p) h2
    refine wpAny_in_heap (nroom hu) hb h3 dd ?_
    have e2 : (atKey ys (nk k)).isSome = (dget kvs k).isSome := by rcases dn_get (paired3 py p) k with ⟨q, d, v, h1, h2, _⟩ | ⟨h1, h2⟩ <;> rw [h1, h2] <;> rfl
    rw [e2]
    exact h _ (I.tok _)
theorem dct_nin {Q : Value → Shared → Prop} (hu : A.units + 64 < cLine) (I : Inv X pins σ H s) (bh : Ext B H) (C : DctAt X B H a t kvs) (hk : KeyOk t k) (hx : Dp X.K H x k) (rx : RelV x u) (h : ∀ s', Inv X pins σ H s' → Q (.bool (!(dget kvs k).isSome)) s') :
    wpAny (model X.prog X.w) A (compareOp .NotIn u (.ref a)) Q E s := by
  obtain ⟨o, e, h1, h2, h3, h4⟩ := C
  rcases h4 with ⟨rfl, ks, rfl, p⟩ | ⟨rfl, xs, rfl, p⟩
  · obtain ⟨i, rfl, rfl⟩ := key_int hk hx
    refine d_notIn (by omega) I (DGet.k e) rx fun s' I' => ?_
    have e2 : (valV ks (Sum.inl i)).isSome = (dget kvs (.int i)).isSome := by rcases dk_get p i with ⟨v, d, h1, h2, _⟩ | ⟨h1, h2⟩ <;> rw [h1, h2] <;> rfl
    rw [e2]
    exact h s' I'
  · obtain ⟨b, rfl, rfl, hb⟩ := key_ref I hk hx rx
    obtain ⟨ys, py, dd⟩ := dn_at I e (pair_mono (fun _ _ z => z.mono bh) p) h2
    show wpAny _ _ (do return .bool (!(← contains (.ref a) (.ref b)))) Q E s
    refine wpAny_bind (wpAny_contains_heap (nroom hu) hb h3 dd (wpAny_pure ?_))
    have e2 : (atKey ys (nk k)).isSome = (dget kvs k).isSome := by rcases dn_get (paired3 py p) k with ⟨q, d, v, h1, h2, _⟩ | ⟨h1, h2⟩ <;> rw [h1, h2] <;> rfl
    rw [e2]
    exact h _ (I.tok _)
theorem dct_get {Q : Value → Shared → Prop} {d : PyData} (hu : A.units + 64 < cLine) (I : Inv X pins σ H s) (bh : Ext B H) (C : DctAt X B H a t kvs) (hk : KeyOk t k) (hx : Dp X.K H x k) (rx : RelV x u) (hd : dget kvs k = some d) (h : ∀ v w' s', Inv X pins σ H s' → RelV v w' → Dp X.K B v d → Q w' s') :
    wpAny (model X.prog X.w) A (getItem (.ref a) u) Q E s := by
  obtain ⟨o, e, h1, h2, h3, h4⟩ := C
  rcases h4 with ⟨rfl, ks, rfl, p⟩ | ⟨rfl, xs, rfl, p⟩
  · obtain ⟨i, rfl, rfl⟩ := key_int hk hx
    rcases dk_get p i with ⟨v, d', q1, q2, q3⟩ | ⟨_, q2⟩
    · rw [hd] at q2
      cases q2
      refine d_getItem (v := v) (by omega) I (by rw [← q1]; exact DGet.k e) rx fun w' s' I' rw' => h v w' s' I' rw' q3
    · rw [hd] at q2; cases q2
  · obtain ⟨b, rfl, rfl, hb⟩ := key_ref I hk hx rx
    obtain ⟨ys, py, dd⟩ := dn_at I e (pair_mono (fun _ _ z => z.mono bh) p) h2
    rcases dn_get (paired3 py p) k with ⟨q, d', v, q1, q2, q3, q4⟩ | ⟨_, q2⟩
    · rw [hd] at q2
      cases q2
      exact wpAny_getItem_heap (nroom hu) hb dd q1 (h v _ _ (I.tok _) q3 q4)
    · rw [hd] at q2; cases q2
/-- d[k] = v -/
theorem dct_set {Q : Unit → Shared → Prop} (hu : A.units + 64 < cLine) (I : Inv X pins σ H s) (bh : Ext B H) (C : DctAt X B H a t kvs) (hk : KeyOk t k) (hx : Dp X.K B x k) (rx : RelV x u) (hv : Dp X.K B v dv) (rv : RelV v r) (hl : kvs.length < sizeLine)
    (h : ∀ o s', DctO X.prog X.w X.K B a t (dput kvs k dv) o → Inv X pins σ (upd H a o) s' → Q () s') : wpAny (model X.prog X.w) A (setItem (.ref a) u r) Q E s := by
  obtain ⟨o, e, h1, h2, h3, h4⟩ := C
  have hl2 : (dput kvs k dv).length ≤ sizeLine := by have := dput_len kvs k dv; omega
  rcases h4 with ⟨rfl, ks, rfl, p⟩ | ⟨rfl, xs, rfl, p⟩
  · obtain ⟨i, rfl, rfl⟩ := key_int hk hx
    have lk := Paired.length p
    exact d_setItem (by omega) I (DPut.k e (by omega)) rx rv fun s' I' => h _ s' ⟨hl2, dput_nodup h2, h3, .inl ⟨rfl, _, rfl, dk_put p hv⟩⟩ I'
  · have hx' := dp_mono bh _ _ hx
    obtain ⟨b, rfl, rfl, hb⟩ := key_ref I hk hx' rx
    obtain ⟨ys, py, dd⟩ := dn_at I e (pair_mono (fun _ _ z => z.mono bh) p) h2
    have l1 := Paired.length p
    have l2 := Paired.length py
    refine wpAny_setItem_heap (hsz := by omega) (nroom hu) hb dd fun h' dd' hs => ?_
    have e2 : (atKey ys (nk k)).isSome = (dget kvs k).isSome := by rcases dn_get (paired3 py p) k with ⟨q, d, v, h1, h2, _⟩ | ⟨h1, h2⟩ <;> rw [h1, h2] <;> rfl
    have z := storeX_rel (k := nk k) (b := b) py rv
    rw [e2] at z
    have he : ∃ q, h'.get? a = some q := let ⟨q, _, _, hq, _⟩ := dd'; ⟨q, hq⟩
    exact h _ _ ⟨hl2, dput_nodup h2, h3, .inr ⟨rfl, _, rfl, storeX_ent p hk hx hv⟩⟩ (d_write I (by rw [e]; exact True.intro) hs he (dn_ok z dd'))
/-- d.setdefault(k, v) -/
theorem dct_setd {Q : Value → Shared → Prop} (hu : A.units + 64 < cLine) (I : Inv X pins σ H s) (bh : Ext B H) (C : DctAt X B H a t kvs) (hk : KeyOk t k) (hx : Dp X.K B x k) (rx : RelV x u) (hv : Dp X.K B v dv) (rv : RelV v r) (hl : kvs.length < sizeLine)
    (h1 : ∀ d, dget kvs k = some d → ∀ v' w' s', Inv X pins σ H s' → RelV v' w' → Dp X.K B v' d → Q w' s')
    (h2 : dget kvs k = none → ∀ o s', DctO X.prog X.w X.K B a t (kvs ++ [(k, dv)]) o → Inv X pins σ (upd H a o) s' → Q r s') : wpAny (model X.prog X.w) A (call (.builtin "dict.setdefault") [.ref a, u, r]) Q E s := by
  obtain ⟨o, e, k1, k2, k3, k4⟩ := C
  have hl2 : (dput kvs k dv).length ≤ sizeLine := by have := dput_len kvs k dv; omega
  have dp2 : dget kvs k = none → dput kvs k dv = kvs ++ [(k, dv)] := fun q => by unfold dput; rw [q]; rfl
  rcases k4 with ⟨rfl, ks, rfl, p⟩ | ⟨rfl, xs, rfl, p⟩
  · obtain ⟨i, rfl, rfl⟩ := key_int hk hx
    have lk := Paired.length p
    obtain ⟨z, hd, vs, rel, dd⟩ := dk_of I.hok e
    have hz : vs.length ≤ sizeLine := by
      rw [← rel.length]
      exact z
    refine call_meetsIn PySem.F.slot_dict_setdefault dd.typeIs PySem.F.entry_dict_setdefault (PySem.F.args_dict_setdefault_3 _ _ _) (kt_meets_setdefault (mixKind X.prog X.w) a (kV_is rx) hd r) ⟨vs, dd, hz, fun w hw => ?_, fun hn h' dd' hs => ?_⟩
    · have q := rel.val (Sum.inl i)
      rw [hw] at q
      rcases dk_get p i with ⟨v0, d, q1, q2, q3⟩ | ⟨q1, q2⟩
      · rw [q1] at q
        exact h1 d q2 v0 w _ (I.tok _) q q3
      · rw [q1] at q
        exact (show False from q).elim
    · have q := rel.val (Sum.inl i)
      rw [hn] at q
      rcases dk_get p i with ⟨v0, d, q1, q2, q3⟩ | ⟨q1, q2⟩
      · rw [q1] at q
        exact (show False from q).elim
      · have hl3 : (putK ks (Sum.inl i) v).length ≤ sizeLine := by
          have := length_putK ks (Sum.inl i) v
          omega
        have he : ∃ q, h'.get? a = some q := let ⟨q, _, _, hq, _⟩ := dd'; ⟨q, hq⟩
        exact h2 q2 _ _ (by rw [← dp2 q2]; exact ⟨hl2, dput_nodup k2, k3, .inl ⟨rfl, _, rfl, dk_put p hv⟩⟩) (d_write (t' := s.toks + 1) I (by rw [e]; exact True.intro) hs he (dk_new hl3 hd (rel.put (Sum.inl i) rv) dd'))
  · have hx' := dp_mono bh _ _ hx
    obtain ⟨b, rfl, rfl, hb⟩ := key_ref I hk hx' rx
    obtain ⟨ys, py, dd⟩ := dn_at I e (pair_mono (fun _ _ z => z.mono bh) p) k2
    have l1 := Paired.length p
    have l2 := Paired.length py
    have z := storeX_rel (k := nk k) (b := b) py rv
    refine call_setdefault_heap (hsz := by omega) (nroom hu) hb k3 dd (fun q hq => ?_) fun hn h' dd' hs => ?_
    · rcases dn_get (paired3 py p) k with ⟨q', d, v', q1, q2, q3, q4⟩ | ⟨q1, _⟩
      · rw [hq] at q1
        cases q1
        exact h1 d q2 v' _ _ (I.tok _) q3 q4
      · rw [hq] at q1; cases q1
    · rcases dn_get (paired3 py p) k with ⟨q', d, v', q1, q2, q3, q4⟩ | ⟨_, q2⟩
      · rw [hn] at q1; cases q1
      · have he : ∃ q, h'.get? a = some q := let ⟨q, _, _, hq, _⟩ := dd'; ⟨q, hq⟩
        have e2 : (atKey ys (nk k)).isSome = (dget kvs k).isSome := by rw [hn, q2] <;> rfl
        rw [e2] at z
        exact h2 q2 _ _ (by rw [← dp2 q2]; exact ⟨hl2, dput_nodup k2, k3, .inr ⟨rfl, _, rfl, storeX_ent p hk hx hv⟩⟩) (d_write I (by rw [e]; exact True.intro) hs he (dn_ok z dd'))
/-- len(d) -/
theorem dct_len {Q : Value → Shared → Prop} (I : Inv X pins σ H s) (bh : Ext B H) (C : DctAt X B H a t kvs) (h : ∀ tk s', Inv X pins σ H s' → Q (.int kvs.length tk) s') : wpAny (model X.prog X.w) A (call (.builtin "len") [.ref a]) Q E s := by
  obtain ⟨o, e, h1, h2, h3, h4⟩ := C
  rcases h4 with ⟨rfl, ks, rfl, p⟩ | ⟨rfl, xs, rfl, p⟩
  · refine d_len I (.inl e) fun tk s' I' => ?_
    rw [Paired.length p]
    exact h tk s' I'
  · obtain ⟨ys, py, dd⟩ := dn_at I e (pair_mono (fun _ _ z => z.mono bh) p) h2
    have l : ys.length = kvs.length := by rw [← Paired.length p, Paired.length py]
    refine call_len_dictH h3 dd (by rw [l]; rw [sizeLine_eq] at h1; omega) ?_
    rw [l]
    exact h _ _ (I.tok _)
/-- an empty dict -/
theorem dct_new {P : Program} {w : World} {H : Hp} {K : PySem.W.Frag} (h : Heap) (hb : sysModules < h.objs.size) (t : Bool) : ∃ o, ObjOk P w H (h.push { cls := .type "dict", data := .dict #[] }) h.objs.size o ∧ DctO P w K B h.objs.size t [] o := by
  have ne : (h.objs.size == sysModules) = false := beq_eq_false_iff_ne.mpr (Ne.symm (Nat.ne_of_lt hb))
  cases t with
  | false => exact ⟨.dK [], dk_empty h hb, Nat.zero_le _, List.nodup_nil, ne, .inl ⟨rfl, [], rfl, .nil⟩⟩
  | true => exact ⟨dN P w h.objs.size [], dn_ok .nil (Heap.DictOfH.new h), Nat.zero_le _, List.nodup_nil, ne, .inr ⟨rfl, [], rfl, .nil⟩⟩
end
end MR
/-! L7b: dicts and owned containers, as rules. -/
namespace MR
open PySem PySem.Spec PyProof.Rows L2
section
variable {X : Cx} {pins : List (Addr × Obj)} {σ : L2.St} {H B : Hp} {s : Shared} {a : Addr} {A : Around} {E : Value → Shared → Prop} {t : Bool} {kvs : List (PyData × PyData)} {k dv : PyData} {x v : V} {u r : Value}
/-! ### operations by relations -/
def rInN (X : Cx) : R2 := fun x y H Q => ∃ B a t kvs k, y = .ref a ∧ Ext B H ∧ DctAt X B H a t kvs ∧ KeyOk t k ∧ Dp X.K H x k ∧ Q (.bl (dget kvs k).isSome) H
def rNinN (X : Cx) : R2 := fun x y H Q => ∃ B a t kvs k, y = .ref a ∧ Ext B H ∧ DctAt X B H a t kvs ∧ KeyOk t k ∧ Dp X.K H x k ∧ Q (.bl (!(dget kvs k).isSome)) H
def rIxN (X : Cx) : R2 := fun x y H Q => ∃ B a t kvs k d, x = .ref a ∧ Ext B H ∧ DctAt X B H a t kvs ∧ KeyOk t k ∧ Dp X.K H y k ∧ dget kvs k = some d ∧ ∀ v, Dp X.K B v d → Q v H
theorem op_inN (hu : X.A.units + 64 < cLine) : OpR X (compareOp .In) (rInN X) := fun pins s σ H x y v u Q I rx ry ⟨B, a, t, kvs, k, e, bh, C, hk, hx, q⟩ => by
  subst e
  obtain rfl : u = .ref a := ry
  exact dct_in hu I bh C hk hx rx fun s' I' => ⟨.bl (dget kvs k).isSome, H, I', rfl, q⟩
theorem op_ninN (hu : X.A.units + 64 < cLine) : OpR X (compareOp .NotIn) (rNinN X) := fun pins s σ H x y v u Q I rx ry ⟨B, a, t, kvs, k, e, bh, C, hk, hx, q⟩ => by
  subst e
  obtain rfl : u = .ref a := ry
  exact dct_nin hu I bh C hk hx rx fun s' I' => ⟨.bl (!(dget kvs k).isSome), H, I', rfl, q⟩
theorem ix_N (hu : X.A.units + 64 < cLine) : IxR X (rIxN X) := fun value slice pins s σ H x y v u Q I rx ry ⟨B, a, t, kvs, k, d, e, bh, C, hk, hy, hd, q⟩ hs => by
  subst e
  obtain rfl : v = .ref a := rx
  exact tail_any (dct_type I C).1 PySem.F.slot_dict_getitem.lookup (dct_get hu I bh C hk hy ry hd fun v w' s' I' rw' hv => ⟨v, H, I', rw', q v hv⟩) hs
def rLenN (X : Cx) : List V → Hp → VK → Prop := fun xs H Q => ∃ B a t kvs, xs = [.ref a] ∧ Ext B H ∧ DctAt X B H a t kvs ∧ Q (.int ((kvs.length : Nat) : Int)) H
theorem call_lenN : CallR X (.builtin "len") (rLenN X) := fun pins s σ H xs us Q I r ⟨B, a, t, kvs, e, bh, C, q⟩ => by
  subst e
  obtain ⟨u, rfl, rx⟩ := vals1 r
  obtain rfl : u = .ref a := rx
  exact dct_len I bh C fun tk s' I' => ⟨.int ((kvs.length : Nat) : Int), H, I', ⟨_, rfl⟩, q⟩
/-- list(d) -/
def rListN (X : Cx) : List V → Hp → VK → Prop := fun xs H Q => ∃ B a t kvs, xs = [.ref a] ∧ Ext B H ∧ DctAt X B H a t kvs ∧ ∀ vs, DpAll X.K B vs (kvs.map (·.1)) → ∀ p, H p = none → Q (.ref p) (upd H p (.lst vs))
theorem dpa_of_get {K : PySem.W.Frag} : ∀ {vs : List V} {ds : List PyData}, vs.length = ds.length → (∀ (j : Nat) v d, vs[j]? = some v → ds[j]? = some d → Dp K B v d) → DpAll K B vs ds
  | [], [], _, _ => .nil
  | [], _ :: _, h, _ => by cases h
  | _ :: _, [], h, _ => by cases h
  | v :: vs, d :: ds, h, f => .cons (f 0 v d rfl rfl) (dpa_of_get (by simpa using h) fun j v d h1 h2 => f (j + 1) v d (by simpa using h1) (by simpa using h2))
theorem paired_get {α β : Type} {F : α → β → Prop} : ∀ {l : List α} {m : List β} {j : Nat} {x : α} {y : β}, Paired F l m → l[j]? = some x → m[j]? = some y → F x y
  | _, _, _, _, _, .nil, h, _ => by simp at h
  | _, _, 0, _, _, .cons h _, h1, h2 => by simp at h1 h2; subst h1 h2; exact h
  | _, _, j + 1, _, _, .cons _ t, h1, h2 => paired_get t (by simpa using h1) (by simpa using h2)
theorem call_listN (hc : X.calm = true) : CallR X (.type "list") (rListN X) := fun pins s σ H xs us Q I r ⟨B, a, t, kvs, e, bh, C, q⟩ => by
  subst e
  obtain ⟨o, e, h1, h2, h3, h4⟩ := C
  rcases h4 with ⟨rfl, ks, rfl, p⟩ | ⟨rfl, xs, rfl, p⟩
  · refine call_list_dK hc pins s σ H [.ref a] us Q I r ⟨a, ks, rfl, e, fun D hD => q _ ?_ D hD⟩
    refine dpa_of_get (by rw [List.length_map, List.length_map, Paired.length p]) fun j v d g1 g2 => ?_
    rw [List.getElem?_map] at g1 g2
    cases e1 : ks[j]? with
    | none => rw [e1] at g1; cases g1
    | some x =>
      cases e2 : kvs[j]? with
      | none => rw [e2] at g2; cases g2
      | some y =>
        rw [e1] at g1
        rw [e2] at g2
        obtain ⟨i, z1, z2, z3⟩ := paired_get p e1 e2
        have g1 := Option.some.inj g1
        have g2 := Option.some.inj g2
        subst g1 g2
        show Dp X.K B (kV x.1) y.1
        rw [z1, z2]
        exact .int i
  · obtain ⟨u, rfl, rx⟩ := vals1 r
    obtain rfl : u = .ref a := rx
    obtain ⟨ys, py, dd⟩ := dn_at I e (pair_mono (fun _ _ z => z.mono bh) p) h2
    obtain ⟨o, es, ep, ho, hex, hdat, hes, _, _⟩ := dd
    have l1 := Paired.length p
    have l2 := Paired.length py
    have l3 : es.size = ys.length := by rw [← Array.length_toList, hes, List.length_map]
    refine PySem.W.kdl_call (KdlSrc.rawDict (es := es) (ep := ep) h3) (I.ok.hd hc) ⟨o, ho, hex, hdat⟩ (by omega) fun h' tk acc' c' hkeep hS hacc => ?_
    have hn : H s.heap.objs.size = none := I.hok.fresh (Nat.le_refl _)
    have hz : (xs.map fun x => V.ref x.2.1).length ≤ sizeLine := by rw [List.length_map]; omega
    refine ⟨.ref s.heap.objs.size, upd H s.heap.objs.size (.lst (xs.map fun x => V.ref x.2.1)), I.laid hkeep (Nat.le_refl _) (show ObjOk X.prog X.w _ _ _ (.lst (xs.map fun x => V.ref x.2.1)) from ⟨hz, acc'.toList, c', ?_, ?_⟩), rfl, q _ ?_ _ hn⟩
    · have el : acc'.toList.length = acc'.size := by simp
      refine vals_of_at (by rw [List.length_map, el, hacc.1]; omega) fun j x w g1 g2 => ?_
      obtain ⟨hi, rfl⟩ := hacc.2 j w (by rw [← Array.getElem?_toList]; exact g2)
      have hj : j < ys.length := by omega
      have g3 : es.toList[j]? = some es[j] := by rw [Array.getElem?_toList]; exact Array.getElem?_eq_getElem hi
      rw [hes, List.getElem?_map, List.getElem?_eq_getElem hj] at g3
      have g3 := Option.some.inj g3
      rw [← g3]
      rw [List.getElem?_map] at g1
      cases e1 : xs[j]? with
      | none => rw [e1] at g1; cases g1
      | some x0 =>
        rw [e1] at g1
        have g1 := Option.some.inj g1
        subst g1
        have z := paired_get py e1 (List.getElem?_eq_getElem hj)
        show RelV (.ref x0.2.1) (entryOfKey (nestedKind X.prog X.w) ys[j]).key
        rw [z.2.1]
        rfl
    · rw [Array.toArray_toList]; exact hS
    · refine dpa_of_get (by rw [List.length_map, List.length_map, l1]) fun j v d g1 g2 => ?_
      rw [List.getElem?_map] at g1 g2
      cases e1 : xs[j]? with
      | none => rw [e1] at g1; cases g1
      | some x =>
        cases e2 : kvs[j]? with
        | none => rw [e2] at g2; cases g2
        | some y =>
          rw [e1] at g1
          rw [e2] at g2
          obtain ⟨_, _, _, _, z5, _⟩ := paired_get p e1 e2
          have g1 := Option.some.inj g1
          have g2 := Option.some.inj g2
          subst g1 g2
          exact z5
/-! ### d != {} -/
theorem dct_raw (I : Inv X pins σ H s) (bh : Ext B H) (C : DctAt X B H a t kvs) : (a == sysModules) = false ∧ ∃ o es ep, s.heap.get? a = some o ∧ o.ExactDict ∧ o.data = .dict es ep ∧ es.size = kvs.length := by
  obtain ⟨o, e, h1, h2, h3, h4⟩ := C
  refine ⟨h3, ?_⟩
  rcases h4 with ⟨rfl, ks, rfl, p⟩ | ⟨rfl, xs, rfl, p⟩
  · obtain ⟨_, _, vs, rel, ob, es, ep, q1, q2, q3, _, q4, _⟩ := dk_of I.hok e
    refine ⟨ob, es, ep, q1, q2, q3, ?_⟩
    rw [← Array.length_toList, q4.length, ← rel.length, Paired.length p]
  · obtain ⟨ys, py, dd⟩ := dn_at I e (pair_mono (fun _ _ z => z.mono bh) p) h2
    obtain ⟨o, es, ep, ho, hex, hdat, hes, _, _⟩ := dd
    refine ⟨o, es, ep, ho, hex, hdat, ?_⟩
    rw [← Array.length_toList, hes, List.length_map, ← Paired.length py, Paired.length p]
theorem empty_of {h : Heap} {o : Obj} {es : Array DictEntry} {ep : Nat} {P : Program} {w : World} (h1 : h.get? a = some o) (h2 : o.ExactDict) (h3 : o.data = .dict es ep) (h4 : es.size = 0) : h.DictOf (mixKind P w) a [] := by
  obtain rfl : es = #[] := Array.eq_empty_of_size_eq_zero h4
  refine ⟨o, #[], ep, h1, h2, h3, ?_⟩
  obtain ⟨o', es', ep', k1, k2, k3, k4⟩ := Heap.DictOf.new (prog := P) (w := w) (knd := mixKind P w) h
  have k1' : o' = { cls := .type "dict", data := .dict #[] } := by
    have := Heap.get?_push_size h (o := ({ cls := .type "dict", data := .dict #[] } : Obj)) rfl
    rw [this] at k1
    exact (Option.some.inj k1).symm
  subst k1'
  have k3' : es' = #[] := by injection k3 with k3 _; exact k3.symm
  subst k3'
  exact k4
theorem samePairs_ne {prog : Program} {w : World} {nm : String} {a b : Addr} {oa ob : Obj} {es es' : Array DictEntry} {ep ep' : Nat} {Q : Bool → Shared → Prop} (ha : (a == sysModules) = false) (hb : (b == sysModules) = false)
    (hoa : s.heap.get? a = some oa) (hda : oa.data = .dict es ep) (hob : s.heap.get? b = some ob) (hdb : ob.data = .dict es' ep') (hn : es.size ≠ es'.size) (h : Q false s) : wpAny (model prog w) A (Builtin.Dict.samePairs nm a b) Q E s := by
  unfold Builtin.Dict.samePairs Builtin.Dict.showsAll
  rw [if_neg (show ¬ (a == sysModules) = true by rw [ha]; exact Bool.false_ne_true), if_neg (show ¬ (b == sysModules) = true by rw [hb]; exact Bool.false_ne_true)]
  refine wpAny_bind (wpAny_pure (wpAny_bind (wpAny_pure ?_)))
  refine wpAny_bind (wpAny_dictEntries hoa hda ?_)
  dsimp only
  refine wpAny_bind (wpAny_dictEntries hob hdb ?_)
  rw [if_pos (by simpa using hn)]
  exact wpAny_bind (wpAny_rule (wpAny_pure h))
theorem typeIs_of {o : Obj} (h : s.heap.get? a = some o) (x : o.ExactDict) : s.TypeIs (.ref a) "dict" := ⟨o, h, x.1⟩
def rNe0 (X : Cx) : R2 := fun x y H Q => ∃ B a b t t' kvs, x = .ref a ∧ y = .ref b ∧ Ext B H ∧ DctAt X B H a t kvs ∧ DctAt X B H b t' [] ∧ Q (.bl (!kvs.isEmpty)) H
theorem op_ne0 (hu : X.A.units + 64 < cLine) : OpR X (compareOp .NotEq) (rNe0 X) := fun pins s σ H x y v u Q I rx ry ⟨B, a, b, t, t', kvs, e1, e2, bh, C, C', q⟩ => by
  subst e1 e2
  obtain rfl : v = .ref a := rx
  obtain rfl : u = .ref b := ry
  obtain ⟨ya, oa, ea, epa, a1, a2, a3, a4⟩ := dct_raw I bh C
  obtain ⟨yb, ob, eb, epb, b1, b2, b3, b4⟩ := dct_raw I bh C'
  by_cases hn : kvs = []
  · subst hn
    refine PySem.W.keq_ne (knd := mixKind X.prog X.w) (r := true) ya yb (empty_of a1 a2 a3 a4) (empty_of b1 b2 b3 b4) (by omega) (fun _ => .nil) ?_
    exact ⟨.bl false, H, I, rfl, q⟩
  · have hk : kvs.length ≠ 0 := fun z => hn (List.length_eq_zero_iff.mp z)
    have e : (!kvs.isEmpty) = true := by cases kvs with | nil => exact (hn rfl).elim | cons _ _ => rfl
    rw [e] at q
    refine wpAny_richCompare_same_room (op := .NotEq) (typeIs_of a1 a2) (typeIs_of b1 b2) PySem.F.slot_dict_ne (wpAny_call_entry PySem.F.slot_dict_ne (typeIs_of a1 a2) PySem.F.entry_dict_ne ?_ (PySem.F.args_dict_ne_2 _ _)) (by omega)
    show wpAny _ _ (Builtin.Dict.dictSlotArgs "__ne__" ⟨[.ref a, .ref b], []⟩ >>= _) _ _ s
    refine wpAny_bind ?_
    unfold Builtin.Dict.dictSlotArgs
    refine wpAny_bind (wpAny_notOrdered_dict (typeIs_of a1 a2) ?_)
    show wpAny _ _ (pure (Value.ref a, Value.ref b)) _ _ s
    refine wpAny_pure ?_
    refine wpAny_bind (wpAny_isInstance (T := "dict") (typeIs_of b1 b2) PySem.F.sub_dict_dict ?_)
    simp only [Bool.not_true, Bool.false_eq_true, if_false]
    refine wpAny_bind (wpAny_pure (wpAny_bind (wpAny_pure ?_)))
    have b4' : eb.size = 0 := b4
    refine wpAny_bind (samePairs_ne ya yb a1 a3 b1 b3 (by rw [a4, b4']; exact hk) ?_)
    refine wpAny_pure ⟨_, rfl, ?_, ?_⟩
    · exact fun x => nomatch x
    · exact ⟨.bl true, H, I, rfl, q⟩
/-! ### d.update(d2) -/
def dputs (l more : List (PyData × PyData)) : List (PyData × PyData) := more.foldl (fun acc q => dput acc q.1 q.2) l
theorem dputs_len : ∀ (more l : List (PyData × PyData)), (dputs l more).length ≤ l.length + more.length
  | [], l => by show l.length ≤ l.length + 0; omega
  | q :: more, l => by
    have h1 := dputs_len more (dput l q.1 q.2)
    have h2 := dput_len l q.1 q.2
    show (dputs (dput l q.1 q.2) more).length ≤ _
    rw [List.length_cons]
    omega
theorem dputs_nodup : ∀ {more l : List (PyData × PyData)}, (l.map fun q => nk q.1).Nodup → ((dputs l more).map fun q => nk q.1).Nodup
  | [], _, h => h
  | _ :: more, _, h => dputs_nodup (more := more) (dput_nodup h)
/-- entries of a, of b put together -/
theorem entN_merge {K : PySem.W.Frag} : ∀ {more : List (PyData × PyData)} {xs2 : List (NestedKey × Addr × V)} {ys2 : List (NestedKey × Addr × Value)} {kvs : List (PyData × PyData)} {xs : List (NestedKey × Addr × V)} {ys : List (NestedKey × Addr × Value)},
    Paired RelE xs2 ys2 → Paired (EntN K B) xs2 more → Paired RelE xs ys → Paired (EntN K B) xs kvs → ∃ zs, Paired RelE zs (storedAllH ys ys2) ∧ Paired (EntN K B) zs (dputs kvs more)
  | _, _, _, _, _, _, .nil, .nil, h3, h4 => ⟨_, h3, h4⟩
  | _, _, _, kvs, xs, ys, .cons (a := x) (b := y) r1 t1, .cons (b := q) e1 u1, h3, h4 => by
    obtain ⟨⟨ds, q1⟩, q2, q3, q4, q5, q6⟩ := e1
    have z1 := storeX_rel (k := y.1) (b := y.2.1) h3 r1.2.2
    have ek : y.1 = nk q.1 := by rw [← r1.1, q2]
    have e2 : (atKey ys y.1).isSome = (dget kvs q.1).isSome := by rw [ek]; rcases dn_get (paired3 h3 h4) q.1 with ⟨_, d, v, h1, h2, _⟩ | ⟨h1, h2⟩ <;> rw [h1, h2] <;> rfl
    rw [e2] at z1
    have z2 := storeX_ent (b := y.2.1) h4 (k := q.1) ⟨q4, (fun z => nomatch z), fun _ => ⟨⟨ds, q1⟩, by rw [← q2]; exact q3⟩⟩ (by rw [← r1.2.1]; exact q5) q6
    rw [ek] at z1
    have := entN_merge t1 u1 z1 z2
    rw [← ek] at this
    exact this
theorem ent_hash {P : Program} {w : World} {K : PySem.W.Frag} : ∀ {more : List (PyData × PyData)} {xs : List (NestedKey × Addr × V)} {ys : List (NestedKey × Addr × Value)}, Paired RelE xs ys → Paired (EntN K B) xs more → (ys.map fun x => (nestedKind P w).hash x.1) = more.map fun q => (nk q.1).hash w
  | _, _, _, .nil, .nil => rfl
  | _, _, _, .cons r1 t1, .cons e1 u1 => by
    rw [List.map_cons, List.map_cons, ent_hash t1 u1, ← r1.1, e1.2.1]
    rfl
theorem dct_update {b : Addr} {more : List (PyData × PyData)} {Q : Value → Shared → Prop} (hu : A.units + 64 < cLine) (I : Inv X pins σ H s) (bh : Ext B H) (C : DctAt X B H a true kvs) (C' : DctAt X B H b true more) (hab : a ≠ b) (hl : kvs.length + more.length ≤ sizeLine)
    (hh : kvs ≠ [] ∨ (more.map fun q => (nk q.1).hash X.w).Nodup) (h : ∀ o s', DctO X.prog X.w X.K B a true (dputs kvs more) o → Inv X pins σ (upd H a o) s' → Q .none s') :
    wpAny (model X.prog X.w) A (call (.builtin "dict.update") [.ref a, .ref b]) Q E s := by
  obtain ⟨o, e, h1, h2, h3, h4⟩ := C
  obtain ⟨o', e', k1, k2, k3, k4⟩ := C'
  rcases h4 with ⟨z, _⟩ | ⟨_, xs, rfl, p⟩
  · cases z
  rcases k4 with ⟨z, _⟩ | ⟨_, xs', rfl, p'⟩
  · cases z
  obtain ⟨ys, py, dd⟩ := dn_at I e (pair_mono (fun _ _ z => z.mono bh) p) h2
  obtain ⟨ys', py', dd'⟩ := dn_at I e' (pair_mono (fun _ _ z => z.mono bh) p') k2
  have l1 := Paired.length p
  have l2 := Paired.length py
  have l1' := Paired.length p'
  have l2' := Paired.length py'
  obtain ⟨zs, z1, z2⟩ := entN_merge (K := X.K) (B := B) py' p' py p
  refine call_update_dictH (nroom hu) hab k3 dd dd' ?_ (by omega) fun h' hd' _ hs => ?_
  · rcases hh with hh | hh
    · refine .inl fun z => hh ?_
      subst z
      cases py
      cases p
      rfl
    · refine .inr ⟨keyed_apart nestedKind_stays dd', ?_⟩
      have : (ys'.map fun x => (nestedKind X.prog X.w).hash x.1) = more.map fun q => (nk q.1).hash X.w := by
        exact ent_hash py' p'
      rw [this]
      exact hh
  · have he : ∃ q, h'.get? a = some q := let ⟨q, _, _, hq, _⟩ := hd'; ⟨q, hq⟩
    exact h _ _ ⟨by have := dputs_len more kvs; omega, dputs_nodup h2, h3, .inr ⟨rfl, zs, rfl, z2⟩⟩ (d_write I (by rw [e]; exact True.intro) hs he (dn_ok z1 hd'))
end
end MR
/-! L7c: what is owned: views, new containers, changes. -/
namespace MR
open PySem PySem.Spec PyProof.Rows L2
section
variable {G : GC} {L : LC G} {ρ ρ1 ρ2 : Rho G} {e a b c o : Expr} {es : List Expr} {p q z : PV G} {pos p1 p2 p3 : Pos} {d d1 d2 dk dv : PyData} {st : Stmt} {rest : List Stmt} {Po : Post G} {A B0 B : Hp} {σ : L2.St} {H : Hp} {t : Bool} {kvs : List (PyData × PyData)} {ds : List PyData}
theorem set_get {α : Type} {l : List (Addr × α)} {n : Nat} {a a' : Addr} {c c' c'' : α} (nd : (l.map (·.1)).Nodup) (hn : l[n]? = some (a, c)) (h : (a', c'') ∈ l.set n (a, c')) : (a' = a ∧ c'' = c') ∨ (a' ≠ a ∧ (a', c'') ∈ l) := by
  obtain ⟨j, hj⟩ := List.getElem?_of_mem h
  have hln : n < l.length := (List.getElem?_eq_some_iff.mp hn).1
  by_cases e : n = j
  · subst e
    rw [List.getElem?_set_self hln] at hj
    cases hj
    exact .inl ⟨rfl, rfl⟩
  · rw [List.getElem?_set_ne e] at hj
    refine .inr ⟨fun z => e ?_, List.mem_of_getElem? hj⟩
    subst z
    have h1 : (l.map (·.1))[n]? = some a' := by rw [List.getElem?_map, hn]; rfl
    have h2 : (l.map (·.1))[j]? = some a' := by rw [List.getElem?_map, hj]; rfl
    have hlj : n < (l.map (·.1)).length := by rw [List.length_map]; exact hln
    exact (List.getElem?_inj hlj nd).mp (h1.trans h2.symm)
theorem set_fst {α : Type} {l : List (Addr × α)} {n : Nat} {a : Addr} {c c' : α} (hn : l[n]? = some (a, c)) : (l.set n (a, c')).map (·.1) = l.map (·.1) := by
  refine List.ext_getElem? fun j => ?_
  rw [List.getElem?_map, List.getElem?_map]
  by_cases e : n = j
  · subst e
    rw [List.getElem?_set_self (List.getElem?_eq_some_iff.mp hn).1, hn]
    rfl
  · rw [List.getElem?_set_ne e]
/-- a container is changed -/
theorem EnvB.chg {h : Heap} (E : EnvB G A B0 B ρ σ H) {n : Nat} {a : Addr} {c c' : Cont G} {o : HO} (hn : ρ.ow[n]? = some (a, c)) (hok : HOk G.P G.w H h) (ho : ContO G B a c' o) : EnvB G A B0 B ⟨ρ.sl, ρ.ow.set n (a, c')⟩ σ (upd H a o) := by
  obtain ⟨hA, hB, o1, e1, k1⟩ := E.ow a c (List.mem_of_getElem? hn)
  refine ⟨E.b0, E.bh.hid hB, E.ah.hid hA, E.av, fun pq hpq => ?_, E.sl, fun a' c'' m => ?_, ?_, E.ln⟩
  · obtain ⟨ps', q1, q2, q3⟩ := E.tabs pq hpq
    have n1 : pq.1 ≠ a := fun z => by
      rw [z, e1] at q1
      exact k1.notTbl ps' (Option.some.inj q1)
    refine ⟨ps', by rw [upd_ne n1]; exact q1, q2, fun pos cv hc => ?_⟩
    obtain ⟨c', q4, q5⟩ := q3 pos cv hc
    have n2 : c' ≠ a := fun z => by
      rw [z, e1] at q5
      have q5 := Option.some.inj q5
      cases c with
      | lst ds => obtain ⟨vs, e, _⟩ := k1; rw [e] at q5; unfold LamX.CodeO at q5; cases q5
      | ins C fs => obtain ⟨dx, vs, e, _⟩ := k1; rw [e] at q5; unfold LamX.CodeO at q5; cases q5
      | dct t kvs =>
        obtain ⟨_, _, _, k1⟩ := k1
        rcases k1 with ⟨_, ks, e, _⟩ | ⟨_, xs, e, _⟩
        · rw [e] at q5; unfold LamX.CodeO at q5; cases q5
        · have w1 := hok a _ e1
          have w2 := w1
          rw [q5] at w2
          rw [e] at w1
          obtain ⟨oc, vs, _, x1, x2, _⟩ := (show _ ∧ _ from w2).1
          obtain ⟨ys, py, ob, es, ep, y1, y2, y3, y4⟩ := (show ObjOk G.P G.w H h a (dN G.P G.w a xs) from w1).1
          rw [y1] at x1
          cases x1
          rw [y3] at x2
          cases x2
    exact ⟨c', q4, by rw [upd_ne n2]; exact q5⟩
  · rcases set_get E.nd hn m with ⟨rfl, rfl⟩ | ⟨ne, m'⟩
    · exact ⟨hA, hB, o, upd_same, ho⟩
    · obtain ⟨h1, h2, o2, e2, k2⟩ := E.ow a' c'' m'
      exact ⟨h1, h2, o2, by rw [upd_ne ne]; exact e2, k2⟩
  · show ((ρ.ow.set n (a, c')).map (·.1)).Nodup
    rw [set_fst hn]
    exact E.nd
/-- a new container -/
theorem EnvB.newO (E : EnvB G A B0 B ρ σ H) {p : Addr} {c : Cont G} {o : HO} (hp : H p = none) (ho : ContO G B p c o) : EnvB G A B0 B ⟨ρ.sl, (p, c) :: ρ.ow⟩ σ (L2.upd H p o) := by
  have hB := E.fresh hp
  have hA : A p = none := E.ah.back p hp
  refine ⟨E.b0, E.bh.hid hB, E.ah.hid hA, E.av, E.tabs.ext fun b u e => by rw [upd_ne (ne_of_none e hp)]; exact e, E.sl, fun a' c' m => ?_, ?_, E.ln⟩
  · rcases List.mem_cons.mp m with e | m
    · cases e
      exact ⟨hA, hB, o, upd_same, ho⟩
    · obtain ⟨h1, h2, h3⟩ := E.ow a' c' m
      exact ⟨h1, h2, h3.mono (Ext.refl _) (Ext.new hp)⟩
  · show (p :: ρ.ow.map (·.1)).Nodup
    refine List.nodup_cons.mpr ⟨fun m => ?_, E.nd⟩
    obtain ⟨⟨a', c'⟩, hq, e'⟩ := List.mem_map.mp m
    have e' : a' = p := e'
    subst e'
    obtain ⟨_, _, o2, e2, _⟩ := E.ow a' c' hq
    rw [hp] at e2
    cases e2

/-! ### views -/
/-- what old says, told while fz stand still, is p -/
def Imp (fz : List (Addr × Cont G)) (old p : PV G) : Prop := ∀ (Bv : Hp), (∀ a c, (a, c) ∈ fz → ContAt G Bv Bv a c) → ∀ v, old.p Bv v → p.p Bv v
theorem imp_refl {fz : List (Addr × Cont G)} : Imp fz p p := fun _ _ _ h => h
theorem imp_lst {fz : List (Addr × Cont G)} {a : Addr} (h : (a, .lst ds) ∈ fz) : Imp fz (refP a) (dat (.list ds)) := fun Bv hv v hp => by
  obtain rfl : v = .ref a := hp
  obtain ⟨o, e, vs, rfl, k⟩ := hv a _ h
  exact .lst (SqL.of e) k
theorem imp_dct {fz : List (Addr × Cont G)} {a : Addr} (h : (a, .dct t kvs) ∈ fz) : Imp fz (refP a) (dctP t kvs) := fun Bv hv v hp => ⟨a, hp, hv a _ h⟩
structure View (sl : List (Option (PV G))) (fz : List (Addr × Cont G)) (sl' : List (Option (PV G))) : Prop where
  ln : sl'.length = sl.length
  at_ : ∀ (i : Nat) p, sl'[i]? = some (some p) → ∃ q, sl[i]? = some (some q) ∧ Imp fz q p
theorem View.refl {sl : List (Option (PV G))} {fz : List (Addr × Cont G)} : View sl fz sl := ⟨rfl, fun i p h => ⟨p, h, imp_refl⟩⟩
theorem View.set {sl sl' : List (Option (PV G))} {fz : List (Addr × Cont G)} (w : View sl fz sl') (i : Nat) (h : sl[i]? = some (some q)) (m : Imp fz q p) : View sl fz (sl'.set i (some p)) := by
  refine ⟨by rw [List.length_set]; exact w.ln, fun j p' hj => ?_⟩
  by_cases e : i = j
  · subst e
    by_cases hl : i < sl'.length
    · rw [List.getElem?_set_self hl] at hj
      cases hj
      exact ⟨q, h, m⟩
    · rw [List.getElem?_eq_none (by simpa using hl)] at hj; cases hj
  · rw [List.getElem?_set_ne e] at hj
    exact w.at_ j p' hj
/-- fz and ow' are of ow, apart -/
structure Part (ow fz ow' : List (Addr × Cont G)) : Prop where
  pf : ∀ x ∈ fz, x ∈ ow
  po : ∀ x ∈ ow', x ∈ ow
  dj : (ow.map (·.1)).Nodup → ((fz ++ ow').map (·.1)).Nodup
theorem Part.all {ow : List (Addr × Cont G)} : Part ow ow [] := ⟨fun _ h => h, fun _ h => (nomatch h), fun h => by rw [List.append_nil]; exact h⟩
theorem Part.first {x : Addr × Cont G} {ow : List (Addr × Cont G)} : Part (x :: ow) [x] ow := ⟨fun y h => by rcases List.mem_singleton.mp h with rfl; exact List.mem_cons_self, fun y h => List.mem_cons_of_mem _ h, fun h => h⟩
theorem Part.of {ow fz ow' : List (Addr × Cont G)} (h : ow.Perm (fz ++ ow')) : Part ow fz ow' := ⟨fun x hx => h.mem_iff.mpr (List.mem_append_left _ hx), fun x hx => h.mem_iff.mpr (List.mem_append_right _ hx), fun nd => ((h.map (·.1)).nodup_iff).mp nd⟩
theorem freeze {fz ow' : List (Addr × Cont G)} {sl' : List (Option (PV G))} (E : EnvB G A B0 B ρ σ H) (P : Part ρ.ow fz ow') (w : View ρ.sl fz sl') :
    ∃ Bv, Ext B Bv ∧ (∀ a, a ∉ fz.map (·.1) → Bv a = B a) ∧ EnvB G A B0 Bv ⟨sl', ow'⟩ σ H ∧ ∀ a c, (a, c) ∈ fz → ContAt G Bv Bv a c := by
  let Bv : Hp := fun a => if a ∈ fz.map (·.1) then H a else B a
  have inn : ∀ a, a ∈ fz.map (·.1) → Bv a = H a := fun a h => if_pos h
  have out : ∀ a, a ∉ fz.map (·.1) → Bv a = B a := fun a h => if_neg h
  have own : ∀ a, a ∈ fz.map (·.1) → ∃ c, (a, c) ∈ fz ∧ A a = none ∧ B a = none ∧ ContAt G B H a c := fun a h => by
    obtain ⟨⟨a', c⟩, hq, e⟩ := List.mem_map.mp h
    have e : a' = a := e
    subst e
    exact ⟨c, hq, E.ow a' c (P.pf _ hq)⟩
  have x1 : Ext B Bv := by
    constructor
    · intro b o e n
      by_cases hb : b ∈ fz.map (·.1)
      · obtain ⟨c, _, _, h2, _⟩ := own b hb
        rw [h2] at e; cases e
      · rw [out b hb]; exact e
    · intro b e
      by_cases hb : b ∈ fz.map (·.1)
      · obtain ⟨c, _, _, h2, _⟩ := own b hb
        exact h2
      · rw [out b hb] at e; exact e
  have x2 : Ext Bv H := by
    constructor
    · intro b o e n
      by_cases hb : b ∈ fz.map (·.1)
      · rw [inn b hb] at e; exact e
      · rw [out b hb] at e; exact E.bh.keep b o e n
    · intro b e
      by_cases hb : b ∈ fz.map (·.1)
      · rw [inn b hb]; exact e
      · rw [out b hb]; exact E.bh.back b e
  have cs : ∀ a c, (a, c) ∈ fz → ContAt G Bv Bv a c := fun a c h => by
    obtain ⟨_, _, o, e, k⟩ := E.ow a c (P.pf _ h)
    exact ⟨o, by rw [inn a (List.mem_map.mpr ⟨(a, c), h, rfl⟩)]; exact e, k.mono x1⟩
  refine ⟨Bv, x1, out, ⟨E.b0.trans x1, x2, E.ah, fun a ha hb => ?_, E.tabs, fun i p h => ?_, fun a c m => ?_, ?_, w.ln.trans E.ln⟩, cs⟩
  · by_cases hb2 : a ∈ fz.map (·.1)
    · obtain ⟨c, _, h1, _⟩ := own a hb2
      exact (ha h1).elim
    · rw [out a hb2]; exact E.av a ha hb
  · obtain ⟨q, h1, h2⟩ := w.at_ i p h
    obtain ⟨v, h3, h4⟩ := E.sl i q h1
    exact ⟨v, h3, h2 Bv cs v (q.mono x1 h4)⟩
  · obtain ⟨h1, h2, h3⟩ := E.ow a c (P.po _ m)
    have na : a ∉ fz.map (·.1) := fun z => by
      have nd := P.dj E.nd
      rw [List.map_append] at nd
      exact (List.nodup_append.mp nd).2.2 a z a (List.mem_map.mpr ⟨(a, c), m, rfl⟩) rfl
    exact ⟨h1, by rw [out a na]; exact h2, h3.mono x1 (Ext.refl _)⟩
  · have nd := P.dj E.nd
    rw [List.map_append] at nd
    exact (List.nodup_append.mp nd).2.1
/-- from here the containers fz stand still -/
theorem st_frz {fz ow' : List (Addr × Cont G)} {sl' : List (Option (PV G))} {sts : List Stmt} (P : Part ρ.ow fz ow') (w : View ρ.sl fz sl') (h : StD L ⟨sl', ow'⟩ sts Po) : StD L ρ sts Po := .mk fun A B0 B σ H D E S => by
  obtain ⟨Bv, x, _, E', _⟩ := freeze E P w
  exact h A B0 Bv σ H D E' S
/-- a value that holds no list stands without the containers -/
theorem sqT_of {K : PySem.W.Frag} {H H' : Hp} {a : Addr} {xs : List V} (h : SqT K H a xs) (k : ∀ o, (o = .tup xs ∨ ∃ ob, o = .frz ob (.tup xs)) → H a = some o → H' a = some o) : SqT K H' a xs := by
  rcases h with (h | ⟨ob, h⟩) | h
  · exact .inl (.inl (k _ (.inl rfl) h))
  · exact .inl (.inr ⟨ob, k _ (.inr ⟨ob, rfl⟩) h⟩)
  · exact .inr h
mutual
theorem dp_thin {K : PySem.W.Frag} {H H' : Hp} (k : ∀ a o xs, (o = .tup xs ∨ ∃ ob, o = .frz ob (.tup xs)) → H a = some o → H' a = some o) : ∀ (d : PyData) (v : V), keyable d = true → Dp K H v d → Dp K H' v d
  | .none, _, _, h => by cases h; exact .non
  | .bool b, _, _, h => by cases h; exact .bl b
  | .int i, _, _, h => by cases h; exact .int i
  | .str z, _, _, h => by cases h; exact .str z
  | .list ds, _, h, _ => by cases h
  | .dict _, _, h, _ => by cases h
  | .tuple ds, _, hk, h => by
    cases h with
    | tup hs ha => exact .tup (sqT_of hs fun o q e => k _ o _ q e) (dpa_thin k ds _ hk ha)
theorem dpa_thin {K : PySem.W.Frag} {H H' : Hp} (k : ∀ a o xs, (o = .tup xs ∨ ∃ ob, o = .frz ob (.tup xs)) → H a = some o → H' a = some o) : ∀ (ds : List PyData) (vs : List V), keyables ds = true → DpAll K H vs ds → DpAll K H' vs ds
  | [], _, _, h => by cases h; exact .nil
  | d :: ds, _, hk, h => by
    have hk : (keyable d && keyables ds) = true := hk
    rw [Bool.and_eq_true] at hk
    cases h with
    | cons h1 h2 => exact .cons (dp_thin k d _ hk.1 h1) (dpa_thin k ds _ hk.2 h2)
end
/-- back from a view -/
theorem thaw {fz : List (Addr × Cont G)} {sl' : List (Option (PV G))} {Bv B' H' : Hp} (E : EnvB G A B0 B ρ σ H) (hf : ∀ x ∈ fz, x ∈ ρ.ow) (x1 : Ext B Bv) (out : ∀ a, a ∉ fz.map (·.1) → Bv a = B a) (x2 : Ext Bv B') (E' : EnvB G H Bv B' ⟨sl', []⟩ σ H') :
    ∃ B2, Ext B B2 ∧ EnvB G A B0 B2 ρ σ H' ∧ (∀ a o, B' a = some o → a ∉ fz.map (·.1) → B2 a = some o) := by
  let B2 : Hp := fun a => if a ∈ fz.map (·.1) then none else B' a
  have inn : ∀ a, a ∈ fz.map (·.1) → B2 a = none := fun a h => if_pos h
  have out2 : ∀ a, a ∉ fz.map (·.1) → B2 a = B' a := fun a h => if_neg h
  have own : ∀ a, a ∈ fz.map (·.1) → A a = none ∧ B a = none := fun a h => by
    obtain ⟨⟨a', c⟩, hq, e⟩ := List.mem_map.mp h
    have e : a' = a := e
    subst e
    obtain ⟨h1, h2, _⟩ := E.ow a' c (hf _ hq)
    exact ⟨h1, h2⟩
  have z1 : Ext B B2 := by
    constructor
    · intro b o e n
      have hb : b ∉ fz.map (·.1) := fun hb => by rw [(own b hb).2] at e; cases e
      rw [out2 b hb]
      exact x2.keep b o (by rw [out b hb]; exact e) n
    · intro b e
      by_cases hb : b ∈ fz.map (·.1)
      · exact (own b hb).2
      · rw [out2 b hb] at e
        have := x2.back b e
        rw [out b hb] at this
        exact this
  have z2 : Ext B2 H' := by
    constructor
    · intro b o e n
      by_cases hb : b ∈ fz.map (·.1)
      · rw [inn b hb] at e; cases e
      · rw [out2 b hb] at e; exact E'.bh.keep b o e n
    · intro b e
      by_cases hb : b ∈ fz.map (·.1)
      · exact inn b hb
      · rw [out2 b hb]; exact E'.bh.back b e
  have hnn : ∀ a c, (a, c) ∈ ρ.ow → H a ≠ none := fun a c m z => by
    obtain ⟨_, _, o, e, _⟩ := E.ow a c m
    rw [z] at e; cases e
  refine ⟨B2, z1, ⟨E.b0.trans z1, z2, E.ah.trans E'.ah, fun a ha hb => ?_, E'.tabs, fun i p h => ?_, fun a c m => ?_, E.nd, E.ln⟩, fun a o e hb => by rw [out2 a hb]; exact e⟩
  · by_cases hb2 : a ∈ fz.map (·.1)
    · exact inn a hb2
    · rw [out2 a hb2]
      refine E'.av a (fun z => ha (E.ah.back a z)) ?_
      rw [out a hb2]
      exact E.av a ha hb
  · obtain ⟨v, h1, h2⟩ := E.sl i p h
    exact ⟨v, h1, p.mono z1 h2⟩
  · obtain ⟨h1, h2, h3⟩ := E.ow a c m
    refine ⟨h1, ?_, h3.mono z1 E'.ah⟩
    by_cases hb2 : a ∈ fz.map (·.1)
    · exact inn a hb2
    · rw [out2 a hb2]
      exact E'.av a (hnn a c m) (by rw [out a hb2]; exact h2)
theorem EnvB.anchor (E : EnvB G A B0 B ρ σ H) (h : ρ.ow = []) : EnvB G H B B ρ σ H := ⟨Ext.refl _, E.bh, Ext.refl _, fun _ _ h => h, E.tabs, E.sl, (fun a c m => by rw [h] at m; cases m), E.nd, E.ln⟩
/-- e reads the containers as they stand; its value holds no list -/
theorem e_own {sl' : List (Option (PV G))} (w : View ρ.sl ρ.ow sl') (h : EvD L ⟨sl', []⟩ e (dat d)) (hs : keyable d = true := by rfl) : EvD L ρ e (dat d) := EvD.of fun A B0 B σ H Q E k => by
  obtain ⟨Bv, x1, out, E1, _⟩ := freeze E Part.all w
  refine h.run (E1.anchor rfl) fun v B' H' x2 E2 y => ?_
  obtain ⟨B2, z1, E3, z3⟩ := thaw E (fun _ h => h) x1 out x2 E2
  refine k v B2 H' z1 E3 (dp_thin (fun a o xs q e => z3 a o e fun m => ?_) d v hs y)
  obtain ⟨⟨a', c⟩, hq, ea⟩ := List.mem_map.mp m
  have ea : a' = a := ea
  subst ea
  obtain ⟨_, _, o2, e2, k2⟩ := E.ow a' c hq
  have w3 : B' a' = some o := e
  have w4 := E2.bh.keep a' o w3 (fun ps z => by rcases q with q | ⟨ob, q⟩ <;> (rw [q] at z; cases z))
  have w5 := E2.ah.keep a' o2 e2 k2.notTbl
  rw [w5] at w4
  have w4 := Option.some.inj w4
  subst w4
  have mu := k2.mut
  rcases q with q | ⟨ob, q⟩ <;> (rw [q] at mu; exact mu)
theorem t_own {sl' : List (Option (PV G))} {u : Bool} (w : View ρ.sl ρ.ow sl') (h : EvT L ⟨sl', []⟩ e u) : EvT L ρ e u := EvT.of fun A B0 B σ H Q E k => by
  obtain ⟨Bv, x1, out, E1, _⟩ := freeze E Part.all w
  refine h.run (E1.anchor rfl) fun B' H' x2 E2 => ?_
  obtain ⟨B2, z1, E3, _⟩ := thaw E (fun _ h => h) x1 out x2 E2
  exact k B2 H' z1 E3
end
end MR
/-! L7d: rules for what is owned. -/
namespace MR
open PySem PySem.Spec PyProof.Rows L2
section
variable {G : GC} {L : LC G} {ρ ρ1 ρ2 : Rho G} {e a b c o k : Expr} {es : List Expr} {p q z : PV G} {pos p1 p2 p3 : Pos} {d d1 d2 dk dv : PyData} {st : Stmt} {rest : List Stmt} {Po : Post G} {t : Bool} {kvs : List (PyData × PyData)} {ds : List PyData}
theorem LC.dct (L : LC G) {B H : Hp} {a : Addr} (h : ContAt G B H a (.dct t kvs)) : DctAt L.X B H a t kvs := by
  obtain ⟨o, e, h⟩ := h
  refine ⟨o, e, ?_⟩
  rw [L.hP, L.hw, L.hK]
  exact h
theorem LC.dctO (L : LC G) {B : Hp} {a : Addr} {o : HO} (h : DctO L.X.prog L.X.w L.X.K B a t kvs o) : ContO G B a (.dct t kvs) o := by
  rw [L.hP, L.hw, L.hK] at h
  exact h
theorem LC.dp (L : LC G) {H : Hp} {v : V} (h : Dp G.K H v d) : Dp L.X.K H v d := by rw [L.hK]; exact h
theorem LC.pd (L : LC G) {H : Hp} {v : V} (h : Dp L.X.K H v d) : Dp G.K H v d := by rw [L.hK] at h; exact h
theorem LC.hok (L : LC G) {pins : List (Addr × Obj)} {σ : L2.St} {H : Hp} {s : Shared} (I : Inv L.X pins σ H s) : HOk G.P G.w H s.heap := by rw [← L.hP, ← L.hw]; exact I.hok

/-! ### dicts that stand -/
theorem c_inD (hk : KeyOk t dk) : CmpD L .In (dat dk) (dctP t kvs) (dget kvs dk).isSome := ⟨_, op_inN L.room.units, fun A B0 B ρ σ H x y Q E hx hy k => by
  obtain ⟨a, rfl, h⟩ := hy
  exact ⟨B, a, t, kvs, dk, rfl, E.bh, L.dct (h.mono (Ext.refl _) E.bh), hk, L.dp (dp_mono E.bh _ _ hx), here E k (.bl _)⟩⟩
theorem c_ninD (hk : KeyOk t dk) : CmpD L .NotIn (dat dk) (dctP t kvs) (!(dget kvs dk).isSome) := ⟨_, op_ninN L.room.units, fun A B0 B ρ σ H x y Q E hx hy k => by
  obtain ⟨a, rfl, h⟩ := hy
  exact ⟨B, a, t, kvs, dk, rfl, E.bh, L.dct (h.mono (Ext.refl _) E.bh), hk, L.dp (dp_mono E.bh _ _ hx), here E k (.bl _)⟩⟩
theorem x_dct (hk : KeyOk t dk) (h : dget kvs dk = some d) : IxD L (dctP t kvs) (dat dk) (dat d) := ⟨_, ix_N L.room.units, fun A B0 B ρ σ H x y Q E hx hy k => by
  obtain ⟨a, rfl, h2⟩ := hx
  exact ⟨B, a, t, kvs, dk, d, rfl, E.bh, L.dct (h2.mono (Ext.refl _) E.bh), hk, L.dp (dp_mono E.bh _ _ hy), h, fun v hv => here E k (L.pd hv)⟩⟩
theorem k_lenD : CallD L (.builtin "len") [dctP t kvs] (dat (.int kvs.length)) := ⟨_, call_lenN, fun A B0 B ρ σ H xs Q E hx k => by
  obtain ⟨v, rfl, a, rfl, h⟩ := pvs1 hx
  exact ⟨B, a, t, kvs, rfl, E.bh, L.dct (h.mono (Ext.refl _) E.bh), here E k (.int _)⟩⟩
theorem k_listD : CallD L (.type "list") [dctP t kvs] (dat (.list (kvs.map (·.1)))) := ⟨_, call_listN L.calm, fun A B0 B ρ σ H xs Q E hx k => by
  obtain ⟨v, rfl, a, rfl, h⟩ := pvs1 hx
  exact ⟨B, a, t, kvs, rfl, E.bh, L.dct (h.mono (Ext.refl _) E.bh), fun vs hv => newL E k (by rw [← L.hK]; exact hv)⟩⟩
theorem c_ne0 {t' : Bool} : CmpD L .NotEq (dctP t kvs) (dctP t' []) (!kvs.isEmpty) := ⟨_, op_ne0 L.room.units, fun A B0 B ρ σ H x y Q E hx hy k => by
  obtain ⟨a, rfl, h⟩ := hx
  obtain ⟨b, rfl, h'⟩ := hy
  exact ⟨B, a, b, t, t', kvs, rfl, rfl, E.bh, L.dct (h.mono (Ext.refl _) E.bh), L.dct (h'.mono (Ext.refl _) E.bh), here E k (.bl _)⟩⟩

/-! ### new ones -/
/-- what is behind a new container -/
def NewC (ρ : Rho G) (c : Cont G) (p : PV G) (ρ' : Rho G) : Prop := ∃ a, p = refP a ∧ ρ' = ⟨ρ.sl, (a, c) :: ρ.ow⟩
theorem em_ownL (h : EvA L ρ es (ds.map dat)) (hl : ds.length ≤ 1000 := by first | decide | simp) : EvM L ρ (.List es pos) (NewC ρ (.lst ds)) := .mk fun A B0 B σ H Q E k => by
  refine WE.of (pe_lst (WA.pa _ _)) (h.run E fun vs B' H' x E' y => ?_)
  have hl3 := pvs_len y
  rw [List.length_map] at hl3
  refine ⟨by rw [sizeLine_eq]; omega, fun D hD => ?_⟩
  exact k (refP D) _ ⟨D, rfl, rfl⟩ _ B' _ x (E'.newO (c := .lst ds) hD ⟨vs, rfl, pvs_dat y⟩) rfl
theorem em_ownD0 (t : Bool) : EvM L ρ (.Dict [] [] pos) (NewC ρ (.dct t [])) := .mk fun A B0 B σ H Q E k pins s I => by
  obtain ⟨o, h1, h2⟩ := dct_new (B := B) (P := L.X.prog) (w := L.X.w) (K := L.X.K) (H := L2.upd H s.heap.objs.size (.lst [])) s.heap I.big t
  obtain ⟨o, h1, h2⟩ : ∃ o, ObjOk L.X.prog L.X.w (L2.upd H s.heap.objs.size o) (s.heap.push { cls := .type "dict", data := .dict #[] }) s.heap.objs.size o ∧ DctO L.X.prog L.X.w L.X.K B s.heap.objs.size t [] o := by
    cases t with
    | false => exact ⟨.dK [], dk_empty s.heap I.big, Nat.zero_le _, List.nodup_nil, h2.2.2.1, .inl ⟨rfl, [], rfl, .nil⟩⟩
    | true => exact ⟨dN _ _ _ [], dn_ok .nil (Heap.DictOfH.new s.heap), Nat.zero_le _, List.nodup_nil, h2.2.2.1, .inr ⟨rfl, [], rfl, .nil⟩⟩
  have hD := I.hok.fresh (Nat.le_refl s.heap.objs.size)
  refine wpAny_Dict_empty ⟨.ref s.heap.objs.size, _, I.laid (t' := s.toks) (fun _ _ q => Heap.get?_push_of_some _ q) (Nat.le_refl _) h1, rfl, ?_⟩
  exact k (refP _) _ ⟨_, rfl, rfl⟩ _ B _ (Ext.refl _) (E.newO hD (L.dctO h2)) rfl
/-- {}, to be read only -/
theorem e_dct0 (t : Bool) : EvD L ρ (.Dict [] [] pos) (dctP t []) := EvD.of fun A B0 B σ H Q E k => by
  refine em_ownD0 t A B0 B σ H Q E fun p ρ' ⟨a, e1, e2⟩ v B' H' x E' y => ?_
  subst e1 e2
  obtain ⟨Bv, x2, _, E2, cs⟩ := freeze E' (Part.first (x := (a, .dct t [])) (ow := ρ.ow)) View.refl
  exact k v Bv H' (x.trans x2) E2 ⟨a, y, cs a _ List.mem_cons_self⟩
/-- {k: v} -/
theorem em_ownD1 (t : Bool) (hk : KeyOk t dk) (h1 : ∀ p, EvD L ⟨ρ.sl, (p, .dct t []) :: ρ.ow⟩ k (dat dk)) (h2 : ∀ p, EvD L ⟨ρ.sl, (p, .dct t []) :: ρ.ow⟩ e (dat dv)) : EvM L ρ (.Dict [some k] [e] pos) (NewC ρ (.dct t [(dk, dv)])) := .mk fun A B0 B σ H Q E kk pins s I => by
  have big : (s.heap.objs.size == sysModules) = false := beq_eq_false_iff_ne.mpr (Ne.symm (Nat.ne_of_lt I.big))
  obtain ⟨o, g1, g2⟩ : ∃ o, ObjOk L.X.prog L.X.w (L2.upd H s.heap.objs.size o) (s.heap.push { cls := .type "dict", data := .dict #[] }) s.heap.objs.size o ∧ DctO L.X.prog L.X.w L.X.K B s.heap.objs.size t [] o := by
    cases t with
    | false => exact ⟨.dK [], dk_empty s.heap I.big, Nat.zero_le _, List.nodup_nil, big, .inl ⟨rfl, [], rfl, .nil⟩⟩
    | true => exact ⟨dN _ _ _ [], dn_ok .nil (Heap.DictOfH.new s.heap), Nat.zero_le _, List.nodup_nil, big, .inr ⟨rfl, [], rfl, .nil⟩⟩
  have hD := I.hok.fresh (Nat.le_refl s.heap.objs.size)
  have I1 : Inv L.X pins σ (L2.upd H s.heap.objs.size o) { s with heap := s.heap.push { cls := .type "dict", data := .dict #[] } } := I.laid (t' := s.toks) (fun _ _ q => Heap.get?_push_of_some _ q) (Nat.le_refl _) g1
  have E1 := E.newO hD (L.dctO g2)
  -- the pairs
  have pairs : ∀ Qp : List (Value × Value) → Shared → Prop, (∀ x u y r s2 B2 H2, Inv L.X pins σ H2 s2 → Ext B B2 → EnvB G A B0 B2 ⟨ρ.sl, (s.heap.objs.size, .dct t []) :: ρ.ow⟩ σ H2 → Dp G.K B2 x dk → RelV x u → Dp G.K B2 y dv → RelV y r → Qp [(u, r)] s2) →
      wpAny (model L.X.prog L.X.w) L.X.A (evalPairs (pairTrees [some k] [e] L.X.env pos)) Qp L.X.xe { s with heap := s.heap.push { cls := .type "dict", data := .dict #[] } } := fun Qp hQ => by
    refine pairTrees_cons_walk ?_
    refine thn ((h1 s.heap.objs.size).run E1 (Q := fun x H1 => ∃ B1, Ext B B1 ∧ EnvB G A B0 B1 ⟨ρ.sl, (s.heap.objs.size, .dct t []) :: ρ.ow⟩ σ H1 ∧ Dp G.K B1 x dk) (fun x B1 H1 x1 E2 y1 => ⟨B1, x1, E2, y1⟩) pins _ I1) fun u s2 ⟨x, H1, I2, rx, B1, x1, E2, y1⟩ => ?_
    refine thn ((h2 s.heap.objs.size).run E2 (Q := fun y H2 => ∃ B2, Ext B1 B2 ∧ EnvB G A B0 B2 ⟨ρ.sl, (s.heap.objs.size, .dct t []) :: ρ.ow⟩ σ H2 ∧ Dp G.K B2 y dv) (fun x B1 H1 x1 E2 y1 => ⟨B1, x1, E2, y1⟩) pins _ I2) fun r s3 ⟨y, H2, I3, ry, B2, x2, E3, y2⟩ => ?_
    exact pairTrees_nil_walk (hQ x u y r s3 B2 H2 I3 (x1.trans x2) E3 (dp_mono x2 _ _ y1) rx y2 ry)
  have dp1 : dput [] dk dv = [(dk, dv)] := rfl
  have fin : ∀ {B2 H2 o'} {s3 : Shared}, Ext B B2 → EnvB G A B0 B2 ⟨ρ.sl, (s.heap.objs.size, .dct t []) :: ρ.ow⟩ σ H2 → Inv L.X pins σ H2 s3 → DctO L.X.prog L.X.w L.X.K B2 s.heap.objs.size t [(dk, dv)] o' → Q (.ref s.heap.objs.size) (L2.upd H2 s.heap.objs.size o') := fun {B2 H2 o' s3} x E2 I2 ho =>
    kk (refP _) ⟨ρ.sl, (s.heap.objs.size, .dct t [(dk, dv)]) :: ρ.ow⟩ ⟨_, rfl, rfl⟩ _ B2 _ x (E2.chg (n := 0) rfl (L.hok I2) (L.dctO ho)) rfl
  have len1 : ([(dk, dv)] : List (PyData × PyData)).length ≤ sizeLine := by rw [sizeLine_eq]; simp
  have nd1 : (([(dk, dv)] : List (PyData × PyData)).map fun q => nk q.1).Nodup := by simp
  cases t with
  | false =>
    refine wpAny_Dict_walk (knd := mixKind L.X.prog L.X.w) rfl rfl (fun z => nomatch z) (by simp) (pairs _ fun x u y r s2 B2 H2 I2 x2 E2 dx rx dy ry => ?_)
    obtain ⟨i, rfl, rfl⟩ := key_int (X := L.X) hk (L.dp dx)
    obtain ⟨_, _, o2, e2, _, _, _, k2⟩ := E2.ow _ _ List.mem_cons_self
    rcases k2 with ⟨_, ks, rfl, p0⟩ | ⟨z, _⟩
    · cases p0
      obtain ⟨z, hd, vs0, r0, dd⟩ := dk_of I2.hok e2
      cases r0
      refine ⟨[(Sum.inl i, r)], ⟨kV_is rx, rfl, True.intro⟩, dd, fun h' dd' hs => ?_⟩
      have he : ∃ q, h'.get? s.heap.objs.size = some q := let ⟨q, _, _, hq, _⟩ := dd'; ⟨q, hq⟩
      have hkv : KV [(Sum.inl i, y)] (merged [] [((Sum.inl i : Key), r)]) := .cons ⟨rfl, ry⟩ .nil
      refine ⟨.ref s.heap.objs.size, L2.upd H2 s.heap.objs.size (.dK [(Sum.inl i, y)]), d_write I2 (by rw [e2]; exact True.intro) hs he (dk_new (by rw [sizeLine_eq]; simp) hd hkv dd'), rfl, ?_⟩
      exact fin x2 E2 I2 ⟨len1, nd1, big, .inl ⟨rfl, _, rfl, .cons ⟨i, rfl, rfl, L.dp dy⟩ .nil⟩⟩
    · cases z
  | true =>
    rw [arm_eval_Dict, zip_pairTrees [some k] [e] L.X.env pos rfl rfl, dictDisplay_pairs (pairTrees [some k] [e] L.X.env pos) (fun z => by have := congrArg List.length z; rw [pairTrees_length _ _ _ _ rfl rfl] at this; cases this) (by rw [pairTrees_length _ _ _ _ rfl rfl]; simp)]
    refine wpAny_bind (wpAny_standAt (wpAny_bind (wpAny_subDictH (knd := nestedKind L.X.prog L.X.w) (by show L.X.A.units + 8 < cLine; have := L.room.units; omega) (by rw [pairTrees_length _ _ _ _ rfl rfl]; simp) (pairs _ fun x u y r s2 B2 H2 I2 x2 E2 dx rx dy ry => ?_))))
    obtain ⟨b, rfl, rfl, hb⟩ := key_ref I2 hk (L.dp (dp_mono E2.bh _ _ dx)) rx
    obtain ⟨_, _, o2, e2, w0, w1, w3, k2⟩ := E2.ow _ _ List.mem_cons_self
    rcases k2 with ⟨z, _⟩ | ⟨_, xs, rfl, p0⟩
    · cases z
    · cases p0
      obtain ⟨ys, py, dd⟩ := dn_at (X := L.X) (kvs := []) I2 (by rw [L.hP, L.hw]; exact e2) .nil List.nodup_nil
      cases py
      refine ⟨[(nk dk, b, r)], ⟨rfl, rfl, hb, True.intro⟩, dd, fun h' tk dd' hs => wpAny_pure ?_⟩
      have he : ∃ q, h'.get? s.heap.objs.size = some q := let ⟨q, _, _, hq, _⟩ := dd'; ⟨q, hq⟩
      refine ⟨.ref s.heap.objs.size, L2.upd H2 s.heap.objs.size (dN L.X.prog L.X.w s.heap.objs.size [(nk dk, b, y)]), d_write I2 (by rw [e2]; exact True.intro) hs he (dn_ok (.cons ⟨rfl, rfl, ry⟩ .nil) dd'), rfl, ?_⟩
      exact fin x2 E2 I2 ⟨len1, nd1, big, .inr ⟨rfl, _, rfl, .cons ⟨(hk.2.2 rfl).1, rfl, (hk.2.2 rfl).2, hk.1, L.dp dx, L.dp dy⟩ .nil⟩⟩

/-! ### changes -/
/-- a list is changed -/
theorem EnvB.chgL {A B0 B H : Hp} {σ : L2.St} (E : EnvB G A B0 B ρ σ H) {n : Nat} {a : Addr} {c c' : Cont G} {o o1 : HO} (hn : ρ.ow[n]? = some (a, c)) (e1 : H a = some o1) (hx : ¬ ∃ φ, o1 = .ext φ) (ho : ContO G B a c' o) : EnvB G A B0 B ⟨ρ.sl, ρ.ow.set n (a, c')⟩ σ (L2.upd H a o) := by
  obtain ⟨hA, hB, o2, e2, k1⟩ := E.ow a c (List.mem_of_getElem? hn)
  rw [e1] at e2
  cases e2
  refine ⟨E.b0, E.bh.hid hB, E.ah.hid hA, E.av, fun pq hpq => ?_, E.sl, fun a' c'' m => ?_, ?_, E.ln⟩
  · obtain ⟨ps', q1, q2, q3⟩ := E.tabs pq hpq
    have n1 : pq.1 ≠ a := fun z => by
      rw [z, e1] at q1
      exact k1.notTbl ps' (Option.some.inj q1)
    refine ⟨ps', by rw [upd_ne n1]; exact q1, q2, fun pos cv hc => ?_⟩
    obtain ⟨c', q4, q5⟩ := q3 pos cv hc
    have n2 : c' ≠ a := fun z => by
      rw [z, e1] at q5
      have q5 := Option.some.inj q5
      unfold LamX.CodeO at q5
      exact hx ⟨_, q5⟩
    exact ⟨c', q4, by rw [upd_ne n2]; exact q5⟩
  · rcases set_get E.nd hn m with ⟨rfl, rfl⟩ | ⟨ne, m'⟩
    · exact ⟨hA, hB, o, upd_same, ho⟩
    · obtain ⟨h1, h2, o2, e2, k2⟩ := E.ow a' c'' m'
      exact ⟨h1, h2, o2, by rw [upd_ne ne]; exact e2, k2⟩
  · show ((ρ.ow.set n (a, c')).map (·.1)).Nodup
    rw [set_fst hn]
    exact E.nd
variable {n : Nat} {ad : Addr}
/-- xs.append(e) -/
theorem s1_append (n : Nat) (ho : EvD L ρ o (refP ad)) (hn : ρ.ow[n]? = some (ad, .lst ds)) (he : EvD L ρ e (dat d)) (hl : ds.length < 100000) (hx : Po.nx ⟨ρ.sl, ρ.ow.set n (ad, .lst (ds ++ [d]))⟩)
    (hsw : swapsWith (.Call (.Attribute o "append" p1) [e] [] p2) none pos.line L.X.env = pure false := by rfl)
    (hbase : attributeBase o "append" L.X.env (eval o L.X.env) = eval o L.X.env := by rfl) (hfew : ((backTo p2 (starEach [e] L.X.env)).all (fun x => !x.1) && (backToKw p2 (keywordEach [] L.X.env)).all (fun x => x.1.isSome)
      && decide (([e] : List Expr).length + ([] : List Keyword).length + (if ([] : List Keyword).isEmpty then 0 else 1) < 30)) = true := by rfl)
    (hline : (p1.endLine == p2.line) = true := by rfl) (hs : starEach [e] L.X.env = (false, eval e L.X.env) :: starEach [] L.X.env := by rfl) :
    S1D L ρ (.Expr (.Call (.Attribute o "append" p1) [e] [] p2) pos) Po := .mk fun A B0 B σ H D E S => by
  refine WSt.of (ps_expr (pe_bm PySem.F.plainAttrs_list PySem.F.slot_list_append PySem.F.type_list_append mt_append (WE.pe _ _) (WA.pa _ _) hbase hfew hline hs rfl) hsw) ?_
  refine ho.run E fun v B1 H1 x1 E1 y1 => ?_
  obtain rfl : v = .ref ad := y1
  obtain ⟨_, _, o1, e1, vs, rfl, q1⟩ := E1.ow _ _ (List.mem_of_getElem? hn)
  refine ⟨.inl ⟨rfl, vs, SqL.of e1⟩, (a_cons he a_nil hs).run E1 fun vs2 B2 H2 x2 E2 y2 => ?_⟩
  obtain ⟨w, rfl, hw⟩ := pvs1 y2
  obtain ⟨_, _, o2, e2, vs', rfl, q2⟩ := E2.ow _ _ (List.mem_of_getElem? hn)
  refine ⟨ad, vs', w, rfl, rfl, e2, by rw [dpa_len q2, sizeLine_eq]; omega, ?_⟩
  exact S.nx _ hx _ _ _ (E2.chgL hn e2 (c' := .lst (ds ++ [d])) (fun ⟨_, h⟩ => nomatch h) ⟨vs' ++ [w], rfl, dpa_snoc q2 hw⟩)
/-- d[k] = v -/
theorem s1_dput (n : Nat) (hk : KeyOk t dk) (he : EvD L ρ e (dat dv)) (ho : EvD L ρ o (refP ad)) (hkk : EvD L ρ k (dat dk)) (hn : ρ.ow[n]? = some (ad, .dct t kvs)) (hl : kvs.length < 100000) (hx : Po.nx ⟨ρ.sl, ρ.ow.set n (ad, .dct t (dput kvs dk dv))⟩)
    (hs : swapsWith e (some (.Subscript o k p1)) pos.line L.X.env = pure false := by rfl) : S1D L ρ (.Assign [.Subscript o k p1] e pos) Po := .mk fun A B0 B σ H D E S pins s I => by
  refine wpAny_Assign_Subscript (thn (he.run E (Q := fun x H1 => ∃ B1, EnvB G A B0 B1 ρ σ H1 ∧ Dp G.K B1 x dv) (fun x B1 H1 x1 E2 y1 => ⟨B1, E2, y1⟩) pins _ I) fun r s1 ⟨v, H1, I1, rv, B1, E1, dv1⟩ => ?_) hs
  refine thn (ho.run E1 (Q := fun x H2 => ∃ B2, Ext B1 B2 ∧ EnvB G A B0 B2 ρ σ H2 ∧ x = .ref ad) (fun x B1 H1 x1 E2 y1 => ⟨B1, x1, E2, y1⟩) pins _ I1) fun u s2 ⟨_, H2, I2, ru, B2, x2, E2, rfl⟩ => ?_
  obtain rfl : u = .ref ad := ru
  refine thn (hkk.run E2 (Q := fun x H3 => ∃ B3, Ext B2 B3 ∧ EnvB G A B0 B3 ρ σ H3 ∧ Dp G.K B3 x dk) (fun x B1 H1 x1 E2 y1 => ⟨B1, x1, E2, y1⟩) pins _ I2) fun iv s3 ⟨y, H3, I3, ry, B3, x3, E3, dk3⟩ => ?_
  have hc := (E3.ow _ _ (List.mem_of_getElem? hn)).2.2
  refine dct_set L.room.units I3 E3.bh (L.dct hc) hk (L.dp dk3) ry (L.dp (dp_mono (x2.trans x3) _ _ dv1)) rv (by rw [sizeLine_eq]; omega) fun o' s4 hO I4 => ?_
  exact ⟨σ, _, I4, S.nx _ hx _ _ _ (E3.chg hn (L.hok I3) (L.dctO hO))⟩
/-- d.setdefault(k, v) -/
theorem s1_setd (n : Nat) (hk : KeyOk t dk) (ho : EvD L ρ o (refP ad)) (hkk : EvD L ρ k (dat dk)) (he : EvD L ρ e (dat dv)) (hn : ρ.ow[n]? = some (ad, .dct t kvs)) (hl : kvs.length < 100000)
    (h1 : (dget kvs dk).isSome = true → Po.nx ρ) (h2 : dget kvs dk = none → Po.nx ⟨ρ.sl, ρ.ow.set n (ad, .dct t (kvs ++ [(dk, dv)]))⟩) (hsw : swapsWith (.Call (.Attribute o "setdefault" p1) [k, e] [] p2) none pos.line L.X.env = pure false := by rfl)
    (m : M2 L.X o "setdefault" p1 k e p2 := by exact ⟨rfl, rfl, rfl, rfl⟩) : S1D L ρ (.Expr (.Call (.Attribute o "setdefault" p1) [k, e] [] p2) pos) Po := .mk fun A B0 B σ H D E S => by
  refine WSt.of (ps_expr (WE.pe _ _) hsw) fun pins s I => ?_
  refine wpAny_Call_method m.base m.few m.line PySem.F.plainAttrs_dict PySem.F.slot_dict_setdefault PySem.F.type_dict_setdefault (thn (ho.run E (Q := fun x H2 => ∃ B2, EnvB G A B0 B2 ρ σ H2 ∧ x = .ref ad) (fun x B1 H1 x1 E2 y1 => ⟨B1, E2, y1⟩) pins _ I) fun u s1 ⟨_, H1, I1, ru, B1, E1, rfl⟩ => ?_)
  obtain rfl : u = .ref ad := ru
  have hc := (E1.ow _ _ (List.mem_of_getElem? hn)).2.2
  obtain ⟨t1, t2⟩ := dct_type I1 (L.dct hc)
  refine ⟨t1, t2, ?_⟩
  rw [m.trees]
  refine Calls.callWith_builtin rfl (Calls.evalArgs_plain (Calls.spliced_cons (thn (hkk.run E1 (Q := fun x H3 => ∃ B3, EnvB G A B0 B3 ρ σ H3 ∧ Dp G.K B3 x dk) (fun x B1 H1 x1 E2 y1 => ⟨B1, E2, y1⟩) pins _ I1) fun iv s2 ⟨y, H2, I2, ry, B2, E2, dk2⟩ =>
    Calls.spliced_cons (thn (he.run E2 (Q := fun x H3 => ∃ B3, Ext B2 B3 ∧ EnvB G A B0 B3 ρ σ H3 ∧ Dp G.K B3 x dv) (fun x B1 H1 x1 E2 y1 => ⟨B1, x1, E2, y1⟩) pins _ I2) fun r s3 ⟨z, H3, I3, rz, B3, x3, E3, dv3⟩ => Calls.spliced_nil ?_))))
  have hc := (E3.ow _ _ (List.mem_of_getElem? hn)).2.2
  refine dct_setd L.room.units I3 E3.bh (L.dct hc) hk (L.dp (dp_mono x3 _ _ dk2)) ry (L.dp dv3) rz (by rw [sizeLine_eq]; omega) (fun d hd v' w' s' I' rw' _ => ⟨v', H3, I', rw', S.nx _ (h1 (by rw [hd]; rfl)) _ _ _ E3⟩) fun hd o' s' hO I' => ?_
  exact ⟨z, _, I', rz, S.nx _ (h2 hd) _ _ _ (E3.chg hn (L.hok I3) (L.dctO hO))⟩
/-- d.update(d2) -/
theorem s1_update (n : Nat) {more : List (PyData × PyData)} (ho : EvD L ρ o (refP ad)) (he : EvD L ρ e (dctP true more)) (hn : ρ.ow[n]? = some (ad, .dct true kvs)) (hl : kvs.length + more.length < 100000) (hh : kvs ≠ [] ∨ (more.map fun q => (nk q.1).hash G.w).Nodup)
    (hx : Po.nx ⟨ρ.sl, ρ.ow.set n (ad, .dct true (dputs kvs more))⟩) (hsw : swapsWith (.Call (.Attribute o "update" p1) [e] [] p2) none pos.line L.X.env = pure false := by rfl)
    (m : M1 L.X o "update" p1 e p2 := by exact ⟨rfl, rfl, rfl, rfl⟩) : S1D L ρ (.Expr (.Call (.Attribute o "update" p1) [e] [] p2) pos) Po := .mk fun A B0 B σ H D E S => by
  refine WSt.of (ps_expr (WE.pe _ _) hsw) fun pins s I => ?_
  refine wpAny_Call_method m.base m.few m.line PySem.F.plainAttrs_dict PySem.F.slot_dict_update PySem.F.type_dict_update (thn (ho.run E (Q := fun x H2 => ∃ B2, EnvB G A B0 B2 ρ σ H2 ∧ x = .ref ad) (fun x B1 H1 x1 E2 y1 => ⟨B1, E2, y1⟩) pins _ I) fun u s1 ⟨_, H1, I1, ru, B1, E1, rfl⟩ => ?_)
  obtain rfl : u = .ref ad := ru
  have hc := (E1.ow _ _ (List.mem_of_getElem? hn)).2.2
  obtain ⟨t1, t2⟩ := dct_type I1 (L.dct hc)
  refine ⟨t1, t2, ?_⟩
  rw [m.trees]
  refine Calls.callWith_builtin rfl (Calls.evalArgs_plain (Calls.spliced_cons (thn (he.run E1 (Q := fun x H3 => ∃ B3, EnvB G A B0 B3 ρ σ H3 ∧ (dctP (G := G) true more).p B3 x) (fun x B1 H1 x1 E2 y1 => ⟨B1, E2, y1⟩) pins _ I1) fun iv s2 ⟨y, H2, I2, ry, B2, E2, b, ey, hb⟩ => Calls.spliced_nil ?_)))
  subst ey
  obtain rfl : iv = .ref b := ry
  obtain ⟨_, hB, hc⟩ := E2.ow _ _ (List.mem_of_getElem? hn)
  have hab : ad ≠ b := fun z => by
    obtain ⟨o3, e3, _⟩ := hb
    rw [← z, hB] at e3
    cases e3
  refine dct_update L.room.units I2 E2.bh (L.dct hc) (L.dct (hb.mono (Ext.refl _) E2.bh)) hab (by rw [sizeLine_eq]; omega) (by rw [L.hw]; exact hh) fun o' s' hO I' => ?_
  exact ⟨.non, _, I', rfl, S.nx _ hx _ _ _ (E2.chg hn (L.hok I2) (L.dctO hO))⟩
end
end MR
/-! L8a: sets of words by a comprehension. -/
namespace MR
open PySem PySem.Spec PyProof.Rows L2
section
theorem setK_fresh (P : Program) (w : World) {h : Heap} : (h.push { cls := .type "set", dict := none, data := .set #[] 0 (.fresh 0 0 (!w.params.followText "set-order")) }).SetOf (mixKind P w) h.objs.size (fun _ => false) 0 :=
  ⟨_, #[], 0, _, Heap.get?_push_size _ rfl, ⟨rfl, rfl, rfl⟩, rfl, (fun e he => by simp at he), (fun k => by simp), (by decide), (by rfl), rfl⟩
variable {X : Cx}
theorem addK_ok {pins : List (Addr × Obj)} {σ : L2.St} {H : Hp} {s : Shared} {E : Value → Shared → Prop} {D : Addr} {S : Key → Bool} {n : Nat} {c : Key} {u : Value} {Q : Value → Shared → Prop} (I : Inv X pins σ H s) (hD : H D = some (SetK X.prog X.w D S n)) (room : n + 1 < scanBound) (r : RelV (kV c) u)
    (h : ∀ s', Inv X pins σ (upd H D (SetK X.prog X.w D (fun j => S j || decide (j = c)) (if S c = true then n else n + 1))) s' → Q .none s') : wpAny (model X.prog X.w) X.A (call (.builtin "set.add") [.ref D, u]) Q E s := by
  refine call_set_add (kV_is r) (key_scan r) (setK_get I hD) room fun h' sb new => ?_
  have he : ∃ u, h'.get? D = some u := by
    have ⟨o, _, _, _, ho, _⟩ := new
    exact ⟨o, ho⟩
  exact h _ (I.write (e := D) (t' := s.toks + 1) (by rw [hD]; trivial) (.inl rfl) (fun b u hb hu => (sb.2 b hb).trans hu) he (setK_new new))
end
/-- {elt for target in iter if ..}, elt a truth value: D the new set -/
def tScK (P : Program) (w : World) (wi : TI) (g : TG) (tt : TT) (te : TE) (vs : List Nat) : TE := fun σ H Q => wi σ H fun J M1 => ∀ D, M1 D = none → ∃ W : Nat → Nat → Hp → Prop, (∃ m, W 0 m (upd M1 D (SetK P w D (fun _ => false) 0))) ∧ ∀ i m H, W i m H →
  (J.stop i H ∧ Q (.ref D) H) ∨ (J.go i H ∧ ∃ Nx : Hp → Prop, (∀ H', Nx H' → ∃ m', m' < m ∧ W (i + 1) m' H') ∧ ∀ x H', J.yld i H x H' → g x (wipe σ vs) H' fun σ2 M2 => wipe σ2 vs = wipe σ vs ∧ tt σ2 M2 fun b M3 =>
    if b = true then te σ2 M3 fun y M4 => ∃ (c : Key) (S : Key → Bool) (n : Nat), y = kV c ∧ M4 D = some (SetK P w D S n) ∧ n + 1 < scanBound ∧ Nx (upd M4 D (SetK P w D (fun j => S j || decide (j = c)) (if S c = true then n else n + 1))) else Nx M3)
theorem scK_core {pins : List (Addr × Obj)} {s : Shared} {σ : L2.St} {H : Hp} {Q : VK} {elt tg iter : Expr} {ifs : List Expr} {scope : Scope} {own : List (PySem.Str × Nat)} {pos pos' : Pos} {wi : TI} {g : TG} {tt : TT} {te : TE} {use : Option (Value → Sem Unit)} {Qf : Value → Shared → Prop}
    (hc : X.calm = true) (hN : X.N.Nodup) (I : Inv X pins σ H s) (hi : PI X tg iter wi) (ok : BlkOk X.N X.env.scope scope own)
    (hg : ∀ (s : Shared) (H : Hp) (C : Addr) (cl : List (PySem.Str × Addr)) (fp : List Addr), PG (X.blk s H scope (compEnvC scope cl C X.env) fp) tg g) (ht : ∀ (s : Shared) (H : Hp) (C : Addr) (cl : List (PySem.Str × Addr)) (fp : List Addr), PTs (X.blk s H scope (compEnvC scope cl C X.env) fp) ifs tt)
    (he : ∀ (s : Shared) (H : Hp) (C : Addr) (cl : List (PySem.Str × Addr)) (fp : List Addr), PE (X.blk s H scope (compEnvC scope cl C X.env) fp) elt te) (hs : ∀ x, foldedSetIterable iter X.env x = pure x)
    (h : tScK X.prog X.w wi g tt te (own.map (·.2)) σ H Q)
    (hRR : ∀ D C s' m H', Inv X pins σ H' s' → Q (.ref D) H' → s'.heap.Ns C m → FpOk X pins H' C → compPost (model X.prog X.w) X.A X.xe use Qf (.ref D) C (.ok .next) s') :
    wpAny (model X.prog X.w) X.A (comprehension (.SetComp elt [⟨tg, iter, ifs, 0⟩] scope pos) scope X.env pos' (newSet (.type "set")) false (eval iter X.env) use) Qf X.xe s := by
  have hfr : ∀ y ∈ scope.names, y.2 = .free → ∃ c, X.env.cells.lookup y.1 = some c := fun y hy e => by
    rcases ok.free y hy e with k | k
    · exact I.ok.has _ (.inl k)
    · exact I.ok.has _ (.inr k)
  refine wpAny_comprehension_free (use := use) rfl hs (closure_ok hfr) ok.kind (fun y hy e => by rw [ok.uniq y hy, e])
    (thn (hi.run pins s σ H _ I h) fun xv u1 hx => thn hx fun itv u2 h2 => ?_)
  obtain ⟨it, fp, tn, J, M2, e, J2, T, z2, f2, q⟩ := h2
  subst e
  refine PpSet.newSet_ok (newEnv_comp ?_)
  generalize hD : u2.heap.objs.size = D
  have hD0 : M2 D = none := J2.hok.fresh (Nat.le_of_eq hD)
  obtain ⟨W, ⟨mm, w0⟩, lap⟩ := q D hD0
  -- the new list
  generalize hs3 : ({ u2 with heap := u2.heap.push { cls := .type "set", dict := none, data := .set #[] 0 (.fresh 0 0 (!X.w.params.followText "set-order")) } } : Shared) = u3
  have J3 : Inv X pins σ (upd M2 D (SetK X.prog X.w D (fun _ => false) 0)) u3 := by
    rw [← hs3]
    refine J2.laid (t' := u2.toks) (fun b o e => Heap.get?_push_of_some _ e) (Nat.le_of_eq hD) ?_
    rw [← hD]
    exact setK_new (setK_fresh X.prog X.w)
  have h3 : u3.heap = u2.heap.push { cls := .type "set", dict := none, data := .set #[] 0 (.fresh 0 0 (!X.w.params.followText "set-order")) } := by rw [← hs3]
  have szz : ∀ b ∈ fp, b < u2.heap.objs.size := fun b hb => by
    obtain ⟨o, e, _⟩ := T.obj _ _ z2 b hb
    exact Heap.lt_size e
  have f3 : ∀ b ∈ fp, FpOk X pins (upd M2 D (SetK X.prog X.w D (fun _ => false) 0)) b ∧ b < u3.heap.objs.size := fun b hb => by
    have hlt := szz b hb
    refine ⟨⟨?_, (f2 b hb).2⟩, by rw [h3, Heap.size_push]; exact Nat.lt_succ_of_lt hlt⟩
    rw [upd_ne (by rw [← hD]; exact Nat.ne_of_lt hlt)]
    exact (f2 b hb).1
  have z3 : tn 0 u3.heap := T.keep _ _ _ z2 fun b _ o e => by rw [h3]; exact Heap.get?_push_of_some _ e
  have J4 := block_start J3 ok hN f3
  have gg := hg u3 (upd M2 D (SetK X.prog X.w D (fun _ => false) 0)) u3.heap.objs.size (cellsFrom (u3.heap.objs.size + 1) scope.names (cloFrom X.env.cells scope.names [])) fp
  have gt := ht u3 (upd M2 D (SetK X.prog X.w D (fun _ => false) 0)) u3.heap.objs.size (cellsFrom (u3.heap.objs.size + 1) scope.names (cloFrom X.env.cells scope.names [])) fp
  have ge := he u3 (upd M2 D (SetK X.prog X.w D (fun _ => false) 0)) u3.heap.objs.size (cellsFrom (u3.heap.objs.size + 1) scope.names (cloFrom X.env.cells scope.names [])) fp
  show codeAny _ _ (.compStart (.SetComp elt [⟨tg, iter, ifs, 0⟩] scope pos) 0 (.ref it) (.ref D) (compEnvC scope (cellsFrom (u3.heap.objs.size + 1) scope.names (cloFrom X.env.cells scope.names [])) u3.heap.objs.size X.env)) (compPost (model X.prog X.w) X.A X.xe use Qf (.ref D) u3.heap.objs.size) { u3 with heap := pushCells (u3.heap.push { cls := .type "dict", data := .dict #[] }) scope.names }
  have nfp : ∀ b ∈ fp, (upd M2 D (SetK X.prog X.w D (fun _ => false) 0)) b = none := fun b hb => (f3 b hb).1.1
  generalize hcc : compEnvC scope (cellsFrom (u3.heap.objs.size + 1) scope.names (cloFrom X.env.cells scope.names [])) u3.heap.objs.size X.env = ce at J4 gg gt ge ⊢
  have cl0 : ce.locals = u3.heap.objs.size := by subst hcc; rfl
  generalize hH3 : upd M2 D (SetK X.prog X.w D (fun _ => false) 0) = M3 at J3 J4 gg gt ge w0 nfp f3
  generalize hs4 : ({ u3 with heap := pushCells (u3.heap.push { cls := .type "dict", data := .dict #[] }) scope.names } : Shared) = u4 at J4 ⊢
  have z4 : tn 0 u4.heap := T.keep _ _ _ z3 fun b _ o e => by rw [← hs4]; exact pushCells_keeps _ _ _ _ (Heap.get?_push_of_some _ e)
  have still : ∀ {σ' : L2.St} {H' : Hp} {s' : Shared}, Inv (X.blk u3 M3 scope ce fp) [] σ' H' s' → (∀ b ∈ fp, H' b = none) → ∀ b ∈ fp, FpOk (X.blk u3 M3 scope ce fp) [] H' b := fun {σ' H' s'} I' hn b hb =>
    ⟨hn b hb, (I'.ok.exf b hb).1, I'.ok.exfs b hb, .inl hb, fun x c e => (I'.ok.exf b hb).2 x c e, fun p hp => absurd (show p ∈ ([] : List (Addr × Obj)) ++ [] from hp) (by simp)⟩
  have whole : codeAny (model X.prog X.w) X.A (.compLoop (.SetComp elt [⟨tg, iter, ifs, 0⟩] scope pos) 0 (.ref it) (.ref D) ce) (compPost (model X.prog X.w) X.A X.xe use Qf (.ref D) u3.heap.objs.size) u4 := by
    refine PpSet.compLoopS_any (fun n s' => ∃ i H', Inv (X.blk u3 M3 scope ce fp) [] (wipe σ (own.map (·.2))) H' s' ∧ tn i s'.heap ∧ (∀ b ∈ fp, H' b = none) ∧ W i n H') ?_ mm ⟨0, M3, J4, z4, nfp, w0⟩
    rintro n u5 ⟨i, M5, J5, z5, n5, w5⟩
    rcases lap i n M5 w5 with ⟨stop, qq⟩ | ⟨go, Nx, hNx, step⟩
    · have tz := T.done (X.blk u3 M3 scope ce fp) rfl rfl rfl hc i [] u5 _ M5 (fun _ _ => False) J5 (still J5 n5) z5 stop
      refine thnF tz fun r u6 ⟨hr, J6⟩ => ?_
      subst hr
      -- back in the def's context
      have J7 : Inv X pins σ M5 u6 := J3.call' (ch := fp) J6.os J6.base J6.hok J6.bare fun b hb => ⟨(f3 b hb).1.2.2.2.1, (f3 b hb).1.2.1, (f3 b hb).1.2.2.2.2.1, (f3 b hb).1.2.2.2.2.2⟩
      have nC : M5 u3.heap.objs.size = none := by
        have z : M5 ce.locals = none := J6.free
        rw [cl0] at z
        exact z
      obtain ⟨m, hn, _⟩ := J6.loc
      have hn : u6.heap.Ns ce.locals m := hn
      rw [cl0] at hn
      exact hRR D u3.heap.objs.size u6 m M5 J7 qq hn (J3.fpOk (Nat.le_refl _) nC)
    · have tx := T.item (X.blk u3 M3 scope ce fp) rfl rfl rfl hc i [] u5 _ M5 (fun _ _ => False) J5 (still J5 n5) z5 go
      refine thnF tx fun r u6 ⟨u, hr, h6⟩ => ?_
      subst hr
      refine thnF h6 fun _ u7 ⟨x, M7, J7, r7, y7, z7, n7⟩ => ?_
      have J7' := J7.pinned (still J7 n7) (T.obj _ _ z7)
      refine thnF (gg.run _ u7 _ M7 x u _ J7' r7 (step x M7 y7)) fun _ u8 ⟨σ8, M8, J8, hw8, q8⟩ => ?_
      refine thnF (gt.run _ u8 σ8 M8 _ J8 q8) fun b u9 ⟨M9, J9, q9⟩ => ?_
      -- the lap's end
      have endT : ∀ {s' : Shared} {H' : Hp}, Inv (X.blk u3 M3 scope ce fp) ([] ++ pinsAt fp u7.heap) σ8 H' s' → Nx H' → ∃ m, m < n ∧ ∃ i H', Inv (X.blk u3 M3 scope ce fp) [] (wipe σ (own.map (·.2))) H' s' ∧ tn i s'.heap ∧ (∀ b ∈ fp, H' b = none) ∧ W i m H' := fun {s' H'} I' nx => by
        obtain ⟨m', hm, w'⟩ := hNx H' nx
        have pin' : ∀ b ∈ fp, ∀ o, u7.heap.get? b = some o → s'.heap.get? b = some o ∧ H' b = none := fun b hb o e =>
          let z := I'.pin (b, o) (List.mem_append_right _ (List.mem_append_right _ (mem_pinsAt hb e)))
          ⟨z.1, z.2.1⟩
        have hl : (wipe σ (own.map (·.2))).length = σ8.length := by rw [← hw8, wipe_length]
        refine ⟨m', hm, i + 1, H', (I'.unpinned (pins := [])).weak hl (fun j v e => ?_), T.keep _ _ _ z7 fun b hb o e => (pin' b hb o e).1, fun b hb => ?_, w'⟩
        · rw [← hw8] at e
          exact (wipe_some e).1
        · obtain ⟨o, e, _⟩ := T.obj _ _ z7 b hb
          exact (pin' b hb o e).2
      cases b with
      | false =>
        simp only [Bool.false_eq_true, if_false] at q9 ⊢
        exact endT J9 q9
      | true =>
        simp only [if_true] at q9 ⊢
        refine thnF (ge.run _ u9 σ8 M9 _ J9 q9) fun z u10 ⟨yv, M10, J10, r10, cb, S0, n0, ey, hD10, hz10, nx⟩ => ?_
        subst ey
        exact addK_ok (X := X.blk u3 M3 scope ce fp) J10 hD10 hz10 r10 fun u11 J11 => endT J11 nx
  exact PpSet.codeAny_compStart_set whole (T.self X.A 0 _ _ _ z4 whole)
/-- as a value -/
theorem pe_scK {elt tg iter : Expr} {ifs : List Expr} {scope : Scope} {own : List (PySem.Str × Nat)} {pos : Pos} {wi : TI} {g : TG} {tt : TT} {te : TE} (hc : X.calm = true) (hN : X.N.Nodup) (hi : PI X tg iter wi) (ok : BlkOk X.N X.env.scope scope own)
    (hg : ∀ (s : Shared) (H : Hp) (C : Addr) (cl : List (PySem.Str × Addr)) (fp : List Addr), PG (X.blk s H scope (compEnvC scope cl C X.env) fp) tg g) (ht : ∀ (s : Shared) (H : Hp) (C : Addr) (cl : List (PySem.Str × Addr)) (fp : List Addr), PTs (X.blk s H scope (compEnvC scope cl C X.env) fp) ifs tt)
    (he : ∀ (s : Shared) (H : Hp) (C : Addr) (cl : List (PySem.Str × Addr)) (fp : List Addr), PE (X.blk s H scope (compEnvC scope cl C X.env) fp) elt te) (hs : ∀ x, foldedSetIterable iter X.env x = pure x := by intro _; rfl) :
    PE X (.SetComp elt [⟨tg, iter, ifs, 0⟩] scope pos) (tScK X.prog X.w wi g tt te (own.map (·.2))) := by
  refine ⟨fun pins s σ H Q I h => ?_⟩
  rw [PpSet.eval_SetComp]
  refine scK_core hc hN I hi ok hg ht he hs h fun D C s' m H' I' q hn f => ⟨m, hn, fun h'' sb => ?_⟩
  obtain ⟨f0, f1, f2, f3, f4, f5⟩ := f
  exact ⟨.ref D, H', I'.turned (t' := s'.toks) (fun b o hb e => (sb.2 b hb).trans e) f0 f1 f3 f4 f5, rfl, q⟩
end MR
/-! L8b: rules: sets of words, comprehensions of two walks. -/
namespace MR
open PySem PySem.Spec PyProof.Rows L2
theorem codeO_ext {c : Addr} {q : Str} {φ : Heap → Prop} (h : LamX.CodeO c q = .ext φ) : ∃ hp : Heap, φ hp ∧ ∃ oc vs, hp.get? c = some oc ∧ oc.data = .fields vs := by
  unfold LamX.CodeO at h
  have h := HO.ext.inj h
  subst h
  let o : Obj := { cls := .none, data := .fields #[.none, .str q 0] }
  let hp : Heap := { objs := Array.replicate (c + 1) o }
  have hg : hp.get? c = some o := by
    show (Heap.get? _ _) = _
    simp [Heap.get?, hp, o]
  exact ⟨hp, ⟨o, _, 0, hg, rfl, rfl⟩, o, _, hg, rfl⟩
theorem setK_code {P : Program} {w : World} {a : Addr} {q : Str} {S : Key → Bool} {n : Nat} : SetK P w a S n ≠ LamX.CodeO a q := fun z => by
  obtain ⟨hp, ⟨o, es, ep, t, h1, _, h2, _⟩, oc, vs, h3, h4⟩ := codeO_ext (φ := fun h => h.SetOf (mixKind P w) a S n) z.symm
  rw [h1] at h3
  cases h3
  rw [h2] at h4
  cases h4
section
variable {G : GC} {L : LC G} {ρ ρ1 ρ2 : Rho G} {e a b c : Expr} {es : List Expr} {p q z : PV G} {pos p1 p2 : Pos} {d d1 d2 : PyData} {tg iter elt tg1 iter1 : Expr} {A B0 B B1 : Hp} {σ : L2.St} {H H1 : Hp}
def setP {G : GC} (n : Nat) : PV G := ⟨fun H v => ∃ a S, v = .ref a ∧ H a = some (SetK G.P G.w a S n), fun x ⟨a, S, e, h⟩ => ⟨a, S, e, x.keep a _ h (fun ps z => by unfold SetK at z; cases z)⟩⟩
/-- what is found at D changes, D fresh -/
theorem EnvB.atD {D : Addr} {o o2 : HO} (E : EnvB G A B0 B ρ σ H) (hA : A D = none) (hB : B D = none) (hD : D ∉ ρ.ow.map (·.1)) (e : H D = some o) (h1 : ∀ ps, o ≠ .tbl ps) (h2 : ∀ q, o ≠ LamX.CodeO D q) : EnvB G A B0 B ρ σ (upd H D o2) := by
  refine ⟨E.b0, E.bh.hid hB, E.ah.hid hA, E.av, fun pq hpq => ?_, E.sl, fun a c m => ?_, E.nd, E.ln⟩
  · obtain ⟨ps', q1, q2, q3⟩ := E.tabs pq hpq
    have n1 : pq.1 ≠ D := fun z => by
      rw [z, e] at q1
      exact h1 ps' (Option.some.inj q1)
    refine ⟨ps', by rw [upd_ne n1]; exact q1, q2, fun pos cv hc => ?_⟩
    obtain ⟨c', q4, q5⟩ := q3 pos cv hc
    have n2 : c' ≠ D := fun z => by
      rw [z, e] at q5
      exact h2 _ (Option.some.inj q5)
    exact ⟨c', q4, by rw [upd_ne n2]; exact q5⟩
  · obtain ⟨h1, h2, o3, e3, h3⟩ := E.ow a c m
    have na : a ≠ D := fun z => hD (by rw [← z]; exact List.mem_map.mpr ⟨(a, c), m, rfl⟩)
    exact ⟨h1, h2, o3, by rw [upd_ne na]; exact e3, h3⟩
theorem EnvB.newD {D : Addr} {o2 : HO} (E : EnvB G A B0 B ρ σ H) (hD : H D = none) : EnvB G A B0 B ρ σ (upd H D o2) ∧ A D = none ∧ B D = none ∧ D ∉ ρ.ow.map (·.1) := by
  have hB := E.fresh hD
  have hA := E.ah.back D hD
  have hoD : D ∉ ρ.ow.map (·.1) := fun hm => by
    obtain ⟨⟨a', c'⟩, hq, e'⟩ := List.mem_map.mp hm
    have e' : a' = D := e'
    subst e'
    obtain ⟨_, _, o, e, _⟩ := E.ow a' c' hq
    rw [hD] at e
    cases e
  refine ⟨⟨E.b0, E.bh.hid hB, E.ah.hid hA, E.av, E.tabs.ext fun b u e => by rw [upd_ne (ne_of_none e hD)]; exact e, E.sl, fun a c m => ?_, E.nd, E.ln⟩, hA, hB, hoD⟩
  obtain ⟨h1, h2, h3⟩ := E.ow a c m
  exact ⟨h1, h2, h3.mono (Ext.refl _) (Ext.new hD)⟩
/-- the thing at D comes to stay -/
theorem EnvB.keepD {D : Addr} {o : HO} (E : EnvB G A B0 B ρ σ H) (hA : A D = none) (hB : B D = none) (hD : D ∉ ρ.ow.map (·.1)) (e : H D = some o) : Ext B (upd B D o) ∧ EnvB G A B0 (upd B D o) ρ σ H := by
  have x : Ext B (upd B D o) := Ext.new hB
  refine ⟨x, E.b0.trans x, ⟨fun b u e' n => ?_, fun b e' => ?_⟩, E.ah, fun a ha hb => ?_, E.tabs, fun j p e => let ⟨v, h1, h2⟩ := E.sl j p e; ⟨v, h1, p.mono x h2⟩, fun a c m => ?_, E.nd, E.ln⟩
  · by_cases hb : b = D
    · subst hb; rw [upd_same] at e'; rw [e]; exact e'
    · rw [upd_ne hb] at e'; exact E.bh.keep b u e' n
  · have hb : b ≠ D := fun z => by rw [z, e] at e'; cases e'
    rw [upd_ne hb]
    exact E.bh.back b e'
  · have na : a ≠ D := fun z => ha (by rw [z]; exact hA)
    rw [upd_ne na]
    exact E.av a ha hb
  · obtain ⟨h1, h2, h3⟩ := E.ow a c m
    have na : a ≠ D := fun z => hD (by rw [← z]; exact List.mem_map.mpr ⟨(a, c), m, rfl⟩)
    exact ⟨h1, by rw [upd_ne na]; exact h2, h3.mono x (Ext.refl _)⟩
/-- what the body of a block leaves of D -/
theorem keepAt {D : Addr} {o : HO} {H3 H' : Hp} {ow : List (Addr × Cont G)} (hoD : D ∉ ow.map (·.1)) (n : ∀ ps, o ≠ .tbl ps) (w : Ext (restH ow H) H') (e : H D = some o) : H' D = some o := w.keep D _ (by rw [restH_out hoD]; exact e) n

/-- {word for ..}: words that differ -/
theorem e_scK {own : List (Str × Nat)} {scope : Scope} {ps : List (PV G)} {is : List Nat} (f : Nat → List (Option (PV G)) → List (Option (PV G))) (xs : List Str) (hi : ItD L ρ tg iter ps) (ok : BlkOk L.X.N L.X.env.scope scope own) (hl : xs.length = ps.length) (hsz : ps.length ≤ 100) (nd : xs.Nodup)
    (his : ∀ j ∈ is, j ∈ own.map (·.2)) (hg : ∀ L', BlkL L scope L' → ∀ (i : Nat) p, ps[i]? = some p → TgD L' tg p is (f i))
    (he : ∀ L', BlkL L scope L' → ∀ (i : Nat) p x, ps[i]? = some p → xs[i]? = some x → EvD L' ⟨f i (wipeS ρ.sl (own.map (·.2))), ρ.ow⟩ elt (dat (.str x))) (hfs : ∀ x, foldedSetIterable iter L.X.env x = pure x := by intro _; rfl) :
    EvD L ρ (.SetComp elt [⟨tg, iter, [], 0⟩] scope pos) (setP xs.length) := EvD.of fun A B0 B σ H Q E k => by
  refine WE.of (pe_scK L.calm L.nd (WI.pi _ _ _) ok (fun s H C cl fp => wg_blk s H C cl fp) (fun s H C cl fp => pts_nil) (fun s H C cl fp => we_blk s H C cl fp) hfs) ?_
  refine hi A B0 B σ H _ E fun J0 B1 H1 W x1 E1 D hD => ?_
  rw [L.hP, L.hw]
  let Sf := fun (i : Nat) (k : Key) => (xs.take i).any fun x => decide (k = Sum.inr x)
  obtain ⟨E1', hAD, hBD, hoD⟩ := E1.newD (o2 := SetK G.P G.w D (fun _ => false) 0) hD
  have nT : ∀ {S n} ps', SetK G.P G.w D S n ≠ .tbl ps' := fun ps' z => by unfold SetK at z; cases z
  let St := fun (i : Nat) (H : Hp) => ∃ (B2 : Hp), Ext B1 B2 ∧ B2 D = none ∧ EnvB G A B0 B2 ρ σ H ∧ H D = some (SetK G.P G.w D (Sf i) i)
  have h0 : St 0 (upd H1 D (SetK G.P G.w D (fun _ => false) 0)) := ⟨B1, Ext.refl _, hBD, E1', by
    have : Sf 0 = fun _ => false := by funext k; simp [Sf]
    rw [upd_same, this]⟩
  refine ⟨fun i m H => m = ps.length - i ∧ i ≤ ps.length ∧ St i H, ⟨ps.length, by simp, Nat.zero_le _, h0⟩, ?_⟩
  rintro i m H ⟨rfl, hi, B2, x2, hB2, E2, hDl⟩
  by_cases hlt : i < ps.length
  · refine .inr ⟨W.goes i H hlt (x2.trans E2.bh), St (i + 1), fun H' s' => ⟨ps.length - (i + 1), by omega, rfl, hlt, s'⟩, fun v H3 y => ?_⟩
    have hp2 : ps[i]? = some ps[i] := by simp [hlt]
    have hg2 : xs[i]? = some (xs[i]'(by omega)) := by simp [hl, hlt]
    generalize xs[i]'(by omega) = x at hg2
    obtain ⟨B4, x4, E4, hv⟩ := W.yields i ps[i] _ _ B2 ρ σ H v H3 hp2 x2 E2.re y
    have E4w := E4.re.wiped (own.map (·.2))
    have h3D : H3 D = some (SetK G.P G.w D (Sf i) i) := keepAt (H3 := H3) hoD (nT) E4.ah hDl
    have hB4 : B4 D = none := E4.av D (by rw [restH_out hoD, hDl]; exact fun z => nomatch z) hB2
    intro L' hL'
    refine hg L' hL' i ps[i] hp2 _ _ B4 _ (wipe σ (own.map (·.2))) H3 v _ E4w hv fun σ3 o3 E3 => ?_
    refine ⟨o3.wiped his, ?_⟩
    show (if true = true then (∀ L', BlkL L scope L' → WE L'.X elt σ3 H3 _) else St (i + 1) H3)
    rw [if_pos rfl]
    intro L2' hL2'
    refine (he L2' hL2' i ps[i] x hp2 hg2).run E3 fun w B5 H5 x5 E5 y5 => ?_
    obtain rfl : w = .str x := dp_str y5
    have b5 : B5 D = none := E5.av D (by rw [restH_out hoD, h3D]; exact fun z => nomatch z) hB4
    have E6 := E2.un (E4.un (ρ1 := ⟨_, ρ.ow⟩) E5)
    have E7 := E2.back (x4.trans x5) E6
    have e5 : H5 D = some (SetK G.P G.w D (Sf i) i) := keepAt (H3 := H3) hoD (nT) E5.ah h3D
    refine ⟨Sum.inr x, Sf i, i, rfl, e5, (by show i + 1 < 4096; omega), B5, (x2.trans x4).trans x5, b5, E7.atD hAD b5 hoD e5 (nT) (fun q => setK_code), ?_⟩
    have tk : xs.take (i + 1) = xs.take i ++ [x] := by rw [List.take_add_one, hg2]; rfl
    have nin : Sf i (Sum.inr x) = false := by
      refine Bool.eq_false_iff.mpr fun hm => ?_
      obtain ⟨y, hy, ey⟩ := List.any_eq_true.mp hm
      have ey := Sum.inr.inj (of_decide_eq_true ey)
      subst ey
      obtain ⟨j, hj⟩ := List.getElem?_of_mem hy
      rw [List.getElem?_take] at hj
      split at hj
      · rename_i hji
        have := (List.getElem?_inj (by omega) nd).mp (hj.trans hg2.symm)
        omega
      · cases hj
    rw [upd_same, nin]
    congr 2
    funext j
    show (Sf i j || decide (j = Sum.inr x)) = Sf (i + 1) j
    simp only [Sf]
    rw [tk, List.any_append, List.any_cons, List.any_nil, Bool.or_false]
  · have e : i = ps.length := by omega
    subst e
    refine .inl ⟨W.stops H (x2.trans E2.bh), ?_⟩
    obtain ⟨y1, y2⟩ := E2.keepD hAD hB2 hoD hDl
    exact k (.ref D) _ H ((x1.trans x2).trans y1) y2 ⟨D, _, rfl, by rw [upd_same, hl]⟩
theorem k_lenSet {n : Nat} : CallD L (.builtin "len") [setP n] (dat (.int n)) := ⟨fun xs H Q => ∃ a S n, xs = [.ref a] ∧ H a = some (SetK L.X.prog L.X.w a S n) ∧ Q (.int (n : Nat)) H, fun pins s σ H xs us Q I r ⟨a, S, n, e, h, q⟩ => by
  subst e
  obtain ⟨u, rfl, rx⟩ := vals1 r
  obtain rfl : u = .ref a := rx
  obtain ⟨o, es, ep, t, ho, hex, hd, _, _, hb, hf, hn⟩ := setK_get I h
  refine call_len_set ho hex hd hf (by have hb : es.size < 4096 := hb; omega) ⟨.int n, H, I.tok _, ⟨_, by rw [hn]⟩, q⟩, fun A B0 B ρ σ H xs Q E hx k => by
  obtain ⟨v, rfl, a, S, rfl, h⟩ := pvs1 hx
  exact ⟨a, S, n, rfl, by rw [L.hP, L.hw]; exact E.bh.keep a _ h (fun ps z => by unfold SetK at z; cases z), here E k (.int _)⟩⟩
end
end MR
/-! L8c: [.. for .. for ..]. -/
namespace MR
open PySem PySem.Spec PyProof.Rows L2
section
variable {G : GC} {L : LC G} {ρ ρ1 ρ2 : Rho G} {e a b c : Expr} {es : List Expr} {p q z : PV G} {pos p1 p2 : Pos} {d d1 d2 : PyData} {tg iter elt tg1 iter1 : Expr} {A B0 B B1 : Hp} {σ : L2.St} {H H1 : Hp}
/-- the list so far at D -/
def LSt (A B0 B1 : Hp) (ρ : Rho G) (σ : L2.St) (D : Addr) (ds : List PyData) (H : Hp) : Prop := ∃ (B2 : Hp) (acc : List V), Ext B1 B2 ∧ B2 D = none ∧ EnvB G A B0 B2 ρ σ H ∧ H D = some (.lst acc) ∧ DpAll G.K B2 acc ds
theorem pi_blk {scope : Scope} (s : Shared) (H : Hp) (C : Addr) (cl : List (Str × Addr)) (fp : List Addr) : PI (L.X.blk s H scope (compEnvC scope cl C L.X.env) fp) tg1 iter1 (fun σ H R => ∀ L', BlkL L scope L' → WI L'.X tg1 iter1 σ H R) :=
  ⟨fun pins s' σ H' R I h => h (L.blk s H scope C cl fp) ⟨s, H, C, cl, fp, rfl⟩ pins s' I⟩
theorem e_lc2 {own : List (Str × Nat)} {scope : Scope} {ps qs : List (PV G)} {is js vs1 : List Nat} (f g : Nat → List (Option (PV G)) → List (Option (PV G))) (gs : List (List PyData)) (hi : ItD L ρ tg iter ps) (ok : BlkOk L.X.N L.X.env.scope scope own) (hv : ∀ i ∈ vs1, i ∈ own.map (·.2)) (hl : gs.length = ps.length)
    (hl1 : ∀ l ∈ gs, l.length = qs.length) (hsz : ps.length * qs.length ≤ 100000) (his : ∀ j ∈ is, j ∈ own.map (·.2)) (hjs : ∀ j ∈ js, j ∈ vs1) (hg : ∀ L', BlkL L scope L' → ∀ (i : Nat) p, ps[i]? = some p → TgD L' tg p is (f i)) (hg1 : ∀ L', BlkL L scope L' → ∀ (i : Nat) p, qs[i]? = some p → TgD L' tg1 p js (g i))
    (hi1 : ∀ L', BlkL L scope L' → ∀ (i : Nat) p, ps[i]? = some p → ItD L' ⟨f i (wipeS ρ.sl (own.map (·.2))), ρ.ow⟩ tg1 iter1 qs)
    (he : ∀ L', BlkL L scope L' → ∀ (i : Nat) p l (j : Nat) q d, ps[i]? = some p → gs[i]? = some l → qs[j]? = some q → l[j]? = some d → EvD L' ⟨g j (wipeS (f i (wipeS ρ.sl (own.map (·.2)))) vs1), ρ.ow⟩ elt (dat d)) (hfs : ∀ x, foldedSetIterable iter L.X.env x = pure x := by intro _; rfl) (hfs1 : ∀ env x, foldedSetIterable iter1 env x = pure x := by intro _ _; rfl) :
    EvD L ρ (.ListComp elt [⟨tg, iter, [], 0⟩, ⟨tg1, iter1, [], 0⟩] scope pos) (dat (.list gs.flatten)) := EvD.of fun A B0 B σ H Q E k => by
  refine WE.of (pe_lc2 L.calm L.nd (WI.pi _ _ _) ok hv (fun s H C cl fp => wg_blk s H C cl fp) (fun s H C cl fp => pts_nil) (fun s H C cl fp => pi_blk s H C cl fp) (fun s H C cl fp => wg_blk s H C cl fp) (fun s H C cl fp => pts_nil) (fun s H C cl fp => we_blk s H C cl fp) hfs hfs1) ?_
  refine hi A B0 B σ H _ E fun J0 B1 H1 W x1 E1 D hD => ?_
  obtain ⟨E1', hAD, hBD, hoD⟩ := E1.newD (o2 := .lst []) hD
  have nT : ∀ {vs : List V} ps', HO.lst vs ≠ .tbl ps' := fun ps' z => nomatch z
  have nC : ∀ {vs : List V} q, HO.lst vs ≠ LamX.CodeO D q := fun q z => by unfold LamX.CodeO at z; cases z
  have flen : ∀ l : List (List PyData), (∀ x ∈ l, x.length = qs.length) → l.flatten.length = l.length * qs.length := fun l h => by
    induction l with
    | nil => simp
    | cons x l ih =>
      rw [List.flatten_cons, List.length_append, List.length_cons, ih (fun y hy => h y (List.mem_cons_of_mem _ hy)), h x List.mem_cons_self, Nat.succ_mul]
      omega
  refine ⟨fun i m H => m = ps.length - i ∧ i ≤ ps.length ∧ LSt A B0 B1 ρ σ D (gs.take i).flatten H, ⟨ps.length, by simp, Nat.zero_le _, B1, [], Ext.refl _, hBD, E1', upd_same, .nil⟩, ?_⟩
  rintro i m H ⟨rfl, hi, B2, acc, x2, hB2, E2, hDl, hacc⟩
  by_cases hlt : i < ps.length
  · refine .inr ⟨W.goes i H hlt (x2.trans E2.bh), LSt A B0 B1 ρ σ D (gs.take (i + 1)).flatten, fun H' s' => ⟨ps.length - (i + 1), by omega, rfl, hlt, s'⟩, fun v H3 y => ?_⟩
    have hp2 : ps[i]? = some ps[i] := by simp [hlt]
    have hg2 : gs[i]? = some (gs[i]'(by omega)) := by simp [hl, hlt]
    generalize gs[i]'(by omega) = l at hg2
    have hll : l.length = qs.length := hl1 l (List.mem_of_getElem? hg2)
    have tk : (gs.take (i + 1)).flatten = (gs.take i).flatten ++ l := by rw [List.take_add_one, hg2, List.flatten_append]; simp
    have lacc : acc.length = i * qs.length := by
      rw [dpa_len hacc, flen _ (fun x hx => hl1 x (List.mem_of_mem_take hx)), List.length_take]
      congr 1
      omega
    have imul : (i + 1) * qs.length ≤ ps.length * qs.length := Nat.mul_le_mul_right _ hlt
    rw [Nat.succ_mul] at imul
    obtain ⟨B4, x4, E4, hv4⟩ := W.yields i ps[i] _ _ B2 ρ σ H v H3 hp2 x2 E2.re y
    have E4w := E4.re.wiped (own.map (·.2))
    have h3D : H3 D = some (.lst acc) := keepAt (H3 := H3) hoD nT E4.ah hDl
    have hB4 : B4 D = none := E4.av D (by rw [restH_out hoD, hDl]; exact fun z => nomatch z) hB2
    intro L' hL'
    refine hg L' hL' i ps[i] hp2 _ _ B4 _ (wipe σ (own.map (·.2))) H3 v _ E4w hv4 fun σ3 o3 E3 => ?_
    refine ⟨o3.wiped his, ?_⟩
    -- the inner walk, in the outer frame
    have E5 : EnvB G A B0 B4 ⟨f i (wipeS ρ.sl (own.map (·.2))), ρ.ow⟩ σ3 H3 := E2.un (E4.un (ρ1 := ⟨_, ρ.ow⟩) E3)
    show (if true = true then (∀ L', BlkL L scope L' → WI L'.X tg1 iter1 σ3 H3 _) else LSt A B0 B1 ρ σ D (gs.take (i + 1)).flatten H3)
    rw [if_pos rfl]
    intro L2' hL2'
    refine hi1 L2' hL2' i ps[i] hp2 _ B4 B4 σ3 H3 _ E3 fun J1 B6 H6 W1 x6 E6 => ?_
    have E6' : EnvB G A B0 B6 ⟨f i (wipeS ρ.sl (own.map (·.2))), ρ.ow⟩ σ3 H6 := E2.un (E4.un (ρ1 := ⟨_, ρ.ow⟩) E6)
    have h6D : H6 D = some (.lst acc) := keepAt (H3 := H3) hoD nT E6.ah h3D
    have hB6 : B6 D = none := E6.av D (by rw [restH_out hoD, h3D]; exact fun z => nomatch z) hB4
    refine ⟨fun j m H => m = qs.length - j ∧ j ≤ qs.length ∧ LSt A B0 B6 ⟨f i (wipeS ρ.sl (own.map (·.2))), ρ.ow⟩ σ3 D ((gs.take i).flatten ++ l.take j) H, ⟨qs.length, by simp, Nat.zero_le _, B6, acc, Ext.refl _, hB6, E6', h6D, by rw [List.take_zero, List.append_nil]; exact dpa_mono (x4.trans x6) _ _ hacc⟩, ?_⟩
    rintro j m1 H7 ⟨rfl, hj, B7, acc7, x7, hB7, E7, h7D, hacc7⟩
    by_cases hlt1 : j < qs.length
    · refine .inr ⟨W1.goes j H7 hlt1 (x7.trans E7.bh), LSt A B0 B6 ⟨f i (wipeS ρ.sl (own.map (·.2))), ρ.ow⟩ σ3 D ((gs.take i).flatten ++ l.take (j + 1)), fun H' s' => ⟨qs.length - (j + 1), by omega, rfl, hlt1, s'⟩, fun v8 H8 y8 => ?_⟩
      have hq2 : qs[j]? = some qs[j] := by simp [hlt1]
      have hd2 : l[j]? = some (l[j]'(by omega)) := by simp [hll, hlt1]
      generalize l[j]'(by omega) = d at hd2
      obtain ⟨B8, x8, E8, hv8⟩ := W1.yields j qs[j] _ _ B7 ⟨f i (wipeS ρ.sl (own.map (·.2))), ρ.ow⟩ σ3 H7 v8 H8 hq2 x7 E7.re y8
      have E8w := E8.re.wiped vs1
      have h8D : H8 D = some (.lst acc7) := keepAt (H3 := H8) hoD nT E8.ah h7D
      have hB8 : B8 D = none := E8.av D (by rw [restH_out hoD, h7D]; exact fun z => nomatch z) hB7
      intro L3' hL3'
      refine hg1 L3' hL3' j qs[j] hq2 _ _ B8 _ (wipe σ3 vs1) H8 v8 _ E8w hv8 fun σ9 o9 E9 => ?_
      refine ⟨o9.wiped hjs, ?_⟩
      show (if true = true then (∀ L', BlkL L scope L' → WE L'.X elt σ9 H8 _) else LSt A B0 B6 ⟨f i (wipeS ρ.sl (own.map (·.2))), ρ.ow⟩ σ3 D ((gs.take i).flatten ++ l.take (j + 1)) H8)
      rw [if_pos rfl]
      intro L4' hL4'
      refine (he L4' hL4' i ps[i] l j qs[j] d hp2 hg2 hq2 hd2).run E9 fun w B9 H9 x9 E9' y9 => ?_
      have b9 : B9 D = none := E9'.av D (by rw [restH_out hoD, h8D]; exact fun z => nomatch z) hB8
      have E10 := E7.un (E8.un (ρ1 := ⟨_, ρ.ow⟩) E9')
      have E11 := E7.back (x8.trans x9) E10
      have e9 : H9 D = some (.lst acc7) := keepAt (H3 := H8) hoD nT E9'.ah h8D
      have tk1 : l.take (j + 1) = l.take j ++ [d] := by rw [List.take_add_one, hd2]; rfl
      refine ⟨acc7, e9, ?_, B9, acc7 ++ [w], (x7.trans x8).trans x9, b9, E11.atD hAD b9 hoD e9 nT (fun q => nC q), upd_same, ?_⟩
      · have q1 := dpa_len hacc7
        rw [List.length_append, flen _ (fun x hx => hl1 x (List.mem_of_mem_take hx)), List.length_take, List.length_take] at q1
        have q2 : min i gs.length = i := by omega
        rw [q2] at q1
        rw [sizeLine_eq]
        omega
      · rw [tk1, ← List.append_assoc]
        exact dpa_snoc (dpa_mono (x8.trans x9) _ _ hacc7) y9
    · have ej : j = qs.length := by omega
      subst ej
      refine .inl ⟨W1.stops H7 (x7.trans E7.bh), ?_⟩
      have tkl : l.take qs.length = l := by rw [← hll, List.take_length]
      rw [tkl, ← tk] at hacc7
      exact ⟨B7, acc7, ((x2.trans x4).trans x6).trans x7, hB7, E2.back ((x4.trans x6).trans x7) E7, h7D, hacc7⟩
  · have e : i = ps.length := by omega
    subst e
    refine .inl ⟨W.stops H (x2.trans E2.bh), ?_⟩
    obtain ⟨y1, y2⟩ := E2.keepD hAD hB2 hoD hDl
    have tk : gs.take ps.length = gs := by rw [← hl, List.take_length]
    rw [tk] at hacc
    exact k (.ref D) _ H ((x1.trans x2).trans y1) y2 (.lst (SqL.of upd_same) (dpa_mono y1 _ _ hacc))
end
end MR
/-! L9: the usual forms. -/
namespace MR
open PySem PySem.Spec PyProof.Rows L2
section
variable {G : GC} {L : LC G} {ρ ρ1 ρ2 : Rho G} {e a b c : Expr} {es : List Expr} {p q z : PV G} {pos p1 p2 : Pos} {d d1 d2 : PyData} {tg iter elt : Expr} {ds : List PyData} {own : List (Str × Nat)} {scope : Scope} {st : Stmt} {Po : Post G}
/-- the slot i takes the k-th thing -/
def putN (i : Nat) (ps : List (PV G)) (k : Nat) (l : List (Option (PV G))) : List (Option (PV G)) := match ps[k]? with
  | some p => l.set i (some p)
  | none => l
theorem putN_eq {i : Nat} {ps : List (PV G)} {k : Nat} {l : List (Option (PV G))} (h : ps[k]? = some p) : putN i ps k l = l.set i (some p) := by unfold putN; rw [h]
/-- the slots i, j take the k-th pair -/
def putP (i j : Nat) (ps : List (PV G × PV G)) (k : Nat) (l : List (Option (PV G))) : List (Option (PV G)) := match ps[k]? with
  | some p => (l.set i (some p.1)).set j (some p.2)
  | none => l
theorem putP_eq {i j : Nat} {ps : List (PV G × PV G)} {k : Nat} {l : List (Option (PV G))} {p : PV G × PV G} (h : ps[k]? = some p) : putP i j ps k l = (l.set i (some p.1)).set j (some p.2) := by unfold putP; rw [h]
theorem g_nameN (i : Nat) {x : Str} {ps : List (PV G)} {k : Nat} (h : ps[k]? = some p) (hN : L.X.N[i]? = some x) (hx : Loc L.X.env.scope x) (hf : L.X.fn x = true ∨ L.X.env.scope.names.lookup x = some .local) : TgD L (.Name x pos) p [i] (putN i ps k) := by
  have e : putN (G := G) i ps k = setS i p := by funext l; exact putN_eq h
  rw [e]
  exact g_name i hN hx hf
/-- a target of two names -/
theorem g_pair (i j : Nat) {x y : Str} {px py pt : Pos} {k : Nat} (hi : L.X.N[i]? = some x) (hj : L.X.N[j]? = some y) (hx : Loc L.X.env.scope x) (hy : Loc L.X.env.scope y) (hfx : L.X.fn x = true ∨ L.X.env.scope.names.lookup x = some .local) (hfy : L.X.fn y = true ∨ L.X.env.scope.names.lookup y = some .local)
    (hn : (assignEach [.Name x px, .Name y py] L.X.env).length = 2 := by rfl) (hst : (assignEach [.Name x px, .Name y py] L.X.env).findIdx? (·.1) = none := by rfl) (h1 : (assignEach [.Name x px, .Name y py] L.X.env).map (·.2) = assign (.Name x px) L.X.env :: (assignEach [.Name y py] L.X.env).map (·.2) := by rfl)
    (h2 : (assignEach [.Name y py] L.X.env).map (·.2) = assign (.Name y py) L.X.env :: (assignEach [] L.X.env).map (·.2) := by rfl) :
    TgD L (.Tuple [.Name x px, .Name y py] k pt) (tupP [p, q]) [i, j] (fun l => (l.set i (some p)).set j (some q)) :=
  g_tup (gs_cons (g_name i hi hx hfx) (gs_cons (g_name j hj hy hfy) gs_nil h2) h1) hn hst
theorem tupP_of {H : Hp} {v : V} (h : Dp G.K H v (.tuple ds)) : (tupP (G := G) (ds.map dat)).p H v := by
  obtain ⟨a, xs, e, h1, h2⟩ := dp_tup h
  exact ⟨a, xs, e, h1, pvs_of h2⟩
theorem TgD.dat {is : List Nat} {f : List (Option (PV G)) → List (Option (PV G))} (h : TgD L tg (tupP (ds.map MR.dat)) is f) : TgD L tg (MR.dat (.tuple ds)) is f := .mk fun A B0 B ρ σ H v Q E hp k => h A B0 B ρ σ H v Q E (tupP_of hp) k
/-- [elt for x in iter] -/
theorem lcN (i : Nat) {x : Str} {px : Pos} (gs : List PyData) (hi : ItD L ρ (.Name x px) iter (ds.map dat)) (ok : BlkOk L.X.N L.X.env.scope scope own) (hl : gs.length = ds.length) (hsz : ds.length ≤ 100000)
    (he : ∀ s H C cl fp (k : Nat) d g, ds[k]? = some d → gs[k]? = some g → EvD (L.blk s H scope C cl fp) ⟨(wipeS ρ.sl (own.map (·.2))).set i (some (dat d)), ρ.ow⟩ elt (dat g)) (hin : i ∈ own.map (·.2) := by decide) (hN : L.X.N[i]? = some x := by rfl)
    (hx : Loc (relabel scope L.X.env) x := by first | exact Or.inl rfl | exact Or.inr rfl) (hf : (relabel scope L.X.env).names.lookup x = some .local := by rfl)
    (hfs : ∀ x, foldedSetIterable iter L.X.env x = pure x := by intro _; rfl) : LcR L ρ own scope [] elt (.Name x px) iter gs :=
  lcR (is := [i]) (putN i (ds.map dat)) gs hi ok (by rw [List.length_map]; exact hl) (by rw [List.length_map]; exact hsz) (fun j hj => by rw [List.mem_singleton.mp hj]; exact hin)
    (fun L' hL' k p hp => by obtain ⟨s, H, C, cl, fp, rfl⟩ := hL'; exact g_nameN i hp hN hx (.inr hf))
    (fun L' hL' k p g hp hg => by
      obtain ⟨s, H, C, cl, fp, rfl⟩ := hL'
      obtain ⟨d, h1, h2⟩ := dats_get hp
      rw [putN_eq hp, h2]
      exact he s H C cl fp k d g h1 hg) hfs
/-- [elt for x in iter if c] -/
theorem lcNIf (i : Nat) {x : Str} {px : Pos} (gs : List (Option PyData)) (hi : ItD L ρ (.Name x px) iter (ds.map dat)) (ok : BlkOk L.X.N L.X.env.scope scope own) (hl : gs.length = ds.length) (hsz : ds.length ≤ 100000)
    (ht : ∀ s H C cl fp (k : Nat) d g, ds[k]? = some d → gs[k]? = some g → EvT (L.blk s H scope C cl fp) ⟨(wipeS ρ.sl (own.map (·.2))).set i (some (dat d)), ρ.ow⟩ c g.isSome)
    (he : ∀ s H C cl fp (k : Nat) d g, ds[k]? = some d → gs[k]? = some (some g) → EvD (L.blk s H scope C cl fp) ⟨(wipeS ρ.sl (own.map (·.2))).set i (some (dat d)), ρ.ow⟩ elt (dat g)) (hin : i ∈ own.map (·.2) := by decide) (hN : L.X.N[i]? = some x := by rfl)
    (hx : Loc (relabel scope L.X.env) x := by first | exact Or.inl rfl | exact Or.inr rfl) (hf : (relabel scope L.X.env).names.lookup x = some .local := by rfl)
    (hfs : ∀ x, foldedSetIterable iter L.X.env x = pure x := by intro _; rfl) : LcR L ρ own scope [c] elt (.Name x px) iter (gs.filterMap id) :=
  lcRIf (is := [i]) (putN i (ds.map dat)) gs hi ok (by rw [List.length_map]; exact hl) (by rw [List.length_map]; exact hsz) (fun j hj => by rw [List.mem_singleton.mp hj]; exact hin)
    (fun L' hL' k p hp => by obtain ⟨s, H, C, cl, fp, rfl⟩ := hL'; exact g_nameN i hp hN hx (.inr hf))
    (fun L' hL' k p g hp hg => by
      obtain ⟨s, H, C, cl, fp, rfl⟩ := hL'
      obtain ⟨d, h1, h2⟩ := dats_get hp
      rw [putN_eq hp, h2]
      exact ht s H C cl fp k d g h1 hg)
    (fun L' hL' k p g hp hg => by
      obtain ⟨s, H, C, cl, fp, rfl⟩ := hL'
      obtain ⟨d, h1, h2⟩ := dats_get hp
      rw [putN_eq hp, h2]
      exact he s H C cl fp k d g h1 hg) hfs
theorem g_pairN (i j : Nat) {x y : Str} {px py pt : Pos} {kk : Nat} {prs : List (PV G × PV G)} {k : Nat} {q : PV G × PV G} (h : prs[k]? = some q) (hi : L.X.N[i]? = some x) (hj : L.X.N[j]? = some y) (hx : Loc L.X.env.scope x) (hy : Loc L.X.env.scope y) (hfx : L.X.fn x = true ∨ L.X.env.scope.names.lookup x = some .local) (hfy : L.X.fn y = true ∨ L.X.env.scope.names.lookup y = some .local)
    (hn : (assignEach [.Name x px, .Name y py] L.X.env).length = 2 := by rfl) (hst : (assignEach [.Name x px, .Name y py] L.X.env).findIdx? (·.1) = none := by rfl) (h1 : (assignEach [.Name x px, .Name y py] L.X.env).map (·.2) = assign (.Name x px) L.X.env :: (assignEach [.Name y py] L.X.env).map (·.2) := by rfl)
    (h2 : (assignEach [.Name y py] L.X.env).map (·.2) = assign (.Name y py) L.X.env :: (assignEach [] L.X.env).map (·.2) := by rfl) : TgD L (.Tuple [.Name x px, .Name y py] kk pt) (tupP [q.1, q.2]) [i, j] (putP i j prs k) := by
  have e : putP (G := G) i j prs k = fun l => (l.set i (some q.1)).set j (some q.2) := by funext l; exact putP_eq h
  rw [e]
  exact g_pair i j hi hj hx hy hfx hfy hn hst h1 h2
theorem pairs_get {prs : List (PV G × PV G)} {k : Nat} (h : (prs.map fun q => tupP [q.1, q.2])[k]? = some p) : ∃ q, prs[k]? = some q ∧ p = tupP [q.1, q.2] := by
  rw [List.getElem?_map] at h
  cases e : prs[k]? with
  | none => rw [e] at h; cases h
  | some q => rw [e] at h; exact ⟨q, rfl, (Option.some.inj h).symm⟩
/-- [elt for x, y in ..] -/
theorem lcP (i j : Nat) {x y : Str} {px py pt : Pos} {kk : Nat} {prs : List (PV G × PV G)} (gs : List PyData) (hi : ItD L ρ (.Tuple [.Name x px, .Name y py] kk pt) iter (prs.map fun q => tupP [q.1, q.2])) (ok : BlkOk L.X.N L.X.env.scope scope own) (hl : gs.length = prs.length) (hsz : prs.length ≤ 100000)
    (he : ∀ s H C cl fp (k : Nat) q g, prs[k]? = some q → gs[k]? = some g → EvD (L.blk s H scope C cl fp) ⟨((wipeS ρ.sl (own.map (·.2))).set i (some q.1)).set j (some q.2), ρ.ow⟩ elt (dat g)) (hin : i ∈ own.map (·.2) := by decide) (hjn : j ∈ own.map (·.2) := by decide) (hN : L.X.N[i]? = some x := by rfl) (hM : L.X.N[j]? = some y := by rfl)
    (hx : Loc (relabel scope L.X.env) x := by first | exact Or.inl rfl | exact Or.inr rfl) (hy : Loc (relabel scope L.X.env) y := by first | exact Or.inl rfl | exact Or.inr rfl) (hf : (relabel scope L.X.env).names.lookup x = some .local := by rfl) (hfy : (relabel scope L.X.env).names.lookup y = some .local := by rfl)
    (hfs : ∀ x, foldedSetIterable iter L.X.env x = pure x := by intro _; rfl) : LcR L ρ own scope [] elt (.Tuple [.Name x px, .Name y py] kk pt) iter gs :=
  lcR (is := [i, j]) (putP i j prs) gs hi ok (by rw [List.length_map]; exact hl) (by rw [List.length_map]; exact hsz) (fun j' hj => by
      rcases List.mem_cons.mp hj with h | h
      · rw [h]; exact hin
      · rw [List.mem_singleton.mp h]; exact hjn)
    (fun L' hL' k p hp => by
      obtain ⟨s, H, C, cl, fp, rfl⟩ := hL'
      obtain ⟨q, h1, rfl⟩ := pairs_get hp
      exact g_pairN i j h1 hN hM hx hy (.inr hf) (.inr hfy))
    (fun L' hL' k p g hp hg => by
      obtain ⟨s, H, C, cl, fp, rfl⟩ := hL'
      obtain ⟨q, h1, rfl⟩ := pairs_get hp
      rw [putP_eq h1]
      exact he s H C cl fp k q g h1 hg) hfs
/-- for x in iter -/
theorem s1_forN (i : Nat) {x : Str} {px : Pos} {body : List Stmt} (hi : ItD L ρ (.Name x px) iter (ds.map dat)) (J : Nat → Rho G → Prop) (h0 : J 0 ρ)
    (hs : ∀ (k : Nat) d ρ1, ds[k]? = some d → J k ρ1 → StD L ⟨ρ1.sl.set i (some (dat d)), ρ1.ow⟩ body { nx := J (k + 1), ct := J (k + 1), bk := Po.nx, rt := Po.rt }) (hd : ∀ ρ1, J ds.length ρ1 → Po.nx ρ1) (hN : L.X.N[i]? = some x := by rfl) (hx : Loc L.X.env.scope x := by first | exact Or.inl rfl | exact Or.inr rfl)
    (hf : L.X.fn x = true ∨ L.X.env.scope.names.lookup x = some .local := by first | exact .inl rfl | exact .inr rfl) (hp : PassesOwn (model L.X.prog L.X.w) L.X.A L.X.env L.X.xe := by exact PassesOwn.never) (hfs : ∀ x, foldedSetIterable iter L.X.env x = pure x := by intro _; rfl) :
    S1D L ρ (.For (.Name x px) iter body [] pos) Po :=
  s1_for (is := [i]) (f := putN i (ds.map dat)) hi (fun k p h => g_nameN i h hN hx hf) J h0 (fun k p ρ1 h j => by
    obtain ⟨d, h1, h2⟩ := dats_get h
    rw [putN_eq h, h2]
    exact hs k d ρ1 h1 j) (fun ρ1 j => hd ρ1 (by rw [List.length_map] at j; exact j)) hp hfs
/-- for x, y in iter -/
theorem s1_forP (i j : Nat) {x y : Str} {px py pt : Pos} {kk : Nat} {prs : List (PV G × PV G)} {body : List Stmt} (hi : ItD L ρ (.Tuple [.Name x px, .Name y py] kk pt) iter (prs.map fun q => tupP [q.1, q.2])) (J : Nat → Rho G → Prop) (h0 : J 0 ρ)
    (hs : ∀ (k : Nat) q ρ1, prs[k]? = some q → J k ρ1 → StD L ⟨(ρ1.sl.set i (some q.1)).set j (some q.2), ρ1.ow⟩ body { nx := J (k + 1), ct := J (k + 1), bk := Po.nx, rt := Po.rt }) (hd : ∀ ρ1, J prs.length ρ1 → Po.nx ρ1) (hN : L.X.N[i]? = some x := by rfl) (hM : L.X.N[j]? = some y := by rfl)
    (hx : Loc L.X.env.scope x := by first | exact Or.inl rfl | exact Or.inr rfl) (hy : Loc L.X.env.scope y := by first | exact Or.inl rfl | exact Or.inr rfl)
    (hf : L.X.fn x = true ∨ L.X.env.scope.names.lookup x = some .local := by first | exact .inl rfl | exact .inr rfl) (hfy : L.X.fn y = true ∨ L.X.env.scope.names.lookup y = some .local := by first | exact .inl rfl | exact .inr rfl) (hp : PassesOwn (model L.X.prog L.X.w) L.X.A L.X.env L.X.xe := by exact PassesOwn.never) (hfs : ∀ x, foldedSetIterable iter L.X.env x = pure x := by intro _; rfl)
    (hn : (assignEach [.Name x px, .Name y py] L.X.env).length = 2 := by rfl) (hst : (assignEach [.Name x px, .Name y py] L.X.env).findIdx? (·.1) = none := by rfl) (h1 : (assignEach [.Name x px, .Name y py] L.X.env).map (·.2) = assign (.Name x px) L.X.env :: (assignEach [.Name y py] L.X.env).map (·.2) := by rfl)
    (h2 : (assignEach [.Name y py] L.X.env).map (·.2) = assign (.Name y py) L.X.env :: (assignEach [] L.X.env).map (·.2) := by rfl) :
    S1D L ρ (.For (.Tuple [.Name x px, .Name y py] kk pt) iter body [] pos) Po :=
  s1_for (is := [i, j]) (f := putP i j prs) hi (fun k p h => by
    obtain ⟨q, h1', rfl⟩ := pairs_get h
    exact g_pairN i j h1' hN hM hx hy hf hfy hn hst h1 h2) J h0 (fun k p ρ1 h jj => by
    obtain ⟨q, h1', rfl⟩ := pairs_get h
    rw [putP_eq h1']
    exact hs k q ρ1 h1' jj) (fun ρ1 jj => hd ρ1 (by rw [List.length_map] at jj; exact jj)) hp hfs
theorem ItD.cast {ps qs : List (PV G)} (h : ItD L ρ tg iter ps) (w : ps = qs) : ItD L ρ tg iter qs := w ▸ h
/-- enumerate, zip as pairs -/
def enumQ (ds : List PyData) : List (PV G × PV G) := ds.mapIdx fun i d => (dat (.int (i : Nat)), dat d)
theorem enumQ_eq (ds : List PyData) : enumP (G := G) ds = (enumQ ds).map fun q => tupP [q.1, q.2] := by
  refine List.ext_getElem? fun j => ?_
  unfold enumP enumQ
  rw [List.getElem?_mapIdx, List.getElem?_map, List.getElem?_mapIdx]
  cases ds[j]? <;> rfl
theorem enumQ_get {k : Nat} {q : PV G × PV G} (h : (enumQ (G := G) ds)[k]? = some q) : ∃ d, ds[k]? = some d ∧ q = (dat (.int (k : Nat)), dat d) := by
  unfold enumQ at h
  rw [List.getElem?_mapIdx] at h
  cases e : ds[k]? with
  | none => rw [e] at h; cases h
  | some d => rw [e] at h; exact ⟨d, rfl, (Option.some.inj h).symm⟩
theorem enumQ_len (ds : List PyData) : (enumQ (G := G) ds).length = ds.length := by simp [enumQ]
def zipQ (ds es : List PyData) : List (PV G × PV G) := (ds.zip es).map fun q => (dat q.1, dat q.2)
theorem zipQ_eq (ds es : List PyData) : zipP (G := G) ds es = (zipQ ds es).map fun q => tupP [q.1, q.2] := by
  unfold zipP zipQ
  rw [List.map_map]
  rfl
theorem zipQ_get {es : List PyData} {k : Nat} {q : PV G × PV G} (h : (zipQ (G := G) ds es)[k]? = some q) : ∃ d e, ds[k]? = some d ∧ es[k]? = some e ∧ q = (dat d, dat e) := by
  unfold zipQ at h
  rw [List.getElem?_map] at h
  cases e : (ds.zip es)[k]? with
  | none => rw [e] at h; cases h
  | some q =>
    rw [e] at h
    have hz := List.getElem?_zip_eq_some.mp e
    exact ⟨q.1, q.2, hz.1, hz.2, (Option.some.inj h).symm⟩
theorem zipQ_len (ds es : List PyData) : (zipQ (G := G) ds es).length = min ds.length es.length := by simp [zipQ]
theorem blk_body {k : Nat} {N : List Str} {qual : Str} {st : Stmt} {f : Addr} {cd : Value} {A : Around} {outer : List Env} {s : Shared} {H : Hp} {E : XK} {nd : N.Nodup} {hr : Room k (A.deeper (envOfC qual (defScope st) s.heap.objs.size f cd))} (h : blkC N (defScope st) scope own = true) :
    BlkOk (bodyL G k N qual st f cd A outer s H E nd hr).X.N (bodyL G k N qual st f cd A outer s H E nd hr).X.env.scope scope own := blkOk_by h
/-- relabel, of the scope alone -/
def relab (scope sc : Scope) : Scope := { scope with names := scope.names.map fun (n, k) => if (k == .free && sc.kind == .function && sc.names.lookup n == some .cell) then (n, .cell) else (n, k) }
theorem blk_blk {k : Nat} {N : List Str} {qual : Str} {st : Stmt} {f : Addr} {cd : Value} {A : Around} {outer : List Env} {s : Shared} {H : Hp} {E : XK} {nd : N.Nodup} {hr : Room k (A.deeper (envOfC qual (defScope st) s.heap.objs.size f cd))} {scope1 : Scope} {s1 : Shared} {H1 : Hp} {C : Addr} {cl : List (Str × Addr)} {fp : List Addr} (h : blkC N (relab scope1 (defScope st)) scope own = true) :
    BlkOk ((bodyL G k N qual st f cd A outer s H E nd hr).blk s1 H1 scope1 C cl fp).X.N ((bodyL G k N qual st f cd A outer s H E nd hr).blk s1 H1 scope1 C cl fp).X.env.scope scope own := blkOk_by h
end
end MR
/-! L10: several at once, with owned containers among them. -/
namespace MR
open PySem PySem.Spec PyProof.Rows L2
section
variable {G : GC} {L : LC G} {ρ ρ1 ρ2 : Rho G} {e a b c d4 : Expr} {es : List Expr} {p q z : PV G} {pos p1 p2 : Pos} {Po : Post G}
theorem am2 {Pa : PV G → Rho G → Prop} {Pb : PV G → Rho G → PV G → Rho G → Prop} (ha : EvM L ρ a Pa) (hb : ∀ p ρ1, Pa p ρ1 → EvM L ρ1 b (Pb p ρ1))
    (h1 : starEach [a, b] L.X.env = (false, eval a L.X.env) :: starEach [b] L.X.env := by rfl) (h2 : starEach [b] L.X.env = (false, eval b L.X.env) :: starEach [] L.X.env := by rfl) :
    EvAM L ρ [a, b] fun ps ρ3 => ∃ p ρ1 q, Pa p ρ1 ∧ Pb p ρ1 q ρ3 ∧ ps = [p, q] :=
  am_cons (Pr := fun p ps ρ3 => ∃ ρ1 q, Pa p ρ1 ∧ Pb p ρ1 q ρ3 ∧ ps = [q]) ha (fun p ρ1 w => am_cons (Pr := fun q ps ρ3 => ps = [] ∧ ∃ ρ1, Pa p ρ1 ∧ Pb p ρ1 q ρ3) (hb p ρ1 w) (fun q ρ2 w2 => am_nil ⟨rfl, ρ1, w, w2⟩) (fun q ρ2 ps ρ3 w2 ⟨e, ρ1', w', w3⟩ => ⟨ρ1', q, w', w3, by rw [e]⟩) h2)
    (fun p ρ1 ps ρ2 w ⟨ρ1', q, w', w2, e⟩ => ⟨p, ρ1', q, w', w2, by rw [e]⟩) h1
theorem am3 {Pa : PV G → Rho G → Prop} {Pb : PV G → Rho G → PV G → Rho G → Prop} {Pc : PV G → Rho G → PV G → Rho G → PV G → Rho G → Prop} (ha : EvM L ρ a Pa) (hb : ∀ p ρ1, Pa p ρ1 → EvM L ρ1 b (Pb p ρ1)) (hc : ∀ p ρ1 q ρ2, Pa p ρ1 → Pb p ρ1 q ρ2 → EvM L ρ2 c (Pc p ρ1 q ρ2))
    (h1 : starEach [a, b, c] L.X.env = (false, eval a L.X.env) :: starEach [b, c] L.X.env := by rfl) (h2 : starEach [b, c] L.X.env = (false, eval b L.X.env) :: starEach [c] L.X.env := by rfl) (h3 : starEach [c] L.X.env = (false, eval c L.X.env) :: starEach [] L.X.env := by rfl) :
    EvAM L ρ [a, b, c] fun ps ρ3 => ∃ p ρ1 q ρ2 r, Pa p ρ1 ∧ Pb p ρ1 q ρ2 ∧ Pc p ρ1 q ρ2 r ρ3 ∧ ps = [p, q, r] := by
  refine .mk ?_
  intro A B0 B σ H Q E k
  refine WA.of (pa_cons (WE.pe _ _) (WA.pa _ _) h1) (ha A B0 B σ H _ E fun p ρ1 w1 v B1 H1 x1 E1 y1 => ?_)
  refine WA.of (pa_cons (WE.pe _ _) (WA.pa _ _) h2) (hb p ρ1 w1 A B0 B1 σ H1 _ E1 fun q ρ2 w2 u B2 H2 x2 E2 y2 => ?_)
  refine WA.of (pa_cons (WE.pe _ _) (WA.pa _ _) h3) (hc p ρ1 q ρ2 w1 w2 A B0 B2 σ H2 _ E2 fun r ρ3 w3 t B3 H3 x3 E3 y3 => ?_)
  refine WA.of pa_nil ?_
  exact k [p, q, r] ρ3 ⟨p, ρ1, q, ρ2, r, w1, w2, w3, rfl⟩ [v, u, t] B3 H3 ((x1.trans x2).trans x3) E3 (.cons (p.mono (x2.trans x3) y1) (.cons (q.mono x3 y2) (.cons y3 .nil)))
theorem am4 {Pa : PV G → Rho G → Prop} {Pb : PV G → Rho G → PV G → Rho G → Prop} {Pc : PV G → Rho G → PV G → Rho G → PV G → Rho G → Prop} {Pd : PV G → Rho G → PV G → Rho G → PV G → Rho G → PV G → Rho G → Prop} (ha : EvM L ρ a Pa) (hb : ∀ p ρ1, Pa p ρ1 → EvM L ρ1 b (Pb p ρ1)) (hc : ∀ p ρ1 q ρ2, Pa p ρ1 → Pb p ρ1 q ρ2 → EvM L ρ2 c (Pc p ρ1 q ρ2))
    (hd : ∀ p ρ1 q ρ2 r ρ3, Pa p ρ1 → Pb p ρ1 q ρ2 → Pc p ρ1 q ρ2 r ρ3 → EvM L ρ3 d4 (Pd p ρ1 q ρ2 r ρ3))
    (h1 : starEach [a, b, c, d4] L.X.env = (false, eval a L.X.env) :: starEach [b, c, d4] L.X.env := by rfl) (h2 : starEach [b, c, d4] L.X.env = (false, eval b L.X.env) :: starEach [c, d4] L.X.env := by rfl) (h3 : starEach [c, d4] L.X.env = (false, eval c L.X.env) :: starEach [d4] L.X.env := by rfl) (h4 : starEach [d4] L.X.env = (false, eval d4 L.X.env) :: starEach [] L.X.env := by rfl) :
    EvAM L ρ [a, b, c, d4] fun ps ρ4 => ∃ p ρ1 q ρ2 r ρ3 t, Pa p ρ1 ∧ Pb p ρ1 q ρ2 ∧ Pc p ρ1 q ρ2 r ρ3 ∧ Pd p ρ1 q ρ2 r ρ3 t ρ4 ∧ ps = [p, q, r, t] := by
  refine .mk ?_
  intro A B0 B σ H Q E k
  refine WA.of (pa_cons (WE.pe _ _) (WA.pa _ _) h1) (ha A B0 B σ H _ E fun p ρ1 w1 v B1 H1 x1 E1 y1 => ?_)
  refine WA.of (pa_cons (WE.pe _ _) (WA.pa _ _) h2) (hb p ρ1 w1 A B0 B1 σ H1 _ E1 fun q ρ2 w2 u B2 H2 x2 E2 y2 => ?_)
  refine WA.of (pa_cons (WE.pe _ _) (WA.pa _ _) h3) (hc p ρ1 q ρ2 w1 w2 A B0 B2 σ H2 _ E2 fun r ρ3 w3 t B3 H3 x3 E3 y3 => ?_)
  refine WA.of (pa_cons (WE.pe _ _) (WA.pa _ _) h4) (hd p ρ1 q ρ2 r ρ3 w1 w2 w3 A B0 B3 σ H3 _ E3 fun s ρ4 w4 t4 B4 H4 x4 E4 y4 => ?_)
  refine WA.of pa_nil ?_
  exact k [p, q, r, s] ρ4 ⟨p, ρ1, q, ρ2, r, ρ3, s, w1, w2, w3, w4, rfl⟩ [v, u, t, t4] B4 H4 (((x1.trans x2).trans x3).trans x4) E4 (.cons (p.mono ((x2.trans x3).trans x4) y1) (.cons (q.mono (x3.trans x4) y2) (.cons (r.mono x4 y3) (.cons y4 .nil))))
/-- a tuple display of any things -/
theorem em_tupP {x1} {Pa : List (PV G) → Rho G → Prop} (h : EvAM L ρ es Pa) (hl : es.length ≤ 1000) (hn : ∀ ps ρ', Pa ps ρ' → ps.length ≤ 1000) : EvM L ρ (.Tuple es x1 pos) fun p ρ' => ∃ ps, p = tupP ps ∧ Pa ps ρ' := .mk fun A B0 B σ H Q E k => by
  refine WE.of (pe_tup (WA.pa _ _)) (h A B0 B σ H _ E fun ps ρ' w vs B' H' x E' y => ?_)
  have hl3 := pvs_len y
  have := hn ps ρ' w
  refine ⟨by rw [sizeLine_eq]; omega, fun t ht => ?_⟩
  obtain ⟨x2, E2⟩ := E'.new (o := .tup vs) ht
  exact k (tupP ps) ρ' ⟨ps, rfl, w⟩ _ _ _ (x.trans x2) E2 ⟨t, vs, rfl, SqT.of upd_same, PVs.mono x2 y⟩
/-- a list as it is made -/
def newLP {G : GC} (ds : List PyData) : PV G := ⟨fun H v => ∃ a vs, v = .ref a ∧ H a = some (.lst vs) ∧ DpAll G.K H vs ds, fun x ⟨a, vs, e, h1, h2⟩ => ⟨a, vs, e, x.keep a _ h1 (fun ps z => nomatch z), dpa_mono x _ _ h2⟩⟩
theorem e_lstN {ds : List PyData} (h : EvA L ρ es (ds.map dat)) (hl : ds.length ≤ 1000 := by first | decide | simp) : EvD L ρ (.List es pos) (newLP ds) := EvD.of fun A B0 B σ H Q E k => by
  refine WE.of (pe_lst (WA.pa _ _)) (h.run E fun vs B' H' x E' y => ?_)
  have hl3 := pvs_len y
  rw [List.length_map] at hl3
  refine ⟨by rw [sizeLine_eq]; omega, fun t ht => ?_⟩
  obtain ⟨x2, E2⟩ := E'.new (o := .lst vs) ht
  exact k _ _ _ (x.trans x2) E2 ⟨t, vs, rfl, upd_same, dpa_mono x2 _ _ (pvs_dat y)⟩
theorem dpa_rep {K : PySem.W.Frag} {H : Hp} {ds : List PyData} {vs : List V} (h : DpAll K H vs ds) : ∀ n : Nat, DpAll K H (List.replicate n vs).flatten (List.replicate n ds).flatten
  | 0 => .nil
  | n + 1 => by
    rw [List.replicate_succ, List.replicate_succ, List.flatten_cons, List.flatten_cons]
    exact dpa_app h (dpa_rep h n)
theorem flat_one {α : Type} (x : α) : ∀ n : Nat, (List.replicate n [x]).flatten = List.replicate n x
  | 0 => rfl
  | n + 1 => by rw [List.replicate_succ, List.flatten_cons, flat_one x n, List.replicate_succ]; rfl
/-- xs * n -/
theorem b_repL {d : PyData} {n : Nat} (hn : n ≤ 1000) : BinD L .Mult (newLP [d]) (dat (.int (n : Nat))) (dat (.list (List.replicate n d))) := ⟨_, op_rep, fun A B0 B ρ σ H x y Q E hx hy k => by
  obtain ⟨a, vs, rfl, h1, h2⟩ := hx
  have e1 := dp_int hy
  subst e1
  have l1 := dpa_len h2
  refine ⟨a, (n : Nat), vs, rfl, rfl, E.bh.keep a _ h1 (fun ps z => nomatch z), by omega, by omega, ?_, newL E k ?_⟩
  · rw [l1, Int.toNat_natCast, sizeLine_eq]
    simp only [List.length_cons, List.length_nil]
    omega
  · rw [Int.toNat_natCast, ← flat_one d n]
    exact dpa_rep h2 n⟩
/-! a, b = .. where a name is shared with a block: by way of a tuple -/
theorem s1_tup2 (i j : Nat) {x y : Str} {px py pt : Pos} {kt k2 pt2} {Pa : List (PV G) → Rho G → Prop} (ha : EvAM L ρ [a, b] Pa) (k : ∀ ps ρ1, Pa ps ρ1 → ∃ p q, ps = [p, q] ∧ Po.nx ⟨(ρ1.sl.set i (some p)).set j (some q), ρ1.ow⟩)
    (hN0 : L.X.N[i]? = some x := by rfl) (hL0 : Loc L.X.env.scope x := by first | exact Or.inl rfl | exact Or.inr rfl) (hf0 : L.X.fn x = true ∨ L.X.env.scope.names.lookup x = some .local := by first | exact .inl rfl | exact .inr rfl)
    (hN1 : L.X.N[j]? = some y := by rfl) (hL1 : Loc L.X.env.scope y := by first | exact Or.inl rfl | exact Or.inr rfl) (hf1 : L.X.fn y = true ∨ L.X.env.scope.names.lookup y = some .local := by first | exact .inl rfl | exact .inr rfl)
    (hn : (assignEach [.Name x px, .Name y py] L.X.env).length = 2 := by rfl) (hst : (assignEach [.Name x px, .Name y py] L.X.env).findIdx? (·.1) = none := by rfl)
    (hs0 : (assignEach [.Name x px, .Name y py] L.X.env).map (·.2) = assign (.Name x px) L.X.env :: (assignEach [.Name y py] L.X.env).map (·.2) := by rfl)
    (hs1 : (assignEach [.Name y py] L.X.env).map (·.2) = assign (.Name y py) L.X.env :: (assignEach [] L.X.env).map (·.2) := by rfl)
    (hsw : swapsWithSole [.Tuple [.Name x px, .Name y py] kt pt] (.Tuple [a, b] k2 pt2) pos.line L.X.env = pure false := by rfl) (hw : swappedStores [.Tuple [.Name x px, .Name y py] kt pt] (.Tuple [a, b] k2 pt2) L.X.env = pure none := by rfl)
    (h1 : (assignEach [.Tuple [.Name x px, .Name y py] kt pt] L.X.env).map (·.2) = [assign (.Tuple [.Name x px, .Name y py] kt pt) L.X.env] := by rfl) :
    S1D L ρ (.Assign [.Tuple [.Name x px, .Name y py] kt pt] (.Tuple [a, b] k2 pt2) pos) Po := .mk fun A B0 B σ H D E S => by
  refine WSt.of (ps_asg (WE.pe _ _) (WG.pg _ _) hsw hw h1) (em_tupP ha (by simp) (fun ps ρ' w => by obtain ⟨_, _, e, _⟩ := k ps ρ' w; rw [e]; simp) A B0 B σ H _ E fun p0 ρ1 ⟨ps, e0, w⟩ v B' H' x' E' y' => ?_)
  obtain ⟨p, q, e, hnx⟩ := k ps ρ1 w
  subst e0 e
  exact g_tup (gs_cons (g_name i hN0 hL0 hf0) (gs_cons (g_name j hN1 hL1 hf1) gs_nil hs1) hs0) hn hst A B0 B' ρ1 σ H' v _ E' y' fun σ' _ E2 => S.nx _ hnx B' σ' H' E2
theorem s1_tup3 (i j l : Nat) {x y z : Str} {px py pz pt : Pos} {kt k2 pt2} {Pa : List (PV G) → Rho G → Prop} (ha : EvAM L ρ [a, b, c] Pa) (k : ∀ ps ρ1, Pa ps ρ1 → ∃ p q r, ps = [p, q, r] ∧ Po.nx ⟨((ρ1.sl.set i (some p)).set j (some q)).set l (some r), ρ1.ow⟩)
    (hN0 : L.X.N[i]? = some x := by rfl) (hL0 : Loc L.X.env.scope x := by first | exact Or.inl rfl | exact Or.inr rfl) (hf0 : L.X.fn x = true ∨ L.X.env.scope.names.lookup x = some .local := by first | exact .inl rfl | exact .inr rfl)
    (hN1 : L.X.N[j]? = some y := by rfl) (hL1 : Loc L.X.env.scope y := by first | exact Or.inl rfl | exact Or.inr rfl) (hf1 : L.X.fn y = true ∨ L.X.env.scope.names.lookup y = some .local := by first | exact .inl rfl | exact .inr rfl)
    (hN2 : L.X.N[l]? = some z := by rfl) (hL2 : Loc L.X.env.scope z := by first | exact Or.inl rfl | exact Or.inr rfl) (hf2 : L.X.fn z = true ∨ L.X.env.scope.names.lookup z = some .local := by first | exact .inl rfl | exact .inr rfl)
    (hn : (assignEach [.Name x px, .Name y py, .Name z pz] L.X.env).length = 3 := by rfl) (hst : (assignEach [.Name x px, .Name y py, .Name z pz] L.X.env).findIdx? (·.1) = none := by rfl)
    (hs0 : (assignEach [.Name x px, .Name y py, .Name z pz] L.X.env).map (·.2) = assign (.Name x px) L.X.env :: (assignEach [.Name y py, .Name z pz] L.X.env).map (·.2) := by rfl)
    (hs1 : (assignEach [.Name y py, .Name z pz] L.X.env).map (·.2) = assign (.Name y py) L.X.env :: (assignEach [.Name z pz] L.X.env).map (·.2) := by rfl)
    (hs2 : (assignEach [.Name z pz] L.X.env).map (·.2) = assign (.Name z pz) L.X.env :: (assignEach [] L.X.env).map (·.2) := by rfl)
    (hsw : swapsWithSole [.Tuple [.Name x px, .Name y py, .Name z pz] kt pt] (.Tuple [a, b, c] k2 pt2) pos.line L.X.env = pure false := by rfl) (hw : swappedStores [.Tuple [.Name x px, .Name y py, .Name z pz] kt pt] (.Tuple [a, b, c] k2 pt2) L.X.env = pure none := by rfl)
    (h1 : (assignEach [.Tuple [.Name x px, .Name y py, .Name z pz] kt pt] L.X.env).map (·.2) = [assign (.Tuple [.Name x px, .Name y py, .Name z pz] kt pt) L.X.env] := by rfl) :
    S1D L ρ (.Assign [.Tuple [.Name x px, .Name y py, .Name z pz] kt pt] (.Tuple [a, b, c] k2 pt2) pos) Po := .mk fun A B0 B σ H D E S => by
  refine WSt.of (ps_asg (WE.pe _ _) (WG.pg _ _) hsw hw h1) (em_tupP ha (by simp) (fun ps ρ' w => by obtain ⟨_, _, _, e, _⟩ := k ps ρ' w; rw [e]; simp) A B0 B σ H _ E fun p0 ρ1 ⟨ps, e0, w⟩ v B' H' x' E' y' => ?_)
  obtain ⟨p, q, r, e, hnx⟩ := k ps ρ1 w
  subst e0 e
  exact g_tup (gs_cons (g_name i hN0 hL0 hf0) (gs_cons (g_name j hN1 hL1 hf1) (gs_cons (g_name l hN2 hL2 hf2) gs_nil hs2) hs1) hs0) hn hst A B0 B' ρ1 σ H' v _ E' y' fun σ' _ E2 => S.nx _ hnx B' σ' H' E2
theorem s1_tup4 (i j l m : Nat) {x y z u : Str} {px py pz pu pt : Pos} {kt k2 pt2} {Pa : List (PV G) → Rho G → Prop} (ha : EvAM L ρ [a, b, c, d4] Pa) (k : ∀ ps ρ1, Pa ps ρ1 → ∃ p q r t, ps = [p, q, r, t] ∧ Po.nx ⟨(((ρ1.sl.set i (some p)).set j (some q)).set l (some r)).set m (some t), ρ1.ow⟩)
    (hN0 : L.X.N[i]? = some x := by rfl) (hL0 : Loc L.X.env.scope x := by first | exact Or.inl rfl | exact Or.inr rfl) (hf0 : L.X.fn x = true ∨ L.X.env.scope.names.lookup x = some .local := by first | exact .inl rfl | exact .inr rfl)
    (hN1 : L.X.N[j]? = some y := by rfl) (hL1 : Loc L.X.env.scope y := by first | exact Or.inl rfl | exact Or.inr rfl) (hf1 : L.X.fn y = true ∨ L.X.env.scope.names.lookup y = some .local := by first | exact .inl rfl | exact .inr rfl)
    (hN2 : L.X.N[l]? = some z := by rfl) (hL2 : Loc L.X.env.scope z := by first | exact Or.inl rfl | exact Or.inr rfl) (hf2 : L.X.fn z = true ∨ L.X.env.scope.names.lookup z = some .local := by first | exact .inl rfl | exact .inr rfl)
    (hN3 : L.X.N[m]? = some u := by rfl) (hL3 : Loc L.X.env.scope u := by first | exact Or.inl rfl | exact Or.inr rfl) (hf3 : L.X.fn u = true ∨ L.X.env.scope.names.lookup u = some .local := by first | exact .inl rfl | exact .inr rfl)
    (hn : (assignEach [.Name x px, .Name y py, .Name z pz, .Name u pu] L.X.env).length = 4 := by rfl) (hst : (assignEach [.Name x px, .Name y py, .Name z pz, .Name u pu] L.X.env).findIdx? (·.1) = none := by rfl)
    (hs0 : (assignEach [.Name x px, .Name y py, .Name z pz, .Name u pu] L.X.env).map (·.2) = assign (.Name x px) L.X.env :: (assignEach [.Name y py, .Name z pz, .Name u pu] L.X.env).map (·.2) := by rfl)
    (hs1 : (assignEach [.Name y py, .Name z pz, .Name u pu] L.X.env).map (·.2) = assign (.Name y py) L.X.env :: (assignEach [.Name z pz, .Name u pu] L.X.env).map (·.2) := by rfl)
    (hs2 : (assignEach [.Name z pz, .Name u pu] L.X.env).map (·.2) = assign (.Name z pz) L.X.env :: (assignEach [.Name u pu] L.X.env).map (·.2) := by rfl)
    (hs3 : (assignEach [.Name u pu] L.X.env).map (·.2) = assign (.Name u pu) L.X.env :: (assignEach [] L.X.env).map (·.2) := by rfl)
    (hsw : swapsWithSole [.Tuple [.Name x px, .Name y py, .Name z pz, .Name u pu] kt pt] (.Tuple [a, b, c, d4] k2 pt2) pos.line L.X.env = pure false := by rfl) (hw : swappedStores [.Tuple [.Name x px, .Name y py, .Name z pz, .Name u pu] kt pt] (.Tuple [a, b, c, d4] k2 pt2) L.X.env = pure none := by rfl)
    (h1 : (assignEach [.Tuple [.Name x px, .Name y py, .Name z pz, .Name u pu] kt pt] L.X.env).map (·.2) = [assign (.Tuple [.Name x px, .Name y py, .Name z pz, .Name u pu] kt pt) L.X.env] := by rfl) :
    S1D L ρ (.Assign [.Tuple [.Name x px, .Name y py, .Name z pz, .Name u pu] kt pt] (.Tuple [a, b, c, d4] k2 pt2) pos) Po := .mk fun A B0 B σ H D E S => by
  refine WSt.of (ps_asg (WE.pe _ _) (WG.pg _ _) hsw hw h1) (em_tupP ha (by simp) (fun ps ρ' w => by obtain ⟨_, _, _, _, e, _⟩ := k ps ρ' w; rw [e]; simp) A B0 B σ H _ E fun p0 ρ1 ⟨ps, e0, w⟩ v B' H' x' E' y' => ?_)
  obtain ⟨p, q, r, t, e, hnx⟩ := k ps ρ1 w
  subst e0 e
  exact g_tup (gs_cons (g_name i hN0 hL0 hf0) (gs_cons (g_name j hN1 hL1 hf1) (gs_cons (g_name l hN2 hL2 hf2) (gs_cons (g_name m hN3 hL3 hf3) gs_nil hs3) hs2) hs1) hs0) hn hst A B0 B' ρ1 σ H' v _ E' y' fun σ' _ E2 => S.nx _ hnx B' σ' H' E2
end
end MR
/-! L11: zip of a list and a tuple; enumerate over a tuple. -/
namespace MR
open PySem PySem.Spec PyProof.Rows L2
section
variable {P : Program} {w : World} {K : PySem.W.Frag} {a b : Addr} {xs ys : List V}
/-- the list at a and the tuple at b, side by side -/
def ItLT (K : PySem.W.Frag) (a b : Addr) (xs ys : List V) : It :=
  ⟨fun i H => i < min xs.length ys.length ∧ SqL K H a xs ∧ SqT K H b ys,
    fun i H v H' => ∃ T x y, v = .ref T ∧ H T = none ∧ H' = upd H T (.tup [x, y]) ∧ xs[i]? = some x ∧ ys[i]? = some y,
    fun i H => i = min xs.length ys.length ∧ SqL K H a xs ∧ SqT K H b ys⟩
theorem sepLT (I l1 l2 : Nat) (h1 : l1 < I) (h2 : l2 < I) : ZipSep2 (I + 4) (I + 2) (I + 3) I (I + 1) [I, l1] [I + 1, l2] := by
  have no : ∀ {x y z : Nat}, ¬ x = y → ¬ x = z → x ∉ [y, z] := fun {x y z} p q m => by
    rcases List.mem_cons.mp m with m | m
    · exact p m
    · exact q (List.mem_singleton.mp m)
  exact ⟨PySem.W.neN (by omega), PySem.W.neN (by omega), PySem.W.neN (by omega), PySem.W.neN (by omega), List.mem_cons_self, no (by omega) (by omega), no (by omega) (by omega), PySem.W.neN (by omega), List.mem_cons_self, no (by omega) (by omega), no (by omega) (by omega), no (by omega) (by omega), no (by omega) (by omega)⟩
theorem turnLT {elts : List Expr} {kk : Nat} {tpos : Pos} {z TI TO i1 i2 : Addr} (D : ZipApart z TI TO i1 i2 a b) (S : ZipSep2 z TI TO i1 i2 [i1, a] [i2, b]) :
    Turn P w K (.Tuple elts kk tpos) (ItLT K a b xs ys) [z, TI, TO, i1, i2] z (fun i h => IsZip h z TI TO .none ∧ IsTupOf2 h TI (.ref i1) (.ref i2) ∧ (∃ x y, IsTupOf2 h TO x y) ∧ h.IsListIter i1 a i ∧ h.IsTupleIter i2 b i) where
  mem := by simp
  obj := fun i h st c hc => by
    obtain ⟨q1, q2, ⟨x, y, q3⟩, ⟨o1, e1, _, d1⟩, ⟨o2, e2, _, d2⟩⟩ := st
    rcases (show c = z ∨ c = TI ∨ c = TO ∨ c = i1 ∨ c = i2 by simpa using hc) with q | q | q | q | q
    · rw [q]; exact ⟨_, q1, fun v q => nomatch q⟩
    · rw [q]; exact ⟨_, q2, fun v q => nomatch q⟩
    · rw [q]; exact ⟨_, q3, fun v q => nomatch q⟩
    · rw [q]; exact ⟨o1, e1, fun v q => by rw [d1] at q; cases q⟩
    · rw [q]; exact ⟨o2, e2, fun v q => by rw [d2] at q; cases q⟩
  keep := fun i h h' st k => by
    obtain ⟨q1, q2, ⟨x, y, q3⟩, q4, q5⟩ := st
    exact ⟨k z (by simp) _ q1, k TI (by simp) _ q2, ⟨x, y, k TO (by simp) _ q3⟩, q4.at fun o q => k i1 (by simp) o q, q5.at fun o q => k i2 (by simp) o q⟩
  item := by
    intro X hP hw hK hc i pins s σ H E I hf st hg
    subst hP hw hK
    obtain ⟨hlt, hqx, hqy⟩ := hg
    obtain ⟨its, rv, p, _⟩ := I.list hqx
    obtain ⟨its2, rv2, p2, _⟩ := I.tuple hqy
    have l1 := rv.length
    have l2 := rv2.length
    have live : ∀ c ∈ [z, TI, TO, i1, i2], c < s.heap.objs.size := fun c hcm => by
      obtain ⟨q1, q2, ⟨x, y, q3⟩, ⟨o1, e1, _⟩, ⟨o2, e2, _⟩⟩ := st
      rcases (show c = z ∨ c = TI ∨ c = TO ∨ c = i1 ∨ c = i2 by simpa using hcm) with q | q | q | q | q
      · rw [q]; exact Heap.lt_size q1
      · rw [q]; exact Heap.lt_size q2
      · rw [q]; exact Heap.lt_size q3
      · rw [q]; exact Heap.lt_size e1
      · rw [q]; exact Heap.lt_size e2
    obtain ⟨q1, q2, q3, q4, q5⟩ := st
    have Gz := GoesN.zip2 (elts := elts) (x1 := kk) (pos := tpos) S (Draws.list (prog := X.prog) (w := X.w) (A := X.A.in1) (I.ok.hd hc) i1 a D.l1i1 its.toArray) (Draws.tuple (prog := X.prog) (w := X.w) (A := X.A.in1) (I.ok.hd hc) i2 b D.l2i2 its2.toArray)
    refine Gz.goes i s _ E (by rw [List.size_toArray, List.size_toArray]; omega) ⟨q1, q2, q3, ⟨q4, p.isList⟩, ⟨q5, p2⟩⟩ fun v h' tk hv st' hk htk => ?_
    obtain ⟨T, x, y, rfl, hn, hx, hy, hT⟩ := hv
    have gi1 : i < xs.length := by omega
    have gi2 : i < ys.length := by omega
    have hx' : xs[i]? = some xs[i] := List.getElem?_eq_getElem gi1
    have hy' : ys[i]? = some ys[i] := List.getElem?_eq_getElem gi2
    obtain ⟨u, hu, ru⟩ := rv.get hx'
    obtain ⟨u2, hu2, ru2⟩ := rv2.get hy'
    have ex : u = x := by
      have hx : its.toArray[i]? = some x := hx
      have : its[i]? = some x := by simpa using hx
      rw [hu] at this; exact Option.some.inj this
    have ey : u2 = y := by
      have hy : its2.toArray[i]? = some y := hy
      have : its2[i]? = some y := by simpa using hy
      rw [hu2] at this; exact Option.some.inj this
    subst ex ey
    have new : ObjOk X.prog X.w (upd H T (.tup [xs[i], ys[i]])) h' T (.tup [xs[i], ys[i]]) := ⟨by show 2 ≤ sizeLine; decide, [u, u2], .cons ru (.cons ru2 .nil), hT⟩
    have I1 : Inv X pins σ (upd H T (.tup [xs[i], ys[i]])) { s with heap := h', toks := tk } := I.turnedNew (ch := [z, TO, i1, i2]) hk (fun c hcm => hf c (by simp at hcm ⊢; rcases hcm with q | q | q | q <;> simp [q])) hn new
    obtain ⟨r1, r2, r3, ⟨r4, _⟩, ⟨r5, _⟩⟩ := st'
    refine ⟨.ref T, _, I1, rfl, ⟨T, _, _, rfl, I.hok.fresh hn, rfl, hx', hy'⟩, ⟨r1, r2, r3, r4, r5⟩, fun c hcm => ?_⟩
    rw [upd_ne (Nat.ne_of_lt (Nat.lt_of_lt_of_le (live c hcm) hn))]
    exact (hf c hcm).1
  done := by
    intro X hP hw hK hc i pins s σ H E I hf st hg
    subst hP hw hK
    obtain ⟨hend, hqx, hqy⟩ := hg
    obtain ⟨its, rv, p, _⟩ := I.list hqx
    obtain ⟨its2, rv2, p2, _⟩ := I.tuple hqy
    have l1 := rv.length
    have l2 := rv2.length
    obtain ⟨q1, q2, q3, q4, q5⟩ := st
    have Gz := GoesN.zip2 (elts := elts) (x1 := kk) (pos := tpos) S (Draws.list (prog := X.prog) (w := X.w) (A := X.A.in1) (I.ok.hd hc) i1 a D.l1i1 its.toArray) (Draws.tuple (prog := X.prog) (w := X.w) (A := X.A.in1) (I.ok.hd hc) i2 b D.l2i2 its2.toArray)
    have ei : i = min its.toArray.size its2.toArray.size := by rw [List.size_toArray, List.size_toArray]; omega
    subst ei
    exact Gz.stops s (fun s1 => Inv X pins σ H s1) E ⟨q1, q2, q3, ⟨q4, p.isList⟩, ⟨q5, p2⟩⟩ fun h' tk hk _ => I.turnedL (ch := [z, TO, i1, i2]) hk (fun c hcm => hf c (by simp at hcm ⊢; rcases hcm with q | q | q | q <;> simp [q]))
  self := fun A i s Q E st h => wpAny_pyIter_zip st.1 h
def iLT (K : PySem.W.Frag) (ta : TA) : TI := fun σ H R => ta σ H fun vs H1 => ∃ a b xs ys, vs = [.ref a, .ref b] ∧ SqL K H1 a xs ∧ SqT K H1 b ys ∧ R (ItLT K a b xs ys) H1
theorem pi_LT {X : Cx} {e e2 : Expr} {ta : TA} {p pos tpos : Pos} {elts : List Expr} {kk : Nat} (hg : Gl X "zip") (hm : X.mg "zip" = none) (ha : PA X [e, e2] ta) (hs : starEach [e, e2] X.env = (false, eval e X.env) :: starEach [e2] X.env := by rfl) (hpl : (backTo pos (starEach [e2] X.env)).any (·.1) = false := by rfl) :
    PI X (.Tuple elts kk tpos) (.Call (.Name "zip" p) [e, e2] [] pos) (iLT X.K ta) := by
  refine ⟨fun pins s σ H R I h => Call_ (ld_blt I hg hm PyProof.Rows.boot_zip (PyProof.Rows.callWith_type1 (thn (ha.run pos pins s σ H _ I h) fun us s1 ⟨vs, H1, I1, r1, q1⟩ => ?_) hs hpl))⟩
  obtain ⟨a, b, xs, ys, ex, hqx, hqy, q⟩ := q1
  subst ex
  obtain ⟨u, u', rfl, r, r'⟩ := Vals.two r1
  obtain rfl : u = .ref a := r
  obtain rfl : u' = .ref b := r'
  obtain ⟨its, rv, p1, _⟩ := I1.list hqx
  obtain ⟨its2, rv2, p2, _⟩ := I1.tuple hqy
  obtain ⟨o2, ho2, _⟩ := id p2
  have la : a < s1.heap.objs.size := p1.lt
  have lb : b < s1.heap.objs.size := Heap.lt_size ho2
  refine zip_begins2 (begins_list a its.toArray) (begins_tuple b its2.toArray) p1.isList p2 fun h' hz hTI hTO h1 h2 hsz hk => wpAny_pyIter_zip hz ?_
  have I2 : Inv X pins σ H1 { s1 with heap := h' } := I1.kept (t' := s1.toks) hk
  generalize hN : s1.heap.objs.size = n at hz hTI hTO h1 h2 hsz la lb ⊢
  have D : ZipApart (n + 4) (n + 2) (n + 3) n (n + 1) a b := PySem.W.ktu_apart n a b la lb
  have S := sepLT n a b la lb
  refine ⟨n + 4, [n + 4, n + 2, n + 3, n, n + 1], _, _, H1, rfl, I2, turnLT D S, ⟨hz, hTI, ⟨_, _, hTO⟩, ⟨_, h1, rfl, rfl⟩, ⟨_, h2, rfl, rfl⟩⟩, fun c hcm => ?_, q⟩
  have hle : n ≤ c := by
    rcases (show c = n + 4 ∨ c = n + 2 ∨ c = n + 3 ∨ c = n ∨ c = n + 1 by simpa using hcm) with z | z | z | z | z <;> (rw [z]; first | exact Nat.le_refl _ | exact Nat.le_add_right _ _)
  exact I1.fpOk (by rw [hN]; exact hle) (I1.hok.fresh (by rw [hN]; exact hle))
/-! ### enumerate over a tuple -/
def ItET (K : PySem.W.Frag) (b : Addr) (ys : List V) : It :=
  ⟨fun i H => i < ys.length ∧ SqT K H b ys,
    fun i H v H' => ∃ T y, v = .ref T ∧ H T = none ∧ H' = upd H T (.tup [.int (i : Nat), y]) ∧ ys[i]? = some y,
    fun i H => i = ys.length ∧ SqT K H b ys⟩
theorem turnET {elts : List Expr} {kk : Nat} {tpos : Pos} {e it : Addr} (h1 : e ≠ it) (h2 : e ≠ b) (h3 : b ≠ it) :
    Turn P w K (.Tuple elts kk tpos) (ItET K b ys) [e, it] e (fun i h => (∃ old, IsEnum h e it (0 + (i : Int)) old) ∧ h.IsTupleIter it b i) where
  mem := by simp
  obj := fun i h st c hc => by
    obtain ⟨⟨old, q1⟩, ⟨o1, e1, _, d1⟩⟩ := st
    rcases (show c = e ∨ c = it by simpa using hc) with q | q
    · rw [q]; exact ⟨_, q1, fun v q => nomatch q⟩
    · rw [q]; exact ⟨o1, e1, fun v q => by rw [d1] at q; cases q⟩
  keep := fun i h h' st k => by
    obtain ⟨⟨old, q1⟩, q4⟩ := st
    exact ⟨⟨old, k e (by simp) _ q1⟩, q4.at fun o q => k it (by simp) o q⟩
  item := by
    intro X hP hw hK hc i pins s σ H E I hf st hg
    subst hP hw hK
    obtain ⟨hlt, hqy⟩ := hg
    obtain ⟨its2, rv2, p2, _⟩ := I.tuple hqy
    have l2 := rv2.length
    have live : ∀ c ∈ [e, it], c < s.heap.objs.size := fun c hcm => by
      obtain ⟨⟨old, q1⟩, ⟨o1, e1, _⟩⟩ := st
      rcases (show c = e ∨ c = it by simpa using hcm) with q | q
      · rw [q]; exact Heap.lt_size q1
      · rw [q]; exact Heap.lt_size e1
    obtain ⟨q1, q4⟩ := st
    have hef : e ∉ [it, b] := fun m => by
      rcases List.mem_cons.mp m with m | m
      · exact h1 m
      · exact h2 (List.mem_singleton.mp m)
    have Gz := GoesN.enumFrom (elts := elts) (x1 := kk) (pos := tpos) 0 (Draws.tuple (prog := X.prog) (w := X.w) (A := X.A.in1) (I.ok.hd hc) it b h3 its2.toArray) e h1 hef List.mem_cons_self
    refine Gz.goes i s _ E (by rw [List.size_toArray]; omega) ⟨q1, q4, p2⟩ fun v h' tk hv st' hk htk => ?_
    obtain ⟨T, t, y, rfl, hn, hy, hT⟩ := hv
    have hy' : ys[i]? = some ys[i] := List.getElem?_eq_getElem hlt
    obtain ⟨u2, hu2, ru2⟩ := rv2.get hy'
    have ey : u2 = y := by
      have hy : its2.toArray[i]? = some y := hy
      have : its2[i]? = some y := by simpa using hy
      rw [hu2] at this; exact Option.some.inj this
    subst ey
    rw [Int.zero_add] at hT
    have new : ObjOk X.prog X.w (upd H T (.tup [.int (i : Nat), ys[i]])) h' T (.tup [.int (i : Nat), ys[i]]) := ⟨by show 2 ≤ sizeLine; decide, [.int (i : Nat) t, u2], .cons ⟨t, rfl⟩ (.cons ru2 .nil), hT⟩
    have I1 : Inv X pins σ (upd H T (.tup [.int (i : Nat), ys[i]])) { s with heap := h', toks := tk } := I.turnedNew (ch := [e, it]) hk hf hn new
    obtain ⟨r1, r4, _⟩ := st'
    refine ⟨.ref T, _, I1, rfl, ⟨T, _, rfl, I.hok.fresh hn, rfl, hy'⟩, ⟨r1, r4⟩, fun c hcm => ?_⟩
    rw [upd_ne (Nat.ne_of_lt (Nat.lt_of_lt_of_le (live c hcm) hn))]
    exact (hf c hcm).1
  done := by
    intro X hP hw hK hc i pins s σ H E I hf st hg
    subst hP hw hK
    obtain ⟨hend, hqy⟩ := hg
    obtain ⟨its2, rv2, p2, _⟩ := I.tuple hqy
    have l2 := rv2.length
    obtain ⟨q1, q4⟩ := st
    have hef : e ∉ [it, b] := fun m => by
      rcases List.mem_cons.mp m with m | m
      · exact h1 m
      · exact h2 (List.mem_singleton.mp m)
    have Gz := GoesN.enumFrom (elts := elts) (x1 := kk) (pos := tpos) 0 (Draws.tuple (prog := X.prog) (w := X.w) (A := X.A.in1) (I.ok.hd hc) it b h3 its2.toArray) e h1 hef List.mem_cons_self
    have ei : i = its2.toArray.size := by rw [List.size_toArray]; omega
    subst ei
    exact Gz.stops s (fun s1 => Inv X pins σ H s1) E ⟨q1, q4, p2⟩ fun h' tk hk _ => I.turnedL (ch := [e, it]) hk hf
  self := fun A i s Q E st h => let ⟨⟨_, he⟩, _⟩ := st; wpAny_pyIter_enum he h
theorem meets_enum1 {v : Value} {o : Obj} {H : Heap → Prop} (B : Begins v o H) :
    Meets (Builtin.«enumerate.__new__» ⟨[.type "enumerate", v], []⟩) (fun _ R s => H s.heap ∧ R (.ok (.ret (.ref (s.heap.push o).objs.size))) { s with heap := (s.heap.push o).push { cls := .type "enumerate", data := .fields #[.none, .bool false, .ref s.heap.objs.size, rawInt 0, .none, .none] } }) :=
  .of_wp fun prog w A R s h => by
    obtain ⟨hp, g, d, tk, os⟩ := s
    obtain ⟨g1, h⟩ := h
    have hsub := sub_enumerate
    have it1 : ∀ {A' : Around} {E : Value → Shared → Prop} {Q : Value → Shared → Prop}, Q (.ref hp.objs.size) ⟨hp.push o, g, d, tk, os⟩ → wpAny (model prog w) A' (pyIter v) Q E ⟨hp, g, d, tk, os⟩ := fun q => B.iter prog w _ _ ⟨hp, g, d, tk, os⟩ _ g1 q
    wp_walk using it1
    refine wpAny_stack_any fun st => (wpAny_pure ?_)
    split
    · rename_i c _ _ _ _ _
      cases (c == Value.type "enumerate") <;> (wp_walk using it1; exact ⟨_, rfl, h⟩)
    · wp_walk using it1
      exact ⟨_, rfl, h⟩
theorem call_enum1 {prog : Program} {w : World} {A : Around} {E : Value → Shared → Prop} {s : Shared} {v : Value} {o : Obj} {H : Heap → Prop} {Q : Value → Shared → Prop} (B : Begins v o H) (g1 : H s.heap)
    (h : ∀ h', IsEnum h' (s.heap.objs.size + 1) s.heap.objs.size 0 .none → h'.get? s.heap.objs.size = some o → (∀ b o, s.heap.get? b = some o → h'.get? b = some o) → Q (.ref (s.heap.objs.size + 1)) { s with heap := h' }) :
    wpAny (model prog w) A (call (.type "enumerate") [v]) Q E s := by
  refine callType_new F.called_enumerate (by decide) (F.typeCall_enumerate_1 _) (F.newCall_enumerate_1 _) (fun obj => F.args_object_init_2 obj _) F.entry_enumerate_new (meets_enum1 B) ⟨g1, ?_⟩
  have sz : (s.heap.push o).objs.size = s.heap.objs.size + 1 := Heap.size_push ..
  show _ ∧ _
  rw [sz]
  have ne : IsEnum ((s.heap.push o).push { cls := .type "enumerate", data := .fields #[.none, .bool false, .ref s.heap.objs.size, rawInt 0, .none, .none] }) (s.heap.objs.size + 1) s.heap.objs.size 0 .none := by
    have q := Heap.get?_push_size (s.heap.push o) (o := { cls := .type "enumerate", data := .fields #[.none, .bool false, .ref s.heap.objs.size, rawInt 0, .none, .none] }) rfl
    rw [sz] at q
    exact q
  exact ⟨⟨_, ne, rfl⟩, h _ ne (Heap.get?_push_of_some _ (Heap.get?_push_size _ B.free)) fun b o x => Heap.get?_push_of_some _ (Heap.get?_push_of_some _ x)⟩
def iET (K : PySem.W.Frag) (ta : TA) : TI := fun σ H R => ta σ H fun vs H1 => ∃ b ys, vs = [.ref b] ∧ SqT K H1 b ys ∧ R (ItET K b ys) H1
theorem pi_ET {X : Cx} {e : Expr} {ta : TA} {p pos tpos : Pos} {elts : List Expr} {kk : Nat} (hg : Gl X "enumerate") (hm : X.mg "enumerate" = none) (ha : PA X [e] ta) (hs : starEach [e] X.env = [(false, eval e X.env)] := by rfl) :
    PI X (.Tuple elts kk tpos) (.Call (.Name "enumerate" p) [e] [] pos) (iET X.K ta) := by
  refine ⟨fun pins s σ H R I h => Call_ (ld_blt I hg hm boot_enumerate (PyProof.Rows.callWith_type1 (thn (ha.run pos pins s σ H _ I h) fun us s1 ⟨vs, H1, I1, r1, q1⟩ => ?_) hs rfl))⟩
  obtain ⟨b, ys, ex, hqy, q⟩ := q1
  subst ex
  obtain ⟨u, rfl, r⟩ := Vals.one r1
  obtain rfl : u = .ref b := r
  obtain ⟨its2, rv2, p2, _⟩ := I1.tuple hqy
  obtain ⟨o2, ho2, _⟩ := id p2
  have lb : b < s1.heap.objs.size := Heap.lt_size ho2
  refine call_enum1 (begins_tuple b its2.toArray) p2 fun h' he h1 hk => wpAny_pyIter_enum he ?_
  have I2 : Inv X pins σ H1 { s1 with heap := h' } := I1.kept (t' := s1.toks) hk
  refine ⟨s1.heap.objs.size + 1, [s1.heap.objs.size + 1, s1.heap.objs.size], _, _, H1, rfl, I2, turnET (Nat.succ_ne_self _) (Nat.ne_of_gt (Nat.lt_succ_of_lt lb)) (Nat.ne_of_lt lb), ⟨⟨.none, he⟩, ⟨_, h1, rfl, rfl⟩⟩, fun c hcm => ?_, q⟩
  have hle : s1.heap.objs.size ≤ c := by
    rcases (show c = s1.heap.objs.size + 1 ∨ c = s1.heap.objs.size by simpa using hcm) with z | z <;> (rw [z]; first | exact Nat.le_refl _ | exact Nat.le_add_right _ _)
  exact I1.fpOk hle (I1.hok.fresh hle)
end
section
variable {G : GC} {L : LC G} {ρ : Rho G} {a b : Expr} {pos : Pos}
theorem i_zipLT {pf tpos : Pos} {elts : List Expr} {kk : Nat} {ds es : List PyData} (hm : G.mg "zip" = none) (h : EvD L ρ a (dat (.list ds))) (h' : EvD L ρ b (dat (.tuple es))) (hg : Gl L.X "zip" := by rfl) (hs : starEach [a, b] L.X.env = (false, eval a L.X.env) :: starEach [b] L.X.env := by rfl)
    (hs2 : starEach [b] L.X.env = (false, eval b L.X.env) :: starEach [] L.X.env := by rfl) (hpl : (backTo pos (starEach [b] L.X.env)).any (·.1) = false := by rfl) : ItD L ρ (.Tuple elts kk tpos) (.Call (.Name "zip" pf) [a, b] [] pos) (zipP ds es) := .mk fun A B0 B σ H R E k => by
  refine WI.of (pi_LT hg (by rw [L.hm]; exact hm) (WA.pa _ _) hs hpl) ((a_cons h (a_cons h' a_nil hs2) hs).run E fun vs B' H' x E' y => ?_)
  obtain ⟨v, w, rfl, hv, hw⟩ := pvs2 y
  obtain ⟨a, xs, rfl, h1, h2⟩ := dp_lst hv
  obtain ⟨b, ys, rfl, h3, h4⟩ := dp_tup hw
  have l := dpa_len h2
  have l' := dpa_len h4
  rw [L.hK]
  have ln : (zipP (G := G) ds es).length = min xs.length ys.length := by rw [zipP_len, l, l']
  refine ⟨a, b, xs, ys, rfl, E'.bh.sqL h1, E'.bh.sqT h3, k _ B' H' ⟨fun i H hi x => ⟨by omega, x.sqL h1, x.sqT h3⟩, fun H x => ⟨ln, x.sqL h1, x.sqT h3⟩, fun i p A B0 B2 ρ σ H x H' e w E y => ?_⟩ x E'⟩
  obtain ⟨d, e1, e2, e3, rfl⟩ := zipP_get e
  obtain ⟨T, z1, z2, rfl, hT, rfl, q1, q2⟩ := y
  obtain ⟨v, e5, e6⟩ := dpa_get h2 e2
  obtain ⟨v', e7, e8⟩ := dpa_get h4 e3
  rw [e5] at q1
  rw [e7] at q2
  cases q1
  cases q2
  exact newPair E hT (dp_mono w _ _ e6) (dp_mono w _ _ e8)
theorem i_enumT {pf tpos : Pos} {elts : List Expr} {kk : Nat} {ds : List PyData} (hm : G.mg "enumerate" = none) (h : EvD L ρ a (dat (.tuple ds))) (hg : Gl L.X "enumerate" := by rfl) (hs : starEach [a] L.X.env = [(false, eval a L.X.env)] := by rfl) (hs2 : starEach [a] L.X.env = (false, eval a L.X.env) :: starEach [] L.X.env := by rfl) :
    ItD L ρ (.Tuple elts kk tpos) (.Call (.Name "enumerate" pf) [a] [] pos) (enumP ds) := .mk fun A B0 B σ H R E k => by
  refine WI.of (pi_ET hg (by rw [L.hm]; exact hm) (WA.pa _ _) hs) ((a_cons h a_nil hs2).run E fun vs B' H' x E' y => ?_)
  obtain ⟨v, rfl, hv⟩ := pvs1 y
  obtain ⟨b, ys, rfl, h3, h4⟩ := dp_tup hv
  have l' := dpa_len h4
  rw [L.hK]
  refine ⟨b, ys, rfl, E'.bh.sqT h3, k _ B' H' ⟨fun i H hi x => ⟨by rw [enumP_len] at hi; omega, x.sqT h3⟩, fun H x => ⟨by rw [enumP_len]; exact l'.symm, x.sqT h3⟩, fun i p A B0 B2 ρ σ H x H' e w E y => ?_⟩ x E'⟩
  obtain ⟨d, e1, rfl⟩ := enumP_get e
  obtain ⟨T, z2, rfl, hT, rfl, q2⟩ := y
  obtain ⟨v', e7, e8⟩ := dpa_get h4 e1
  rw [e7] at q2
  cases q2
  exact newPair E hT (.int _) (dp_mono w _ _ e8)
end
end MR
/-! L12: lambdas with parameters, handed to a def. -/
namespace MR
open PySem PySem.Spec PyProof.Rows L2
/-- a lambda's words, its cells, its code object -/
structure LamW where
  q : Str
  params : Arguments
  body : Expr
  scope : Scope
  cl : List (Str × Addr)
  c : Addr
abbrev LamW.nf (F : LamW) : NdefX.NF := ⟨"<lambda>", F.q, F.params, [], F.scope, F.cl, F.c⟩
abbrev LamW.fn (F : LamW) (pm ctv : Value) : FuncData := PySem.W.kla_fn "<lambda>" F.q F.params F.body F.scope F.cl pm (.ref F.c) ctv
/-- it lies at f -/
structure LamAt (F : LamW) (f : Addr) (fr : List Str) (ws : List (Option V)) (h : Heap) (H : Hp) : Prop where
  obj : ∃ pm ctv, h.get? f = some (PySem.W.kla_obj "<lambda>" F.q F.params F.body F.scope F.cl pm F.c ctv)
  fre : H f = none
  cells : NdefX.CellsAt F.cl fr ws h H
section
variable {CX : CXT} {P : Program} {w : World} {K : PySem.W.Frag} {mg : Str → Option Value} {base : Heap} {N ps fr : List Str} {F : LamW} {f : Addr} {A : Around} {outer : List Env} {s : Shared} {H : Hp} {E : XK} {us : List Value} {vs : List V} {ws : List (Option V)} {Q : VK} {k : Nat}
theorem lam_run (S : NdefX.NScope N ps fr F.scope) (hb : ∀ (pm ctv : Value) (us : List Value), us.length = ps.length → bindArgs (F.fn pm ctv) ⟨us, []⟩ = pure (ps.zip us)) (hr : Room (k + 1) A) (e0 : Env0 P w K mg base A outer s H) (Lm : LamAt F f fr ws s.heap H)
    (hc : H F.c = some (LamX.CodeO F.c F.q)) (r : Vals vs us) (hl : vs.length = ps.length) (hbody : Room k (A.deeper (NdefX.envF F.nf f s.heap.objs.size)) → WE (NdefX.ncx CX P w K mg base N F.nf f A outer s H E) F.body (NdefX.startF N vs ws) H Q) :
    codeAny (model P w) A (.call (.ref f) ⟨us, []⟩) (CR CX outer P w H s Q E) s := by
  have lim : s.heap.NoLimit := e0.mod.nolimit.keeps fun b o e => (e0.bs b o e).1
  obtain ⟨pm, ctv, ho⟩ := Lm.obj
  refine PySem.W.kla_callFunE hr.depth ho rfl S.co S.gen rfl (NdefX.codeO_at e0.hok hc) ?_
  rw [hb pm ctv us (by rw [← r.length]; exact hl)]
  refine wpAny_pure (wpAny_newFunctionEnv S.nocell (fun ⟨n, _⟩ hy => S.par n (List.of_mem_zip hy).1) (fun h₁ hns hsb => ⟨lim.fresh _ hsb, ?_⟩) S.kind)
  show codeAny _ _ (.expr F.body (NdefX.envF F.nf f s.heap.objs.size)) _ _
  have kp : ∀ b o, s.heap.get? b = some o → h₁.get? b = some o := fun b o e => hsb.extBut b o (Nat.ne_of_lt (Heap.lt_size e)) (Heap.get?_push_of_some _ e)
  have I : Inv (NdefX.ncx CX P w K mg base N F.nf f A outer s H E) [] (NdefX.startF N vs ws) H { s with heap := h₁, toks := s.toks + (ps.zip us).length } := NdefX.inv_startN (F := F.nf) S hr.hd e0 hl r Lm.cells hns kp
  refine PySem.W.kla_codeExpr (wpAny_mono (hbody (hr.deeper _) [] _ I) (fun v s' hq => ?_) fun e s' hq => hq)
  obtain ⟨w', H', J', rv, q⟩ := hq
  exact ⟨w', H', J'.os, J'.bare, J'.base, J'.hok, rv, q⟩
end
/-! ### the lambda is made, nothing is forgotten -/
section
variable {X : Cx} {pins : List (Addr × Obj)} {σ : L2.St} {H : Hp} {s : Shared}
theorem lam_make3 {T : List (Addr × Str)} {cc tt : Addr} {params : Arguments} {body : Expr} {scope : Scope} {pos : Pos} {E : Value → Shared → Prop} {Q : Value → Shared → Prop} (I : Inv X pins σ H s) (TB : LamX.TabB X.base X.mg cc tt) (hcode : X.env.code = .ref cc)
    (hm : (tt, X.env.qual ++ "<lambda>") ∈ T) (hu : ∀ p ∈ T, p.1 = tt → p.2 = X.env.qual ++ "<lambda>") (hT : LamX.Tabs T H) (hdef : defaultsOf params X.env = ([], [])) (hfree : ∀ y ∈ scope.names, y.2 = .free → ∃ c, X.env.cells.lookup y.1 = some c)
    (h : ∀ (f c' : Addr) (pm ctv : Value) (H1 : Hp) (s' : Shared), Inv X pins σ H1 s' → Ext H H1 → LamX.Tabs T H1 →
      s'.heap.get? f = some (PySem.W.kla_obj "<lambda>" (X.env.qual ++ "<lambda>") params body scope (cloFrom X.env.cells scope.names []) pm c' ctv) → H1 f = none → f ∉ frs X.stack → H1 c' = some (LamX.CodeO c' (X.env.qual ++ "<lambda>")) → Q (.ref f) s') :
    wpAny (model X.prog X.w) X.A (eval (.Lambda params body scope pos) X.env) Q E s := by
  obtain ⟨qs, hP, ht, ha⟩ := hT _ hm
  refine PySem.W.kla_eval hdef ?_
  have bP : s.heap.BuiltinsAt X.mg tt := TB.bm.keeps I.bk
  have hP' : s.heap.get? tt = some { cls := .none, data := .fields qs } := I.hok tt _ hP
  have offStack : ∀ f, s.heap.objs.size ≤ f → f ∉ frs X.stack := fun f hf z => by
    rcases List.mem_cons.mp (I.stkSub _ z) with e | e
    · have h1 := I.lt
      rw [← e] at h1
      exact Nat.lt_irrefl _ (Nat.lt_of_lt_of_le h1 hf)
    · exact I.nofs hf e
  cases hcd : codeAmong pos qs.toList with
  | none =>
    refine PySem.W.kla_makeFunction (mg := X.mg) (c := cc) (P := tt) (ps := qs) (closure_ok hfree) I.ok.glob (I.mod.glob.keeps I.bk) hcode (TB.code.keeps I.bk) hP' ht hcd TB.gP bP fun c' ctv h' tk hx hge hlt hrec htb => ?_
    obtain ⟨c2, oc, vs, t, e2, hoc, hd, hv⟩ := hrec
    cases e2
    have big : s.heap.objs.size ≤ h'.objs.size := Nat.le_trans hge (Nat.le_of_lt hlt)
    have noC : H c' = none := I.hok.fresh hge
    have I1 := LamX.inv_table (t' := tk) (more := #[rawInt pos.line, rawInt pos.col, .ref c']) (h' := h'.push (PySem.W.kla_obj "<lambda>" (X.env.qual ++ "<lambda>") params body scope (cloFrom X.env.cells scope.names []) ((X.mg "__name__").getD .none) c' ctv)) I hP
      (fun b o hb e => Heap.get?_push_of_some _ (hx b o hb e)) (Heap.get?_push_of_some _ htb) hge ⟨oc, vs, t, Heap.get?_push_of_some _ hoc, hd, hv⟩
    have keepE : ∀ b o, H b = some o → (∀ ps, o ≠ .tbl ps) → upd (upd H tt (.tbl (qs ++ #[rawInt pos.line, rawInt pos.col, .ref c']))) c' (LamX.CodeO c' (X.env.qual ++ "<lambda>")) b = some o := fun b o e n => by
      rw [upd_ne (ne_of_none e noC), upd_ne (fun z => n qs (Option.some.inj (e.symm.trans (by rw [z]; exact hP))))]
      exact e
    have backE : ∀ b, upd (upd H tt (.tbl (qs ++ #[rawInt pos.line, rawInt pos.col, .ref c']))) c' (LamX.CodeO c' (X.env.qual ++ "<lambda>")) b = none → H b = none := fun b e => NdefX.upd_none (NdefX.upd_none e)
    have eL : (qs ++ #[rawInt pos.line, rawInt pos.col, .ref c']).toList = qs.toList ++ [rawInt pos.line, rawInt pos.col, .ref c'] := by simp
    refine h h'.objs.size c' ((X.mg "__name__").getD .none) ctv _ _ I1 ⟨keepE, backE⟩ (fun p hp => ?_) (Heap.get?_push_size _ rfl) ?_ (offStack _ big) upd_same
    · by_cases hb : p.1 = tt
      · rw [hu p hp hb, hb]
        refine ⟨_, by rw [upd_ne (ne_of_none hP noC), upd_same], by rw [eL]; exact PySem.TriplesOk_snoc _ _ _ _ ht, fun p' cv hcv => ?_⟩
        rw [eL] at hcv
        rcases LamX.among_app _ ht hcv with z | z
        · obtain ⟨c0, e1, e2⟩ := ha p' cv z
          exact ⟨c0, e1, keepE _ _ e2 LamX.codeO_ne⟩
        · exact ⟨c', z, upd_same⟩
      · obtain ⟨ps', a1, a2, a3⟩ := hT p hp
        refine ⟨ps', by rw [upd_ne (ne_of_none a1 noC), upd_ne hb]; exact a1, a2, fun p' cv hcv => ?_⟩
        obtain ⟨c0, e1, e2⟩ := a3 p' cv hcv
        exact ⟨c0, e1, keepE _ _ e2 LamX.codeO_ne⟩
    · rw [upd_ne (Nat.ne_of_gt hlt), upd_ne (Nat.ne_of_gt (Nat.lt_of_lt_of_le (Heap.lt_size hP') big))]
      exact I.hok.fresh big
  | some cv =>
    obtain ⟨c', e, hco⟩ := ha pos cv hcd
    subst e
    refine PySem.W.kla_makeFunctionHit (mg := X.mg) (c := cc) (P := tt) (ps := qs) (closure_ok hfree) I.ok.glob (I.mod.glob.keeps I.bk) hcode (TB.code.keeps I.bk) hP' ht hcd bP fun ctv h' tk hx hsz => ?_
    have I1 : Inv X pins σ H { s with heap := h'.push (PySem.W.kla_obj "<lambda>" (X.env.qual ++ "<lambda>") params body scope (cloFrom X.env.cells scope.names []) ((X.mg "__name__").getD .none) c' ctv), toks := tk } := I.kept fun b o e => Heap.get?_push_of_some _ (hx b o e)
    exact h h'.objs.size c' ((X.mg "__name__").getD .none) ctv H _ I1 (Ext.refl H) hT (Heap.get?_push_size _ rfl) (I.hok.fresh hsz) (offStack _ hsz) hco
end
section
variable {G : GC} {L : LC G} {ρ : Rho G} {e : Expr} {es : List Expr} {pos p1 p2 : Pos} {p q z : PV G}
/-- a function as a value, with what is known of what it holds -/
structure Cap (G : GC) where
  p : Hp → Prop
  mono : ∀ {H H' : Hp}, Ext H H' → p H → p H'
def stepP (f : Addr) (cap : Cap G) : PV G := ⟨fun H v => v = .ref f ∧ cap.p H, fun x ⟨h1, h2⟩ => ⟨h1, cap.mono x h2⟩⟩
/-- in L, f may be called -/
def LamIn (L : LC G) (f : Addr) (cap : Cap G) (RS : Rel G) : Prop := ∀ (pins : List (Addr × Obj)) (σ : L2.St) (H1 : Hp) (s1 : Shared), Inv L.X pins σ H1 s1 → ∀ B : Hp, Ext B H1 → cap.p B → PySem.W.FnAt f s1.heap ∧
  ∀ (us : List Value) (vs : List V) (ps : List (PV G)) (r : PV G) (Q : VK), Vals vs us → LamX.Tabs G.T H1 → RS ps r → PVs B vs ps →
    (∀ v B' H', Ext H1 H' → Ext B B' → Ext B' H' → LamX.Tabs G.T H' → (∀ a, H1 a ≠ none → B a = none → B' a = none) → r.p B' v → Q v H') → wpAny (model L.X.prog L.X.w) L.X.A (call (.ref f) us) (EP L.X pins σ Q) L.X.xe s1
theorem e_step (i : Nat) {x : Str} {f : Addr} {cap : Cap G} {RS : Rel G} {ps : List (PV G)} (hL : LamIn L f cap RS) (hs : ρ.sl[i]? = some (some (stepP f cap))) (ha : EvA L ρ (e :: es) ps) (hR : RS ps z) (hN : L.X.N[i]? = some x := by rfl) (hv : Vis L.X.env.scope x := by first | exact Or.inl rfl | exact Or.inr (Or.inl rfl) | exact Or.inr (Or.inr rfl))
    (hd : (x == ("__debug__" : Str)) = false := by decide) (hcd : (x == ("__classdict__" : Str)) = false := by decide) (he : starEach (e :: es) L.X.env = (false, eval e L.X.env) :: starEach es L.X.env := by rfl) (hpl : (backTo pos (starEach es L.X.env)).any (·.1) = false := by rfl) :
    EvD L ρ (.Call (.Name x p1) (e :: es) [] pos) z := EvD.of fun A B0 B σ H Q E k pins s I => by
  obtain ⟨v0, h1, rfl, hcap⟩ := E.sl i _ hs
  refine wpAny_Call_Name_kw (thn ((pe_var (pos := p1) hN hv hd hcd).run pins s σ H (fun v H1 => v = .ref f ∧ H1 = H) I ⟨.ref f, h1, rfl, rfl⟩) fun u s1 ⟨v, H1, I1, r1, ev, eH⟩ => ?_)
  subst ev
  rw [eH] at I1
  obtain rfl : u = Value.ref f := r1
  refine PySem.W.callWith_F (first := []) (hL pins σ H s1 I1 B E.bh hcap).1 (thn (ha.run E (Q := fun vs H2 => ∃ B2, Ext B B2 ∧ EnvB G A B0 B2 ρ σ H2 ∧ PVs B2 vs ps) (fun vs B2 H2 x2 E2 y2 => ⟨B2, x2, E2, y2⟩) pos pins s1 I1) fun us s2 ⟨vs, H2, I2, r, B2, x2, E2, y2⟩ => ?_) he hpl
  obtain ⟨g1, g2⟩ := hL pins σ H2 s2 I2 B2 E2.bh (cap.mono x2 hcap)
  refine ⟨g1, ?_⟩
  show wpAny _ _ (call (.ref f) us) _ _ _
  exact g2 us vs ps z Q r E2.tabs hR y2 fun v B' H' w1 w2 w3 t av y => k v B' H' (x2.trans w2) (E2.grow w2 w1 w3 av t) y
/-- the context of the lambda's body -/
abbrev lamL (G : GC) (k : Nat) (N : List Str) (F : LamW) (f : Addr) (A : Around) (outer : List Env) (s : Shared) (H : Hp) (E : XK) (nd : N.Nodup) (hr : Room k (A.deeper (NdefX.envF F.nf f s.heap.objs.size))) : LC G where
  X := NdefX.ncx CX0 G.P G.w G.K G.mg G.base N F.nf f A outer s H E
  hP := rfl
  hw := rfl
  hK := rfl
  hm := rfl
  hb := rfl
  calm := rfl
  nd := nd
  k := k
  room := hr
/-- the slots at its entry: the parameters, the captured things -/
def startL (N : List Str) (ps cs : List (PV G)) : List (Option (PV G)) := ps.map some ++ (cs.map some ++ List.replicate (N.length - ps.length - cs.length) none)
theorem pvs_get {B : Hp} {vs : List V} {ps : List (PV G)} (h : PVs B vs ps) {i : Nat} {p : PV G} (hp : ps[i]? = some p) : ∃ v, vs[i]? = some v ∧ p.p B v := by
  have l := pvs_len h
  have hi : i < vs.length := by rw [l]; exact (List.getElem?_eq_some_iff.mp hp).1
  exact ⟨vs[i], List.getElem?_eq_getElem hi, paired_get (F := fun v (p : PV G) => p.p B v) h (List.getElem?_eq_getElem hi) hp⟩
theorem startL_get {N : List Str} {ps cs : List (PV G)} {vs wv : List V} {B : Hp} (h : PVs B vs ps) (h2 : PVs B wv cs) {i : Nat} (e : (startL N ps cs)[i]? = some (some p)) : ∃ v, (NdefX.startF N vs (wv.map some))[i]? = some (some v) ∧ p.p B v := by
  have l := pvs_len h
  have l2 := pvs_len h2
  unfold startL at e
  unfold NdefX.startF
  by_cases hi : i < ps.length
  · rw [List.getElem?_append_left (by simpa using hi), List.getElem?_map] at e
    cases q : ps[i]? with
    | none => rw [q] at e; cases e
    | some x =>
      rw [q] at e
      cases e
      obtain ⟨v, h3, h4⟩ := pvs_get h q
      exact ⟨v, by rw [List.getElem?_append_left (by rw [List.length_map]; omega), List.getElem?_map, h3]; rfl, h4⟩
  · rw [List.getElem?_append_right (by simpa using hi), List.length_map] at e
    by_cases hj : i - ps.length < cs.length
    · rw [List.getElem?_append_left (by simpa using hj), List.getElem?_map] at e
      cases q : cs[i - ps.length]? with
      | none => rw [q] at e; cases e
      | some x =>
        rw [q] at e
        cases e
        obtain ⟨v, h3, h4⟩ := pvs_get h2 q
        refine ⟨v, ?_, h4⟩
        have el : (vs.map some).length = ps.length := by rw [List.length_map, l]
        rw [List.getElem?_append_right (by omega), el, List.getElem?_append_left (by rw [List.length_map]; omega), List.getElem?_map, h3]
        rfl
    · rw [List.getElem?_append_right (by simpa using hj), List.getElem?_replicate] at e
      split at e <;> cases e
/-- what a lambda's captured things say -/
def capOf (c : Addr) (q : Str) (wv : List V) (cs : List (PV G)) : Cap G := ⟨fun H => H c = some (LamX.CodeO c q) ∧ PVs H wv cs, fun x ⟨h1, h2⟩ => ⟨x.keep c _ h1 LamX.codeO_ne, PVs.mono x h2⟩⟩
/-- the lambda may be called in the def that got it -/
theorem lam_in {k j : Nat} {Ng N ps fr : List Str} {x : Str} {st : Stmt} {g f : Addr} {cd : Value} {A : Around} {outer : List Env} {s : Shared} {H : Hp} {E : XK} {nd : Ng.Nodup} {hr : Room k (A.deeper (envOfC x (defScope st) s.heap.objs.size g cd))} {F : LamW} {wv : List V} {cs : List (PV G)} {RS : Rel G}
    (hj : j + 1 ≤ k) (S : NdefX.NScope N ps fr F.scope) (hb : ∀ (pm ctv : Value) (us : List Value), us.length = ps.length → bindArgs (F.fn pm ctv) ⟨us, []⟩ = pure (ps.zip us)) (Lm : LamAt F f fr (wv.map some) s.heap H) (nfr : f ∉ frs outer) (cnf : ∀ y c, F.cl.lookup y = some c → c ∉ frs outer)
    (hcs : cs.length = fr.length) (hR : ∀ pvs r, RS pvs r → pvs.length = ps.length)
    (body : ∀ (pvs : List (PV G)) (r : PV G), RS pvs r → ∀ (A : Around) (outer : List Env) (s : Shared) (H : Hp) (E : XK) (hr : Room j (A.deeper (NdefX.envF F.nf f s.heap.objs.size))), EvD (lamL G j N F f A outer s H E S.nd hr) ⟨startL N pvs cs, []⟩ F.body r) :
    LamIn (bodyL G k Ng x st g cd A outer s H E nd hr) f (capOf F.c F.q wv cs) RS := by
  intro pins σ H1 s1 I B hB hcap
  obtain ⟨hc, hw⟩ := hcap
  obtain ⟨pm, ctv, ho⟩ := Lm.obj
  have ho1 := I.base.keep f _ ho Lm.fre nfr (fun z => nomatch (show f ∈ ([] : List Addr) from z))
  have fr1 := I.base.free f _ ho Lm.fre (fun z => nomatch (show f ∈ ([] : List Addr) from z))
  have C1 := NdefX.CellsAt.later (X := (bodyL G k Ng x st g cd A outer s H E nd hr).X) Lm.cells cnf (fun y c e z => nomatch (show c ∈ ([] : List Addr) from z)) I
  refine ⟨⟨_, _, _, _, ho1⟩, fun us vs pvs r Q rv ht hRS hv kk => ?_⟩
  have hc1 : H1 F.c = some (LamX.CodeO F.c F.q) := hB.keep _ _ hc LamX.codeO_ne
  have hl : vs.length = ps.length := by rw [pvs_len hv]; exact hR _ _ hRS
  have hwl := pvs_len hw
  have hpl : ps.length + fr.length ≤ N.length := by
    have q := congrArg List.length S.pre
    rw [List.length_take, List.length_append] at q
    omega
  refine wpAny_call (codeAny_mono (lam_run (CX := CX0) (E := E) (k := j) (vs := vs) (Q := Q) S hb (hr.mono hj) I.env0 ⟨⟨pm, ctv, ho1⟩, fr1, C1⟩ hc1 rv hl fun hr' => ?_) fun r' s' hq => ?_)
  · refine (body pvs r hRS _ _ s1 H1 E hr').run (A := H1) (B0 := B) (B := B) (σ := NdefX.startF N vs (wv.map some)) (H := H1) ⟨Ext.refl _, hB, Ext.refl _, fun a _ h => h, ht, fun i p e => startL_get hv hw e, (fun a c m => absurd m (by simp)), List.nodup_nil, ?_⟩ fun v B' H' x' E' y => ?_
    · show (startL N pvs cs).length = (NdefX.startF N vs (wv.map some)).length
      unfold startL NdefX.startF
      simp only [List.length_append, List.length_map, List.length_replicate]
      have := hR _ _ hRS
      omega
    · exact kk v B' H' E'.ah E'.b0 E'.bh E'.tabs E'.av y
  · cases r' with
    | error e => exact (show False from hq).elim
    | ok fl =>
      cases fl with
      | ret u => exact I.after hq
      | next => exact False.elim hq
      | brk => exact False.elim hq
      | cont => exact False.elim hq
theorem cells_ge : ∀ (names : List (Str × NameKind)) (n m : Nat) (acc : List (Str × Addr)), m ≤ n → (∀ y c, (y, c) ∈ acc → m ≤ c) → ∀ y c, (y, c) ∈ cellsFrom n names acc → m ≤ c
  | [], _, _, _, _, h, y, c, hm => h y c hm
  | (name, kind) :: r, n, m, acc, hn, h, y, c, hm => by
    unfold cellsFrom at hm
    split at hm
    · refine cells_ge r (n + 1) m ((name, n) :: acc) (Nat.le_succ_of_le hn) (fun y c h2 => ?_) y c hm
      rcases List.mem_cons.mp h2 with e | h2
      · cases e; exact hn
      · exact h y c h2
    · exact cells_ge r n m acc hn h y c hm
theorem body_cells {k : Nat} {N : List Str} {qual : Str} {st : Stmt} {f : Addr} {cd : Value} {A : Around} {outer : List Env} {s : Shared} {H : Hp} {E : XK} {nd : N.Nodup} {hr : Room k (A.deeper (envOfC qual (defScope st) s.heap.objs.size f cd))} :
    ∀ y c, (bodyL G k N qual st f cd A outer s H E nd hr).X.env.cells.lookup y = some c → (bodyL G k N qual st f cd A outer s H E nd hr).X.s_0.heap.objs.size ≤ c := fun y c e =>
  cells_ge _ _ _ _ (Nat.le_succ _) (fun _ _ h => absurd h (by simp)) y c (PySem.mem_of_lookup e)
mutual
theorem dp_swap {K : PySem.W.Frag} {H H' : Hp} (k : ∀ a o, ((∃ xs, o = .tup xs) ∨ (∃ xs, o = .lst xs) ∨ ∃ ob u, o = .frz ob u) → H a = some o → H' a = some o) : ∀ (d : PyData) (v : V), Dp K H v d → Dp K H' v d
  | .none, _, h => by cases h; exact .non
  | .bool b, _, h => by cases h; exact .bl b
  | .int i, _, h => by cases h; exact .int i
  | .str z, _, h => by cases h; exact .str z
  | .dict _, _, h => by cases h
  | .list ds, _, h => by
    cases h with
    | lst hs ha =>
      refine .lst ?_ (dpa_swap k ds _ ha)
      rcases hs with (h | ⟨ob, h⟩) | h
      · exact .inl (.inl (k _ _ (.inr (.inl ⟨_, rfl⟩)) h))
      · exact .inl (.inr ⟨ob, k _ _ (.inr (.inr ⟨_, _, rfl⟩)) h⟩)
      · exact .inr h
  | .tuple ds, _, h => by
    cases h with
    | tup hs ha =>
      refine .tup ?_ (dpa_swap k ds _ ha)
      rcases hs with (h | ⟨ob, h⟩) | h
      · exact .inl (.inl (k _ _ (.inl ⟨_, rfl⟩) h))
      · exact .inl (.inr ⟨ob, k _ _ (.inr (.inr ⟨_, _, rfl⟩)) h⟩)
      · exact .inr h
theorem dpa_swap {K : PySem.W.Frag} {H H' : Hp} (k : ∀ a o, ((∃ xs, o = .tup xs) ∨ (∃ xs, o = .lst xs) ∨ ∃ ob u, o = .frz ob u) → H a = some o → H' a = some o) : ∀ (ds : List PyData) (vs : List V), DpAll K H vs ds → DpAll K H' vs ds
  | [], _, h => by cases h; exact .nil
  | d :: ds, _, h => by
    cases h with
    | cons h1 h2 => exact .cons (dp_swap k d _ h1) (dpa_swap k ds _ h2)
end
/-- x(e1, e2, lambda ..: ..), the lambda holding one thing -/
theorem e_lamcall {d : PyData} {k j jv : Nat} {Ng N ps pg : List Str} {x y : Str} {st : Stmt} {g cc tt : Addr} {fd : FuncData} {RS : Rel G} {e1 e2 : Expr} {params : Arguments} {body : Expr} {scope : Scope} {lpos pf : Pos} {pc : PV G} (hk1 : k + 1 ≤ L.k) (hj : j + 1 ≤ k)
    (hm : G.mg x = some (.ref g)) (Fg : Fun G.K x x st g fd) (hbd : Binds G.K fd pg []) (Sg : FnScope Ng pg (defScope st)) (hpg : pg.length = 3)
    (TB : LamX.TabB G.base G.mg cc tt) (hcode : L.X.env.code = .ref cc) (hmT : (tt, L.X.env.qual ++ "<lambda>") ∈ G.T) (hu : ∀ p ∈ G.T, p.1 = tt → p.2 = L.X.env.qual ++ "<lambda>") (hdef : defaultsOf params L.X.env = ([], []))
    (S : NdefX.NScope N ps [y] scope) (hb : ∀ (q : Str) (cl : List (Str × Addr)) (pm cv ctv : Value) (us : List Value), us.length = ps.length → bindArgs (PySem.W.kla_fn "<lambda>" q params body scope cl pm cv ctv) ⟨us, []⟩ = pure (ps.zip us))
    (hfree : ∀ y ∈ scope.names, y.2 = .free → L.X.env.scope.names.lookup y.1 = some .cell ∨ L.X.env.scope.names.lookup y.1 = some .free) (hfr : (y, NameKind.free) ∈ scope.names) (hjv : L.X.N[jv]? = some y) (hsl : ρ.sl[jv]? = some (some pc))
    (hcl : ∀ y c, L.X.env.cells.lookup y = some c → L.X.s_0.heap.objs.size ≤ c)
    (ha1 : EvD L ρ e1 p) (ha2 : EvD L ρ e2 q) (hR : ∀ pvs r, RS pvs r → pvs.length = ps.length)
    (hlam : ∀ (f c' : Addr) (cl : List (Str × Addr)) (pvs : List (PV G)) (r : PV G), RS pvs r → ∀ (A : Around) (outer : List Env) (s : Shared) (H : Hp) (E : XK) (hr : Room j (A.deeper (NdefX.envF (LamW.nf ⟨L.X.env.qual ++ "<lambda>", params, body, scope, cl, c'⟩) f s.heap.objs.size))), EvD (lamL G j N ⟨L.X.env.qual ++ "<lambda>", params, body, scope, cl, c'⟩ f A outer s H E S.nd hr) ⟨startL N pvs [pc], []⟩ body r)
    (hmach : ∀ (f : Addr) (cap : Cap G) (cd : Value) (A : Around) (outer : List Env) (s : Shared) (H : Hp) (E : XK) (hr : Room k (A.deeper (envOfC x (defScope st) s.heap.objs.size g cd))), LamIn (bodyL G k Ng x st g cd A outer s H E Sg.nd hr) f cap RS → StD (bodyL G k Ng x st g cd A outer s H E Sg.nd hr) ⟨startS Ng [p, q, stepP f cap], []⟩ (defBody st) { nx := fun _ => False, rt := fun p _ => p = dat d })
    (hg : Gl L.X x := by rfl) (hdb : (x == ("__debug__" : Str)) = false := by decide) (h0 : backTo pos (starEach [e1, e2, .Lambda params body scope lpos] L.X.env) = [(false, eval e1 L.X.env), (false, eval e2 L.X.env), (false, eval (.Lambda params body scope lpos) L.X.env)] := by rfl)
    (hpl1 : starEach [e1, e2, .Lambda params body scope lpos] L.X.env = (false, eval e1 L.X.env) :: starEach [e2, .Lambda params body scope lpos] L.X.env := by rfl) (hpl2 : (backTo pos (starEach [e2, .Lambda params body scope lpos] L.X.env)).any (·.1) = false := by rfl) :
    EvD L ρ (.Call (.Name x pf) [e1, e2, .Lambda params body scope lpos] [] pos) (dat d) := EvD.of fun A B0 B σ H Q E kk pins s I => by
  obtain ⟨oc, od, kV, doc, pm, an, cdv, ct, osl, rfl, lk, hcg⟩ := Fg.ex
  refine wpAny_Call_Name_kw (ld_glob I hg (by rw [L.hm]; exact hm) ?_ hdb)
  refine PySem.W.callWith_K (h₀ := L.X.base) I.ok.mod.kin (by rw [L.hK]; exact Fg.kp) ?_ hpl1 hpl2
  rw [h0]
  refine Calls.spliced_cons (thn (ha1.run E (Q := fun v H1 => ∃ B1, Ext B B1 ∧ EnvB G A B0 B1 ρ σ H1 ∧ p.p B1 v) (fun v B1 H1 x1 E1 y1 => ⟨B1, x1, E1, y1⟩) pins s I) fun u1 s1 ⟨v1, H1, I1, r1, B1, x1, E1, y1⟩ => ?_)
  refine Calls.spliced_cons (thn (ha2.run E1 (Q := fun v H2 => ∃ B2, Ext B1 B2 ∧ EnvB G A B0 B2 ρ σ H2 ∧ q.p B2 v) (fun v B1 H1 x1 E1 y1 => ⟨B1, x1, E1, y1⟩) pins s1 I1) fun u2 s2 ⟨v2, H2, I2, r2, B2, x2, E2, y2⟩ => ?_)
  have hf1 : ∀ y ∈ scope.names, y.2 = .free → ∃ c, L.X.env.cells.lookup y.1 = some c := fun y hy e => (hfree y hy e).elim (fun z => I2.ok.has _ (.inl z)) fun z => I2.ok.has _ (.inr z)
  refine Calls.spliced_cons (lam_make3 I2 (by rw [L.hb, L.hm]; exact TB) hcode hmT hu E2.tabs hdef hf1 fun f c' pm' ctv H3 s3 I3 x3 T3 hf hfn hfr3 hco => ?_)
  refine Calls.spliced_nil ⟨I3.kIn, ?_⟩
  -- what the lambda holds
  have cp : NdefX.Caps L.X (cloFrom L.X.env.cells scope.names []) [y] [jv] := NdefX.Caps.made I3.ok hfree (fun y' hy' => by rw [List.mem_singleton.mp hy']; exact hfr) (by simp [hjv])
  have C3 := NdefX.cells_of I3 cp
  obtain ⟨wv, hw1, hw2⟩ := E2.sl jv pc hsl
  have ews : ([jv].map (NdefX.slotAt σ)) = [wv].map some := by
    show [NdefX.slotAt σ jv] = [some wv]
    rw [NdefX.slotAt_of hw1]
  rw [ews] at C3
  have Lm : LamAt ⟨L.X.env.qual ++ "<lambda>", params, body, scope, cloFrom L.X.env.cells scope.names [], c'⟩ f [y] ([wv].map some) s3.heap H3 := ⟨⟨pm', ctv, hf⟩, hfn, C3⟩
  have cnf : ∀ y c, (cloFrom L.X.env.cells scope.names []).lookup y = some c → c ∉ frs L.X.stack := fun y c e hm => by
    have e := NdefX.clo_cm hf1 e
    rcases List.mem_cons.mp (I3.stkSub c hm) with h | h
    · exact I3.cne y c e h
    · obtain ⟨_, o, ho, _⟩ := I3.ok.funs.mem h
      exact absurd (Nat.lt_of_lt_of_le (Heap.lt_size ho) (hcl y c e)) (Nat.lt_irrefl _)
  -- the part that stays, with the code object
  let B3 : Hp := fun a => if a = c' then H3 c' else B2 a
  have b3c : B3 c' = some (LamX.CodeO c' (L.X.env.qual ++ "<lambda>")) := by
    show (if c' = c' then H3 c' else B2 c') = _
    rw [if_pos rfl]; exact hco
  have b3n : ∀ a, a ≠ c' → B3 a = B2 a := fun a h => if_neg h
  have bh3 : Ext B2 H3 := E2.bh.trans x3
  have xb : Ext B2 B3 := by
    constructor
    · intro b o e n
      by_cases hb : b = c'
      · subst hb
        have := bh3.keep b o e n
        show (if b = b then H3 b else B2 b) = _
        rw [if_pos rfl]; exact this
      · rw [b3n b hb]; exact e
    · intro b e
      by_cases hb : b = c'
      · subst hb; rw [b3c] at e; cases e
      · rw [b3n b hb] at e; exact e
  have xh : Ext B3 H3 := by
    constructor
    · intro b o e n
      by_cases hb : b = c'
      · subst hb; rw [b3c] at e; rw [hco]; exact e
      · rw [b3n b hb] at e; exact bh3.keep b o e n
    · intro b e
      by_cases hb : b = c'
      · subst hb; rw [hco] at e; cases e
      · rw [b3n b hb]; exact bh3.back b e
  let cap : Cap G := capOf c' (L.X.env.qual ++ "<lambda>") [wv] [pc]
  have hcap : cap.p B3 := ⟨b3c, .cons (pc.mono xb hw2) .nil⟩
  have vals : Vals [v1, v2, .ref f] [u1, u2, .ref f] := .cons r1 (.cons r2 (.cons rfl .nil))
  have pv : PVs B3 [v1, v2, .ref f] [p, q, stepP f cap] := .cons (p.mono (x2.trans xb) y1) (.cons (q.mono xb y2) (.cons ⟨rfl, hcap⟩ .nil))
  have rc : codeAny (model L.X.prog L.X.w) L.X.A (.call (.ref g) ⟨[u1, u2, .ref f], []⟩) (CR CX0 L.X.stack L.X.prog L.X.w H3 s3 Q E0) s3 := by
    rw [L.hP, L.hw]
    have e0 := I3.env0
    rw [L.hP, L.hw, L.hK, L.hm, L.hb] at e0
    refine LamX.run_ofS (N := Ng) (ps := pg) (us := [u1, u2, .ref f]) (vs := [v1, v2, .ref f]) lk hcg Sg (L.room.mono hk1) e0 (hbd s3 [u1, u2, .ref f] (by have := I3.kIn; rw [L.hK] at this; exact this) (by rw [hpg]; rfl)) vals (by rw [hpg]; rfl) fun hr' => ?_
    have LI := lam_in (G := G) (Ng := Ng) (x := x) (st := st) (g := g) (f := f) (cd := cdv) (A := L.X.A) (outer := L.X.stack) (s := s3) (H := H3) (E := E0) (nd := Sg.nd) (hr := hr') (F := ⟨L.X.env.qual ++ "<lambda>", params, body, scope, cloFrom L.X.env.cells scope.names [], c'⟩) (wv := [wv]) (cs := [pc]) (RS := RS) hj S (fun pm ctv us h => hb _ _ pm (.ref c') ctv us h) Lm hfr3 cnf rfl hR (fun pvs r h A outer s H E hr => hlam f c' _ pvs r h A outer s H E hr)
    refine ⟨_, (WSs.pss (bodyL G k Ng x st g cdv L.X.A L.X.stack s3 H3 E0 Sg.nd hr').X (defBody st)).nox, hmach f cap cdv _ _ s3 H3 E0 hr' LI H3 B3 B3 (L2.start Ng [v1, v2, .ref f]) H3 _ ⟨Ext.refl _, xh, Ext.refl _, fun a _ h => h, T3, fun i p e => start_get pv e, (fun a c m => absurd m (by simp)), List.nodup_nil, ?_⟩ ⟨fun ρ h B' σ' H' E' => ?_, fun p ρ h v B' σ' H' E' y => ?_, fun _ h => h.elim, fun _ h => h.elim⟩⟩
    · have lp : pg.length ≤ Ng.length := by have q := congrArg List.length Sg.pre; rw [List.length_take] at q; omega
      show (startS Ng [p, q, stepP f cap]).length = (L2.start Ng [v1, v2, .ref f]).length
      rw [startS_len Ng _ (by rw [hpg] at lp; exact lp)]
      unfold L2.start
      rw [List.length_append, List.length_map, List.length_replicate]
      show Ng.length = 3 + (Ng.length - 3)
      omega
    · exact h.elim
    · subst h
      -- what the call leaves
      let B5 : Hp := fun a => if a = c' then B2 c' else B' a
      have b5c : B5 c' = B2 c' := if_pos rfl
      have b5n : ∀ a, a ≠ c' → B5 a = B' a := fun a h => if_neg h
      have hc5 : H' c' = some (LamX.CodeO c' (L.X.env.qual ++ "<lambda>")) := E'.ah.keep _ _ hco LamX.codeO_ne
      have bc' : B' c' = some (LamX.CodeO c' (L.X.env.qual ++ "<lambda>")) := E'.b0.keep _ _ b3c LamX.codeO_ne
      have z1 : Ext B2 B5 := by
        constructor
        · intro b o e n
          by_cases hb : b = c'
          · subst hb; rw [b5c]; exact e
          · rw [b5n b hb]; exact E'.b0.keep b o (by rw [b3n b hb]; exact e) n
        · intro b e
          by_cases hb : b = c'
          · subst hb; rw [b5c] at e; exact e
          · rw [b5n b hb] at e
            have := E'.b0.back b e
            rw [b3n b hb] at this
            exact this
      have z2 : Ext B5 H' := by
        constructor
        · intro b o e n
          by_cases hb : b = c'
          · subst hb
            rw [b5c] at e
            exact E'.ah.keep b o (bh3.keep b o e n) n
          · rw [b5n b hb] at e; exact E'.bh.keep b o e n
        · intro b e
          by_cases hb : b = c'
          · subst hb; rw [hc5] at e; cases e
          · rw [b5n b hb]; exact E'.bh.back b e
      refine kk v B5 H' ((x1.trans x2).trans z1) (E2.grow z1 (x3.trans E'.ah) z2 (fun a ha hb => ?_) E'.tabs) (dp_swap (fun a o ho e => ?_) d v y)
      · by_cases hac : a = c'
        · rw [hac, b5c, ← hac]; exact hb
        · rw [b5n a hac]
          exact E'.av a (x3.some ha) (by rw [b3n a hac]; exact hb)
      · have hac : a ≠ c' := fun z => by
          rw [z, bc'] at e
          have e := Option.some.inj e
          unfold LamX.CodeO at e
          rcases ho with ⟨xs, h⟩ | ⟨xs, h⟩ | ⟨ob, u, h⟩ <;> (rw [h] at e; cases e)
        rw [b5n a hac]; exact e
  refine wpAny_call (codeAny_mono rc fun r s' hq => ?_)
  cases r with
  | error e => exact (show False from hq).elim
  | ok fl =>
    cases fl with
    | ret u => exact I3.after hq
    | next => exact False.elim hq
    | brk => exact False.elim hq
    | cont => exact False.elim hq
end
end MR
/-! L13: instances that are read: fields, methods. -/
namespace MR
open PySem PySem.Spec PyProof.Rows L2
section
variable {G : GC} {L : LC G} {ρ : Rho G} {e o : Expr} {es : List Expr} {p q z : PV G} {pos p1 apos : Pos}
abbrev FldR (B : Hp) : Str × V → Str × PV G → Prop := fun x q => x.1 = q.1 ∧ q.2.p B x.2
theorem fld_some {B : Hp} {f : Str} : ∀ {vs : List (Str × V)} {fs : List (Str × PV G)}, Paired (FldR B) vs fs → fs.lookup f = some q → ∃ v, vs.lookup f = some v ∧ q.p B v
  | _, _, .nil, h => by cases h
  | (x, v) :: vs, (y, r) :: fs, .cons ⟨h1, h2⟩ t, h => by
    have h1 : x = y := h1
    subst h1
    rw [List.lookup_cons] at h ⊢
    cases hb : f == x with
    | true => rw [hb] at h; cases h; exact ⟨v, rfl, h2⟩
    | false => rw [hb] at h; exact fld_some t h
theorem fld_none {B : Hp} {f : Str} : ∀ {vs : List (Str × V)} {fs : List (Str × PV G)}, Paired (FldR B) vs fs → fs.lookup f = none → vs.lookup f = none
  | _, _, .nil, _ => rfl
  | (x, v) :: vs, (y, r) :: fs, .cons ⟨h1, h2⟩ t, h => by
    have h1 : x = y := h1
    subst h1
    rw [List.lookup_cons] at h ⊢
    cases hb : f == x with
    | true => rw [hb] at h; cases h
    | false => rw [hb] at h; exact fld_none t h
/-- an instance whose fields stand -/
def insP (C : Addr) (fs : List (Str × PV G)) : PV G := ⟨fun B v => ∃ a dx vs, v = .ref a ∧ B a = some (.ins C dx vs) ∧ Paired (FldR B) vs fs,
  fun x ⟨a, dx, vs, h1, h2, h3⟩ => ⟨a, dx, vs, h1, x.keep a _ h2 (fun ps => by simp), pair_mono (fun u q h => ⟨h.1, q.2.mono x h.2⟩) h3⟩⟩
/-- o.f -/
theorem e_fld {C : Addr} {fs : List (Str × PV G)} {f : Str} (c : L2.Cls G.K C) (n : NoAttr G.K C f) (ho : EvD L ρ o (insP C fs)) (hq : fs.lookup f = some q) (hb : attributeBase o f L.X.env (eval o L.X.env) = eval o L.X.env := by rfl) : EvD L ρ (.Attribute o f pos) q :=
  EvD.of fun A B0 B σ H Q E k => WE.of (pe_fld (WE.pe _ _) hb) (ho.run E fun v B1 H1 x1 E1 y1 => by
    obtain ⟨a, dx, vs, e1, e2, e3⟩ := y1
    obtain ⟨u, hu, hp⟩ := fld_some e3 hq
    exact ⟨a, C, dx, vs, u, e1, E1.bh.keep a _ e2 (fun ps => by simp), by rw [L.hK]; exact c, by rw [L.hK]; exact n, hu, k u B1 H1 x1 E1 hp⟩)
/-- what a method promises that changes nothing -/
structure MtD (G : GC) (k : Nat) (C : Addr) (m : Str) (ps : List Str) (R : Rel G) : Prop where
  ex : ∃ f fd, Meth G.K C m f ∧ Binds G.K fd ps [] ∧ FnOk G.P G.w G.K G.mg G.base CX0 k f fd ps (spR R)
theorem MtD.mono {j k : Nat} {C : Addr} {m : Str} {ps : List Str} {R : Rel G} (F : MtD G j C m ps R) (h : j ≤ k) : MtD G k C m ps R := by
  obtain ⟨f, fd, h1, h2, h3⟩ := F.ex
  exact ⟨f, fd, h1, h2, h3.mono h⟩
theorem e_meth {j : Nat} {C : Addr} {m : Str} {pn : List Str} {R : Rel G} {ps : List (PV G)} {fs : List (Str × PV G)} {pl : Sem Bool} (c : L2.Cls G.K C) (F : MtD G j C m pn R) (hj : j ≤ L.k) (ho : EvD L ρ o (insP C fs)) (hn : fs.lookup m = none) (ha : EvA L ρ (e :: es) ps) (hR : R (insP C fs :: ps) z)
    (hst : starEach (e :: es) L.X.env = (false, eval e L.X.env) :: starEach es L.X.env := by rfl) (hpl : (backTo pos (starEach es L.X.env)).any (·.1) = false := by rfl)
    (ht : eval (.Call (.Attribute o m apos) (e :: es) [] pos) L.X.env = (do
      let ov ← eval o L.X.env
      standAt apos.atName
      let (f, first) ← holding [ov] (getMethod ov m pl)
      callWith pos f first (backTo pos (starEach (e :: es) L.X.env)) (backToKw pos (keywordEach [] L.X.env))) := by rfl) : EvD L ρ (.Call (.Attribute o m apos) (e :: es) [] pos) z := by
  obtain ⟨f, fd, h1, h2, h3⟩ := F.ex
  refine EvD.of fun A B0 B σ H Q E k => WE.of (pe_meth (pl := pl) (WE.pe _ _) (by rw [L.hK]; exact c) (by rw [L.hK]; exact h1) (L.fnOk h3) (L.room.mono hj) (by rw [L.hK]; exact h2) .nil pass0 (WA.pa _ _) hst hpl ht) (ho.run E fun v B1 H1 x1 E1 y1 => ?_)
  obtain ⟨a, dx, vs, e1, e2, e3⟩ := y1
  refine ⟨a, dx, vs, e1, E1.bh.keep a _ e2 (fun ps => by simp), fld_none e3 hn, ha.run E1 fun us B2 H2 x2 E2 y2 => ?_⟩
  refine ⟨E2.tabs, B2, insP C fs :: ps, z, E2.bh, hR, .cons ((insP C fs).mono x2 ⟨a, dx, vs, e1, e2, e3⟩) (by rw [List.append_nil]; exact y2), fun v B' H' w1 w2 w3 t av y => ?_⟩
  exact k v B' H' ((x1.trans x2).trans w2) (E2.grow w2 w1 w3 av t) y
theorem e_meth0 {j : Nat} {C : Addr} {m : Str} {pn : List Str} {R : Rel G} {fs : List (Str × PV G)} {pl : Sem Bool} (c : L2.Cls G.K C) (F : MtD G j C m pn R) (hj : j ≤ L.k) (ho : EvD L ρ o (insP C fs)) (hn : fs.lookup m = none) (hR : R [insP C fs] z)
    (ht : eval (.Call (.Attribute o m apos) [] [] pos) L.X.env = (do
      let ov ← eval o L.X.env
      standAt apos.atName
      let (f, first) ← holding [ov] (getMethod ov m pl)
      callWith pos f first (backTo pos (starEach [] L.X.env)) (backToKw pos (keywordEach [] L.X.env))) := by rfl) : EvD L ρ (.Call (.Attribute o m apos) [] [] pos) z := by
  obtain ⟨f, fd, h1, h2, h3⟩ := F.ex
  refine EvD.of fun A B0 B σ H Q E k => WE.of (pe_meth0 (pl := pl) (WE.pe _ _) (by rw [L.hK]; exact c) (by rw [L.hK]; exact h1) (L.fnOk h3) (L.room.mono hj) (by rw [L.hK]; exact h2) .nil pass0 ht) (ho.run E fun v B1 H1 x1 E1 y1 => ?_)
  obtain ⟨a, dx, vs, e1, e2, e3⟩ := y1
  refine ⟨a, dx, vs, e1, E1.bh.keep a _ e2 (fun ps => by simp), fld_none e3 hn, E1.tabs, B1, [insP C fs], z, E1.bh, hR, .cons ⟨a, dx, vs, e1, e2, e3⟩ .nil, fun v B' H' w1 w2 w3 t av y => ?_⟩
  exact k v B' H' (x1.trans w2) (E1.grow w2 w1 w3 av t) y
/-- a def's promise from its body -/
theorem fnOk_mk {k : Nat} {x qual : Str} {st : Stmt} {f : Addr} {fd : FuncData} {N ps : List Str} {R : Rel G} (F : Fun G.K x qual st f fd)
    (S : FnScope N ps (defScope st)) (hR : ∀ pvs r, R pvs r → pvs.length = ps.length)
    (body : ∀ (pvs : List (PV G)) (r : PV G), R pvs r → ∀ (f : Addr) (cd : Value) (A : Around) (outer : List Env) (s : Shared) (H : Hp) (E : XK) (hr : Room k (A.deeper (envOfC qual (defScope st) s.heap.objs.size f cd))),
      StD (bodyL G k N qual st f cd A outer s H E S.nd hr) ⟨startS N pvs, []⟩ (defBody st) { nx := fun _ => ∀ B, r.p B .non, rt := fun p _ => p = r }) : FnOk G.P G.w G.K G.mg G.base CX0 (k + 1) f fd ps (spR R) := by
  refine F.ok S (fun vs H Q E ⟨_, B, pvs, r, _, hr, hv, _⟩ => by rw [pvs_len hv]; exact hR _ _ hr) fun cdv A outer s H vs Q E hr h => ?_
  obtain ⟨ht, B, pvs, r, hB, hrel, hv, kk⟩ := h
  have lp : ps.length ≤ N.length := by have q := congrArg List.length S.pre; rw [List.length_take] at q; omega
  refine ⟨_, WSs.pss _ _, body pvs r hrel f cdv A outer s H E hr H B B (L2.start N vs) H _ ⟨Ext.refl _, hB, Ext.refl _, fun a _ h => h, ht, fun i p e => start_get hv e, (fun a c m => absurd m (by simp)), List.nodup_nil, ?_⟩ ⟨fun ρ h B' σ' H' E' => ?_, fun p ρ h v B' σ' H' E' y => ?_, fun _ h => h.elim, fun _ h => h.elim⟩⟩
  · show (startS N pvs).length = (L2.start N vs).length
    rw [startS_len N pvs (by rw [hR _ _ hrel]; exact lp)]
    unfold L2.start
    rw [List.length_append, List.length_map, List.length_replicate, pvs_len hv, hR _ _ hrel]
    omega
  · exact kk .non B' H' E'.ah E'.b0 E'.bh E'.tabs E'.av (h B')
  · subst h
    exact kk v B' H' E'.ah E'.b0 E'.bh E'.tabs E'.av y
end
end MR
/-! L14: promises with effects: a callee is given owned containers and gives owned containers back. -/
namespace MR
open PySem PySem.Spec PyProof.Rows L2
section
variable {G : GC} {L : LC G} {ρ : Rho G} {e o : Expr} {es : List Expr} {p q z : PV G} {pos p1 apos : Pos}
abbrev Own (G : GC) := List (Addr × Cont G)
/-- the heap without the owned containers -/
def less (own : Own G) (H : Hp) : Hp := fun a => if a ∈ own.map (·.1) then none else H a
theorem less_in {own : Own G} {H : Hp} {a : Addr} (h : a ∈ own.map (·.1)) : less own H a = none := if_pos h
theorem less_out {own : Own G} {H : Hp} {a : Addr} (h : a ∉ own.map (·.1)) : less own H a = H a := if_neg h
theorem less_ext {own : Own G} {H : Hp} : Ext (less own H) H := by
  constructor
  · intro b o h _
    by_cases hb : b ∈ own.map (·.1)
    · rw [less_in hb] at h; cases h
    · rw [less_out hb] at h; exact h
  · intro b h
    by_cases hb : b ∈ own.map (·.1)
    · exact less_in hb
    · rw [less_out hb]; exact h
theorem ext_less {own : Own G} {A H : Hp} (x : Ext A H) (h : ∀ a ∈ own.map (·.1), A a = none) : Ext A (less own H) := by
  constructor
  · intro b o e n
    by_cases hb : b ∈ own.map (·.1)
    · rw [h b hb] at e; cases e
    · rw [less_out hb]; exact x.keep b o e n
  · intro b e
    by_cases hb : b ∈ own.map (·.1)
    · exact h b hb
    · rw [less_out hb] at e; exact x.back b e
abbrev RelM (G : GC) := List (PV G) → Own G → (PV G → Rho G → Prop) → Prop
def spM (R : RelM G) : Sp := fun vs H Q _ => LamX.Tabs G.T H ∧ ∃ B ps own Pw, Ext B H ∧ R ps own Pw ∧ PVs B vs ps ∧ (∀ a c, (a, c) ∈ own → B a = none ∧ ContAt G B H a c) ∧ (own.map (·.1)).Nodup ∧
  ∀ r ρ', Pw r ρ' → ∀ v B' H', Ext (less own H) H' → Ext B B' → Ext B' H' → LamX.Tabs G.T H' → (∀ a, less own H a ≠ none → B a = none → B' a = none) → (∀ a c, (a, c) ∈ ρ'.ow → less own H a = none ∧ B' a = none ∧ ContAt G B' H' a c) → (ρ'.ow.map (·.1)).Nodup → (∀ (i : Nat) p, ρ'.sl[i]? = some (some p) → ∃ v, p.p B' v) → r.p B' v → Q v H'
/-- what a method promises that takes and gives owned containers -/
structure MtM (G : GC) (k : Nat) (C : Addr) (m : Str) (ps : List Str) (R : RelM G) : Prop where
  ex : ∃ f fd, Meth G.K C m f ∧ Binds G.K fd ps [] ∧ FnOk G.P G.w G.K G.mg G.base CX0 k f fd ps (spM R)
/-- a def, likewise -/
structure FnM (G : GC) (k : Nat) (x : Str) (ps : List Str) (R : RelM G) : Prop where
  ex : ∃ f fd, G.mg x = some (.ref f) ∧ PySem.W.keepIn G.K (.ref f) = true ∧ Binds G.K fd ps [] ∧ FnOk G.P G.w G.K G.mg G.base CX0 k f fd ps (spM R)
theorem EnvB.backM {A B0 B B' H H' : Hp} {σ : L2.St} {own own' rest : Own G} (E : EnvB G A B0 B ρ σ H) (hp : ρ.ow.Perm (own ++ rest)) (x : Ext (less own H) H') (b : Ext B B') (bh : Ext B' H') (t : LamX.Tabs G.T H') (av : ∀ a, less own H a ≠ none → B a = none → B' a = none)
    (ow : ∀ a c, (a, c) ∈ own' → less own H a = none ∧ B' a = none ∧ ContAt G B' H' a c) (nd : (own'.map (·.1)).Nodup) : EnvB G A B0 B' ⟨ρ.sl, own' ++ rest⟩ σ H' := by
  have inO : ∀ a c, (a, c) ∈ own → (a, c) ∈ ρ.ow := fun a c h => hp.mem_iff.mpr (List.mem_append_left _ h)
  have inR : ∀ a c, (a, c) ∈ rest → (a, c) ∈ ρ.ow := fun a c h => hp.mem_iff.mpr (List.mem_append_right _ h)
  have hA : ∀ a ∈ own.map (·.1), A a = none := fun a ha => by
    obtain ⟨⟨a', c⟩, h1, rfl⟩ := List.mem_map.mp ha
    exact (E.ow a' c (inO a' c h1)).1
  have AL := ext_less E.ah hA
  have nd2 : ((own ++ rest).map (·.1)).Nodup := ((hp.map (·.1)).nodup_iff).mp E.nd
  rw [List.map_append] at nd2
  have dis : ∀ a, a ∈ rest.map (·.1) → a ∉ own.map (·.1) := fun a h1 h2 => (List.nodup_append.mp nd2).2.2 a h2 a h1 rfl
  have rl : ∀ a c, (a, c) ∈ rest → less own H a = H a ∧ less own H a ≠ none := fun a c h => by
    have h1 := less_out (H := H) (dis a (List.mem_map.mpr ⟨(a, c), h, rfl⟩))
    refine ⟨h1, ?_⟩
    rw [h1]
    obtain ⟨_, _, o, e, _⟩ := E.ow a c (inR a c h)
    rw [e]
    exact fun z => nomatch z
  refine ⟨E.b0.trans b, bh, AL.trans x, fun a ha hb => av a (fun z => ha (AL.back a z)) (E.av a ha hb), t, fun i p e => let ⟨v, h1, h2⟩ := E.sl i p e; ⟨v, h1, p.mono b h2⟩, fun a c m => ?_, ?_, E.ln⟩
  · rcases List.mem_append.mp m with m | m
    · obtain ⟨h1, h2, h3⟩ := ow a c m
      exact ⟨AL.back a h1, h2, h3⟩
    · obtain ⟨h1, h2, o, e, h3⟩ := E.ow a c (inR a c m)
      obtain ⟨r1, r2⟩ := rl a c m
      exact ⟨h1, av a r2 h2, o, x.keep a o (by rw [r1]; exact e) h3.notTbl, h3.mono b⟩
  · show ((own' ++ rest).map (·.1)).Nodup
    rw [List.map_append]
    refine List.nodup_append.mpr ⟨nd, (List.nodup_append.mp nd2).2.1, fun a h1 a' h2 z => ?_⟩
    subst z
    obtain ⟨⟨a1, c1⟩, m1, e1⟩ := List.mem_map.mp h1
    obtain ⟨⟨a2, c2⟩, m2, e2⟩ := List.mem_map.mp h2
    have e1 : a1 = a := e1
    have e2 : a2 = a := e2
    subst e1
    subst e2
    exact (rl _ _ m2).2 (ow _ _ m1).1
/-- a promise with effects from its body -/
theorem fnOk_mkM {k : Nat} {x qual : Str} {st : Stmt} {f : Addr} {fd : FuncData} {N ps : List Str} {R : RelM G} (F : Fun G.K x qual st f fd)
    (S : FnScope N ps (defScope st)) (hR : ∀ pvs own Pw, R pvs own Pw → pvs.length = ps.length)
    (body : ∀ (pvs : List (PV G)) (own : Own G) (Pw : PV G → Rho G → Prop), R pvs own Pw → ∀ (f : Addr) (cd : Value) (A : Around) (outer : List Env) (s : Shared) (H : Hp) (E : XK) (hr : Room k (A.deeper (envOfC qual (defScope st) s.heap.objs.size f cd))),
      StD (bodyL G k N qual st f cd A outer s H E S.nd hr) ⟨startS N pvs, own⟩ (defBody st) { nx := fun ρ' => Pw (dat .none) ρ', rt := fun p ρ' => Pw p ρ' }) : FnOk G.P G.w G.K G.mg G.base CX0 (k + 1) f fd ps (spM R) := by
  refine F.ok S (fun vs H Q E ⟨_, B, pvs, own, Pw, _, hr, hv, _⟩ => by rw [pvs_len hv]; exact hR _ _ _ hr) fun cdv A outer s H vs Q E hr h => ?_
  obtain ⟨ht, B, pvs, own, Pw, hB, hrel, hv, hown, hnd, kk⟩ := h
  have lp : ps.length ≤ N.length := by have q := congrArg List.length S.pre; rw [List.length_take] at q; omega
  refine ⟨_, WSs.pss _ _, body pvs own Pw hrel f cdv A outer s H E hr (less own H) B B (L2.start N vs) H _ ⟨Ext.refl _, hB, less_ext, fun a _ h => h, ht, fun i p e => start_get hv e, (fun a c m => ⟨less_in (List.mem_map.mpr ⟨(a, c), m, rfl⟩), hown a c m⟩), hnd, ?_⟩ ⟨fun ρ h B' σ' H' E' => ?_, fun p ρ h v B' σ' H' E' y => ?_, fun _ h => h.elim, fun _ h => h.elim⟩⟩
  · show (startS N pvs).length = (L2.start N vs).length
    rw [startS_len N pvs (by rw [hR _ _ _ hrel]; exact lp)]
    unfold L2.start
    rw [List.length_append, List.length_map, List.length_replicate, pvs_len hv, hR _ _ _ hrel]
    omega
  · exact kk _ _ h .non B' H' E'.ah E'.b0 E'.bh E'.tabs E'.av E'.ow E'.nd (fun i p h => let ⟨v, _, h2⟩ := E'.sl i p h; ⟨v, h2⟩) .non
  · exact kk _ _ h v B' H' E'.ah E'.b0 E'.bh E'.tabs E'.av E'.ow E'.nd (fun i p h => let ⟨v, _, h2⟩ := E'.sl i p h; ⟨v, h2⟩) y
/-- o.m() with effects -/
theorem em_meth0 {j : Nat} {C : Addr} {m : Str} {pn : List Str} {R : RelM G} {fs : List (Str × PV G)} {pl : Sem Bool} {own rest : Own G} {Pw : PV G → Rho G → Prop} (c : L2.Cls G.K C) (F : MtM G j C m pn R) (hj : j ≤ L.k) (ho : EvD L ρ o (insP C fs)) (hn : fs.lookup m = none) (hp : ρ.ow.Perm (own ++ rest)) (hR : R [insP C fs] own Pw)
    (ht : eval (.Call (.Attribute o m apos) [] [] pos) L.X.env = (do
      let ov ← eval o L.X.env
      standAt apos.atName
      let (f, first) ← holding [ov] (getMethod ov m pl)
      callWith pos f first (backTo pos (starEach [] L.X.env)) (backToKw pos (keywordEach [] L.X.env))) := by rfl) : EvM L ρ (.Call (.Attribute o m apos) [] [] pos) fun p ρ' => ∃ ρc, Pw p ρc ∧ ρ' = ⟨ρ.sl, ρc.ow ++ rest⟩ := by
  obtain ⟨f, fd, h1, h2, h3⟩ := F.ex
  refine .mk fun A B0 B σ H Q E k => WE.of (pe_meth0 (pl := pl) (WE.pe _ _) (by rw [L.hK]; exact c) (by rw [L.hK]; exact h1) (L.fnOk h3) (L.room.mono hj) (by rw [L.hK]; exact h2) .nil pass0 ht) (ho.run E fun v B1 H1 x1 E1 y1 => ?_)
  obtain ⟨a, dx, vs, e1, e2, e3⟩ := y1
  refine ⟨a, dx, vs, e1, E1.bh.keep a _ e2 (fun ps => by simp), fld_none e3 hn, E1.tabs, B1, [insP C fs], own, Pw, E1.bh, hR, .cons ⟨a, dx, vs, e1, e2, e3⟩ .nil, (fun a c m => (E1.ow a c (hp.mem_iff.mpr (List.mem_append_left _ m))).2), ?_, fun r ρc hw v B' H' w1 w2 w3 t av ow nd sls y => ?_⟩
  · have nd2 : ((own ++ rest).map (·.1)).Nodup := ((hp.map (·.1)).nodup_iff).mp E1.nd
    rw [List.map_append] at nd2
    exact (List.nodup_append.mp nd2).1
  · exact k r ⟨ρ.sl, ρc.ow ++ rest⟩ ⟨ρc, hw, rfl⟩ v B' H' (x1.trans w2) (E1.backM hp w1 w2 w3 t av ow nd) y
end
end MR
/-! L15: o.f = value on an owned instance; C(..). -/
namespace MR
open PySem PySem.Spec PyProof.Rows L2
section
variable {G : GC} {L : LC G} {ρ : Rho G} {value o : Expr} {es : List Expr} {p q z : PV G} {pos p1 apos : Pos} {Po : Post G} {f : Str} {C ad : Addr}
theorem putF_new {f : Str} {v : V} : ∀ {vs : List (Str × V)}, vs.lookup f = none → putF f v vs = vs ++ [(f, v)]
  | [], _ => rfl
  | (y, x) :: vs, h => by
    rw [List.lookup_cons] at h
    cases hb : f == y with
    | true => rw [hb] at h; cases h
    | false =>
      rw [hb] at h
      have n : y ≠ f := fun z => by simp [z] at hb
      show (if y = f then (y, v) :: vs else (y, x) :: putF f v vs) = _
      rw [if_neg n, putF_new h]
      rfl
theorem paired_snoc {α β : Type} {F : α → β → Prop} {a : α} {b : β} (h : F a b) : ∀ {l : List α} {m : List β}, Paired F l m → Paired F (l ++ [a]) (m ++ [b])
  | _, _, .nil => .cons h .nil
  | _, _, .cons x t => .cons x (paired_snoc h t)
theorem s1_fld (n : Nat) {fs : Rho G → List (Str × PV G)} {Pa : PV G → Rho G → Prop} (c : L2.Cls G.K C) (na : NoAttr G.K C f) (hv : EvM L ρ value Pa)
    (k : ∀ p ρ1, Pa p ρ1 → EvD L ρ1 o (refP ad) ∧ ρ1.ow[n]? = some (ad, .ins C (fs ρ1)) ∧ (fs ρ1).lookup f = none ∧ (fs ρ1).length < 1000 ∧ Po.nx ⟨ρ1.sl, ρ1.ow.set n (ad, .ins C (fs ρ1 ++ [(f, p)]))⟩)
    (hs : swapsWith value (some (.Attribute o f p1)) pos.line L.X.env = pure false := by rfl) : S1D L ρ (.Assign [.Attribute o f p1] value pos) Po := .mk fun A B0 B σ H D E S => by
  refine WSt.of (ps_fld (WE.pe _ _) (WE.pe _ _) hs) (hv A B0 B σ H _ E fun p ρ1 w v B1 H1 x1 E1 y1 => ?_)
  obtain ⟨ho, hn, hl, hlen, hx⟩ := k p ρ1 w
  refine ho.run E1 fun u B2 H2 x2 E2 y2 => ?_
  obtain rfl : u = .ref ad := y2
  obtain ⟨_, _, o1, e1, hc⟩ := E2.ow _ _ (List.mem_of_getElem? hn)
  obtain ⟨dx, vs, rfl, pr⟩ := hc
  have lv : vs.lookup f = none := fld_none (B := B2) pr hl
  refine ⟨ad, C, dx, vs, rfl, e1, by rw [L.hK]; exact c, by rw [L.hK]; exact na, by rw [Paired.length pr]; exact hlen, ?_⟩
  rw [putF_new lv]
  have hc2 : ContO G B2 ad (.ins C (fs ρ1 ++ [(f, p)])) (.ins C dx (vs ++ [(f, v)])) := ⟨dx, _, rfl, paired_snoc (F := FldR B2) ⟨rfl, p.mono x2 y1⟩ pr⟩
  exact S.nx _ hx B2 σ _ (E2.chgL hn e1 (by rintro ⟨φ, h⟩; cases h) hc2)
end
end MR
/-! L16: C(..), a new instance. -/
namespace MR
open PySem PySem.Spec PyProof.Rows L2
section
variable {G : GC} {L : LC G} {ρ : Rho G} {e : Expr} {es : List Expr} {pos p1 : Pos}
structure MkM (G : GC) (k : Nat) (x : Str) (C : Addr) (ps : List Str) (R : RelM G) : Prop where
  ex : ∃ f fd, Mk G.K C f ∧ Binds G.K fd ps [] ∧ FnOk G.P G.w G.K G.mg G.base CX0 k f fd ps (spM R)
  mg : G.mg x = some (.ref C)
theorem em_make {j : Nat} {x : Str} {C : Addr} {pn : List Str} {R : RelM G} {ps : List (PV G)} {Pw : Addr → PV G → Rho G → Prop} (F : MkM G j x C pn R) (hj : j + 1 ≤ L.k) (ha : EvA L ρ (e :: es) ps) (hR : ∀ a, R (refP a :: ps) [(a, .ins C [])] (Pw a)) (hPw : ∀ a r ρc, Pw a r ρc → r = dat .none ∧ ∃ P : PV G, ρc.sl[0]? = some (some P) ∧ ∀ B v, P.p B v → v = .ref a)
    (hg : Gl L.X x := by rfl) (hdb : (x == ("__debug__" : Str)) = false := by decide) (he : starEach (e :: es) L.X.env = (false, eval e L.X.env) :: starEach es L.X.env := by rfl) (hpl : (backTo pos (starEach es L.X.env)).any (·.1) = false := by rfl) :
    EvM L ρ (.Call (.Name x p1) (e :: es) [] pos) fun p ρ' => ∃ a ρc, Pw a (dat .none) ρc ∧ ρc.sl[0]? = some (some p) ∧ ρ' = ⟨ρ.sl, ρc.ow ++ ρ.ow⟩ := by
  obtain ⟨f, fd, h1, h2, h3⟩ := F.ex
  refine .mk fun A B0 B σ H Q E k => WE.of (pe_make (by rw [L.hK]; exact h1) (L.fnOk h3) (L.room.mono hj) hg (by rw [L.hm]; exact F.mg) (by rw [L.hK]; exact h2) .nil pass0 (WA.pa _ _) hdb he hpl) (ha.run E fun vs B1 H1 x1 E1 y1 => ?_)
  intro a dx ha1 hdx hne
  have Ea : EnvB G A B0 B1 ρ σ (upd H1 dx (.own a)) := E1.grow (Ext.refl _) (Ext.new hdx) (E1.bh.trans (Ext.new hdx)) (fun a _ h => h) (E1.tabs.ext fun b u e => by rw [upd_ne (ne_of_none e hdx)]; exact e)
  have hax : (upd H1 dx (.own a)) a = none := by rw [upd_ne (Ne.symm hne)]; exact ha1
  have Eb := Ea.newO (c := .ins C []) (o := .ins C dx []) hax ⟨dx, [], rfl, .nil⟩
  refine ⟨Eb.tabs, B1, refP a :: ps, [(a, .ins C [])], Pw a, Eb.bh, hR a, .cons rfl (by rw [List.append_nil]; exact y1), (fun a' c m => (Eb.ow a' c (by rw [List.mem_singleton.mp m]; exact List.mem_cons_self)).2), by simp, fun r ρc hw v B' H' w1 w2 w3 t av ow nd sls y => ?_⟩
  obtain ⟨hr, P, hs0, hpin⟩ := hPw a r ρc hw
  obtain ⟨v0, hv0⟩ := sls 0 P hs0
  have ev := hpin B' v0 hv0
  subst ev
  subst hr
  refine ⟨dp_non y, ?_⟩
  have Ec := Eb.backM (own := [(a, .ins C [])]) (rest := ρ.ow) (List.Perm.refl _) w1 w2 w3 t av ow nd
  exact k P ⟨ρ.sl, ρc.ow ++ ρ.ow⟩ ⟨a, ρc, hw, hs0, rfl⟩ (.ref a) B' H' (x1.trans w2) Ec hv0
end
end MR
/-! L17: what is new is frozen at once. -/
namespace MR
open PySem PySem.Spec PyProof.Rows L2
theorem em_frz {G : GC} {L : LC G} {ρ : Rho G} {e : Expr} {z : PV G} {Pa : PV G → Rho G → Prop} (h : EvM L ρ e Pa) (k : ∀ p ρ', Pa p ρ' → ρ'.sl = ρ.sl ∧ ∃ fz, ρ'.ow = fz ++ ρ.ow ∧ Imp fz p z) : EvD L ρ e z := EvD.of fun A B0 B σ H Q E kk => h A B0 B σ H Q E fun p ρ' w v B' H' x E' y => by
  obtain ⟨e1, fz, e2, im⟩ := k p ρ' w
  obtain ⟨Bv, x2, _, E2, cs⟩ := freeze E' (Part.of (fz := fz) (ow' := ρ.ow) (by rw [e2])) View.refl
  rw [e1] at E2
  exact kk v Bv H' (x.trans x2) E2 (im Bv cs v (p.mono x2 y))
end MR
/-! L18: calls with a keyword, calls with effects, xs.index(x), what is put to a list with effects. -/
namespace MR
open PySem PySem.Spec PyProof.Rows L2
section
variable {G : GC} {L : LC G} {ρ : Rho G} {e o kv : Expr} {es : List Expr} {p q z : PV G} {pos p1 p2 kpos : Pos} {d : PyData} {ds : List PyData} {st : Stmt} {Po : Post G} {ad : Addr}
/-- a def that is called with keywords -/
structure FnK (G : GC) (k : Nat) (x : Str) (ps : List Str) (n : Nat) (ks : List Str) (R : Rel G) : Prop where
  ex : ∃ f fd g, G.mg x = some (.ref f) ∧ PySem.W.keepIn G.K (.ref f) = true ∧ KBn G.K fd ps n ks g (fun vs zs => vs ++ zs) ∧ FnOk G.P G.w G.K G.mg G.base CX0 k f fd ps (spR R)
theorem pvs_app {B : Hp} : ∀ {vs ws : List V} {ps qs : List (PV G)}, PVs B vs ps → PVs B ws qs → PVs B (vs ++ ws) (ps ++ qs)
  | _, _, _, _, .nil, h => h
  | _, _, _, _, .cons a t, h => .cons a (pvs_app t h)
theorem e_callk {j n : Nat} {x nm : Str} {pf : Pos} {pn : List Str} {R : Rel G} {ps : List (PV G)} (F : FnK G j x pn n [nm] R) (hj : j ≤ L.k) (ha : EvA L ρ (e :: es) ps) (hv : EvD L ρ kv q) (hR : R (ps ++ [q]) z) (hlen : ps.length = n := by rfl) (hg : Gl L.X x := by rfl)
    (hall : (backToKw pos (keywordEach [⟨some nm, kv, kpos⟩] L.X.env)).all (·.1.isSome) = true := by rfl) (hks : (backToKw pos (keywordEach [⟨some nm, kv, kpos⟩] L.X.env)).filterMap (·.1) = [nm] := by rfl)
    (hdb : (x == ("__debug__" : Str)) = false := by decide) (he : starEach (e :: es) L.X.env = (false, eval e L.X.env) :: starEach es L.X.env := by rfl)
    (hpl : ((backTo pos (starEach (e :: es) L.X.env)).any (·.1) || (backToKw pos (keywordEach [⟨some nm, kv, kpos⟩] L.X.env)).any (·.1.isNone)) = false := by rfl) : EvD L ρ (.Call (.Name x pf) (e :: es) [⟨some nm, kv, kpos⟩] pos) z := by
  obtain ⟨f, fd, g, h1, h2, h3, h4⟩ := F.ex
  refine EvD.of fun A B0 B σ H Q E k => WE.of (pe_callN (CX := CX0) (L.fnOk h4) (L.room.mono hj) hg (by rw [L.hm]; exact h1) (by rw [L.hK]; exact h2) (by rw [L.hK]; exact h3) pass0 (WA.pa _ _) (pk_cons (WE.pe _ _) pk_nil) hall hks hdb he hpl) (ha.run E fun vs B1 H1 x1 E1 y1 => hv.run E1 fun v B2 H2 x2 E2 y2 => ⟨by rw [pvs_len y1, hlen], rfl, ?_⟩)
  refine ⟨E2.tabs, B2, ps ++ [q], z, E2.bh, hR, pvs_app (y1.mono x2) (.cons y2 .nil), fun v B' H' w1 w2 w3 t av y => ?_⟩
  exact k v B' H' ((x1.trans x2).trans w2) (E2.grow w2 w1 w3 av t) y
/-- f(e, ..) with effects -/
theorem em_call {j : Nat} {x : Str} {pf : Pos} {pn : List Str} {R : RelM G} {ps : List (PV G)} {own rest : Own G} {Pw : PV G → Rho G → Prop} (F : FnM G j x pn R) (hj : j ≤ L.k) (ha : EvA L ρ (e :: es) ps) (hp : ρ.ow.Perm (own ++ rest)) (hR : R ps own Pw) (hg : Gl L.X x := by rfl) (hdb : (x == ("__debug__" : Str)) = false := by decide)
    (he : starEach (e :: es) L.X.env = (false, eval e L.X.env) :: starEach es L.X.env := by rfl) (hpl : (backTo pos (starEach es L.X.env)).any (·.1) = false := by rfl) : EvM L ρ (.Call (.Name x pf) (e :: es) [] pos) fun p ρ' => ∃ ρc, Pw p ρc ∧ ρ' = ⟨ρ.sl, ρc.ow ++ rest⟩ := by
  obtain ⟨f, fd, h1, h2, h3, h4⟩ := F.ex
  refine .mk fun A B0 B σ H Q E k => WE.of (pe_call (L.fnOk h4) (L.room.mono hj) hg (by rw [L.hm]; exact h1) (by rw [L.hK]; exact h2) (by rw [L.hK]; exact h3) .nil pass0 (WA.pa _ _) hdb he hpl) (ha.run E fun vs B1 H1 x1 E1 y1 => ?_)
  refine ⟨E1.tabs, B1, ps, own, Pw, E1.bh, hR, by rw [List.append_nil]; exact y1, (fun a c m => (E1.ow a c (hp.mem_iff.mpr (List.mem_append_left _ m))).2), ?_, fun r ρc hw v B' H' w1 w2 w3 t av ow nd sls y => ?_⟩
  · have nd2 : ((own ++ rest).map (·.1)).Nodup := ((hp.map (·.1)).nodup_iff).mp E1.nd
    rw [List.map_append] at nd2
    exact (List.nodup_append.mp nd2).1
  · exact k r ⟨ρ.sl, ρc.ow ++ rest⟩ ⟨ρc, hw, rfl⟩ v B' H' (x1.trans w2) (E1.backM hp w1 w2 w3 t av ow nd) y
theorem EnvB.perm {A B0 B H : Hp} {σ : L2.St} (E : EnvB G A B0 B ρ σ H) {ow' : Own G} (hp : ρ.ow.Perm ow') : EnvB G A B0 B ⟨ρ.sl, ow'⟩ σ H :=
  ⟨E.b0, E.bh, E.ah, E.av, E.tabs, E.sl, fun a c m => E.ow a c (hp.mem_iff.mpr m), ((hp.map (·.1)).nodup_iff).mp E.nd, E.ln⟩
/-- the same; what it gives comes last -/
theorem em_callR {j : Nat} {x : Str} {pf : Pos} {pn : List Str} {R : RelM G} {ps : List (PV G)} {own rest : Own G} {Pw : PV G → Rho G → Prop} (F : FnM G j x pn R) (hj : j ≤ L.k) (ha : EvA L ρ (e :: es) ps) (hp : ρ.ow.Perm (own ++ rest)) (hR : R ps own Pw) (hg : Gl L.X x := by rfl) (hdb : (x == ("__debug__" : Str)) = false := by decide)
    (he : starEach (e :: es) L.X.env = (false, eval e L.X.env) :: starEach es L.X.env := by rfl) (hpl : (backTo pos (starEach es L.X.env)).any (·.1) = false := by rfl) : EvM L ρ (.Call (.Name x pf) (e :: es) [] pos) fun p ρ' => ∃ ρc, Pw p ρc ∧ ρ' = ⟨ρ.sl, rest ++ ρc.ow⟩ :=
  .mk fun A B0 B σ H Q E k => em_call F hj ha hp hR hg hdb he hpl A B0 B σ H Q E fun p ρ' ⟨ρc, w, e⟩ v B' H' x E' y => by
    subst e
    exact k p _ ⟨ρc, w, rfl⟩ v B' H' x (E'.perm List.perm_append_comm) y
theorem a_m1 {Pa : PV G → Rho G → Prop} (he : EvM L ρ e Pa) (hs : starEach [e] L.X.env = (false, eval e L.X.env) :: starEach [] L.X.env := by rfl) : EvAM L ρ [e] fun ps ρ' => ∃ p, ps = [p] ∧ Pa p ρ' :=
  am_cons (Pr := fun p ps ρ2 => ps = [] ∧ Pa p ρ2) he (fun p ρ1 w => am_nil ⟨rfl, w⟩) (fun p ρ1 ps ρ2 _ w => ⟨p, by rw [w.1], w.2⟩) hs
/-- xs.append(e), e with effects -/
theorem s1_appendM (n0 n : Nat) {Pa : PV G → Rho G → Prop} (ho : EvD L ρ o (refP ad)) (hn0 : ρ.ow[n0]? = some (ad, .lst ds)) (he : EvM L ρ e Pa) (hl : ds.length < 100000) (hx : ∀ p ρ1, Pa p ρ1 → ∃ d, p = dat d ∧ ρ1.ow[n]? = some (ad, .lst ds) ∧ Po.nx ⟨ρ1.sl, ρ1.ow.set n (ad, .lst (ds ++ [d]))⟩)
    (hsw : swapsWith (.Call (.Attribute o "append" p1) [e] [] p2) none pos.line L.X.env = pure false := by rfl)
    (hbase : attributeBase o "append" L.X.env (eval o L.X.env) = eval o L.X.env := by rfl) (hfew : ((backTo p2 (starEach [e] L.X.env)).all (fun x => !x.1) && (backToKw p2 (keywordEach [] L.X.env)).all (fun x => x.1.isSome)
      && decide (([e] : List Expr).length + ([] : List Keyword).length + (if ([] : List Keyword).isEmpty then 0 else 1) < 30)) = true := by rfl)
    (hline : (p1.endLine == p2.line) = true := by rfl) (hs : starEach [e] L.X.env = (false, eval e L.X.env) :: starEach [] L.X.env := by rfl) :
    S1D L ρ (.Expr (.Call (.Attribute o "append" p1) [e] [] p2) pos) Po := .mk fun A B0 B σ H D E S => by
  refine WSt.of (ps_expr (pe_bm PySem.F.plainAttrs_list PySem.F.slot_list_append PySem.F.type_list_append mt_append (WE.pe _ _) (WA.pa _ _) hbase hfew hline hs rfl) hsw) ?_
  refine ho.run E fun v B1 H1 x1 E1 y1 => ?_
  obtain rfl : v = .ref ad := y1
  obtain ⟨_, _, o1, e1, vs, rfl, q1⟩ := E1.ow _ _ (List.mem_of_getElem? hn0)
  refine ⟨.inl ⟨rfl, vs, SqL.of e1⟩, a_m1 he hs A B0 B1 σ H1 _ E1 fun ps ρ1 w vs2 B2 H2 x2 E2 y2 => ?_⟩
  obtain ⟨p, rfl, w⟩ := w
  obtain ⟨d, rfl, hn, hx⟩ := hx p ρ1 w
  obtain ⟨w, rfl, hw⟩ := pvs1 y2
  obtain ⟨_, _, o2, e2, vs', rfl, q2⟩ := E2.ow _ _ (List.mem_of_getElem? hn)
  refine ⟨ad, vs', w, rfl, rfl, e2, by rw [dpa_len q2, sizeLine_eq]; omega, ?_⟩
  exact S.nx _ hx _ _ _ (E2.chgL hn e2 (c' := .lst (ds ++ [d])) (fun ⟨_, h⟩ => nomatch h) ⟨vs' ++ [w], rfl, dpa_snoc q2 hw⟩)
/-- xs.index(x) -/
theorem e_index {j : Nat} {zd : PyData} (ho : EvD L ρ o (dat (.list ds))) (he : EvD L ρ e (dat d)) (s1 : SeqAt.shaped (.list ds) = true) (s2 : SeqAt.shaped d = true) (hz : ds[j]? = some zd) (hzj : PyData.eqv zd d = true) (hno : ∀ (m : Nat) (z' : PyData), m < j → ds[m]? = some z' → PyData.eqv z' d = false)
    (hbase : attributeBase o "index" L.X.env (eval o L.X.env) = eval o L.X.env := by rfl) (hfew : ((backTo p2 (starEach [e] L.X.env)).all (fun x => !x.1) && (backToKw p2 (keywordEach [] L.X.env)).all (fun x => x.1.isSome)
      && decide (([e] : List Expr).length + ([] : List Keyword).length + (if ([] : List Keyword).isEmpty then 0 else 1) < 30)) = true := by rfl)
    (hline : (p1.endLine == p2.line) = true := by rfl) (hs : starEach [e] L.X.env = (false, eval e L.X.env) :: starEach [] L.X.env := by rfl) :
    EvD L ρ (.Call (.Attribute o "index" p1) [e] [] p2) (dat (.int (j : Nat))) := EvD.of fun A B0 B σ H Q E k => by
  refine WE.of (pe_bm PySem.F.plainAttrs_list PySem.F.slot_list_index PySem.F.type_list_index (mt_indexD (by have := L.room.un; omega)) (WE.pe _ _) (WA.pa _ _) hbase hfew hline hs rfl) ?_
  refine ho.run E fun v B1 H1 x1 E1 y1 => ?_
  obtain ⟨a, xs, rfl, h1, h2⟩ := dp_lst y1
  refine ⟨.inl ⟨rfl, xs, by rw [L.hK]; exact E1.bh.sqL h1⟩, (a_cons he a_nil hs).run E1 fun vs2 B2 H2 x2 E2 y2 => ?_⟩
  obtain ⟨w, rfl, hw⟩ := pvs1 y2
  refine ⟨a, w, d, ds, j, zd, rfl, rfl, L.dp (dp_mono (x2.trans E2.bh) _ _ y1), L.dp (dp_mono E2.bh _ _ hw), s1, s2, hz, hzj, hno, ?_⟩
  exact k _ B2 H2 (x1.trans x2) E2 (.int _)
/-- list(d) -/
theorem e_listD (B : Bs G) {t : Bool} {kvs : List (PyData × PyData)} (ha : EvD L ρ e (dctP t kvs)) (hg : Gl L.X "list" := by rfl) (h1 : starEach [e] L.X.env = (false, eval e L.X.env) :: starEach [] L.X.env := by rfl) : EvD L ρ (.Call (.Name "list" p1) [e] [] pos) (dat (.list (kvs.map (·.1)))) := e_callTy1 k_listD B.list bt_list ha hg h1
end
/-- a def of the text that is called with keywords -/
structure FunTK (G : GC) (st : Stmt) (x : Str) (ps : List Str) (n : Nat) (ks : List Str) : Prop where
  ex : ∃ f fd g, G.mg x = some (.ref f) ∧ Fun G.K x x st f fd ∧ KBn G.K fd ps n ks g (fun vs zs => vs ++ zs)
section
variable {G : GC}
theorem mk_defK {k n : Nat} {st : Stmt} {x : Str} {N ps ks : List Str} {R : Rel G} (F : FunTK G st x ps n ks) (S : FnScope N ps (defScope st)) (hR : ∀ pvs r, R pvs r → pvs.length = ps.length)
    (body : ∀ (pvs : List (PV G)) (r : PV G), R pvs r → ∀ (f : Addr) (cd : Value) (A : Around) (outer : List Env) (s : Shared) (H : Hp) (E : XK) (hr : Room k (A.deeper (envOfC x (defScope st) s.heap.objs.size f cd))),
      StD (bodyL G k N x st f cd A outer s H E S.nd hr) ⟨startS N pvs, []⟩ (defBody st) { nx := fun _ => ∀ B, r.p B .non, rt := fun p _ => p = r }) : FnK G (k + 1) x ps n ks R := by
  obtain ⟨f, fd, g, h1, h2, h3⟩ := F.ex
  exact ⟨f, fd, g, h1, h2.kp, h3, fnOk_mk h2 S hR body⟩
end
end MR
/-! L20: expressions and statements with effects on what is owned. -/
namespace MR
open PySem PySem.Spec PyProof.Rows L2
section
variable {G : GC} {L : LC G} {ρ ρ1 : Rho G} {e a b c o k : Expr} {es : List Expr} {p q z : PV G} {pos p1 p2 kpos : Pos} {d : PyData} {ds es' : List PyData} {st : Stmt} {Po : Post G} {ad : Addr} {Pa Pb Pc : PV G → Rho G → Prop} {tg iter elt : Expr}
theorem dpa_set {K : PySem.W.Frag} {H : Hp} {d : PyData} {w : V} : ∀ {vs : List V} {ds : List PyData}, DpAll K H vs ds → ∀ j, Dp K H w d → DpAll K H (vs.set j w) (ds.set j d)
  | _, _, .nil, j, _ => .nil
  | _, _, .cons h t, 0, hw => .cons hw t
  | _, _, .cons h t, j + 1, hw => .cons h (dpa_set t j hw)
theorem v_ixL {i : Int} (h : atI ds i = some d) : Val2 G (rIxL L.X.K) (dat (.list ds)) (dat (.int i)) (dat d) := fun A B0 B ρ σ H x y Q E hx hy k => by
  obtain ⟨p1, xs, rfl, hs, ha⟩ := dp_lst hx
  have e2 := dp_int hy
  subst e2
  obtain ⟨j, h1, h2, h3, h4, h5⟩ := atI_get h
  obtain ⟨v, e1, e2⟩ := dpa_get ha h2
  have l1 := dpa_len ha
  rw [L.hK]
  refine ⟨p1, xs, i, v, rfl, rfl, E.bh.sqL hs, ?_, here E k e2⟩
  unfold atI at h ⊢
  rw [l1]
  cases q : ixN ds.length i with
  | none => rw [q] at h; cases h
  | some m =>
    obtain ⟨z1, _⟩ := ixN_seq q
    rw [h1] at z1
    cases z1
    exact e1
theorem v_ixT {i : Int} (h : atI ds i = some d) : Val2 G (rIxT L.X.K) (dat (.tuple ds)) (dat (.int i)) (dat d) := fun A B0 B ρ σ H x y Q E hx hy k => by
  obtain ⟨p1, xs, rfl, hs, ha⟩ := dp_tup hx
  have e2 := dp_int hy
  subst e2
  obtain ⟨j, h1, h2, h3, h4, h5⟩ := atI_get h
  obtain ⟨v, e1, e2⟩ := dpa_get ha h2
  have l1 := dpa_len ha
  rw [L.hK]
  refine ⟨p1, xs, i, v, rfl, rfl, E.bh.sqT hs, ?_, here E k e2⟩
  unfold atI at h ⊢
  rw [l1]
  cases q : ixN ds.length i with
  | none => rw [q] at h; cases h
  | some m =>
    obtain ⟨z1, _⟩ := ixN_seq q
    rw [h1] at z1
    cases z1
    exact e1
/-- xs[e], e with effects -/
theorem em_ixL (ha : EvD L ρ a (dat (.list ds))) (hb : EvM L ρ b Pb) (hr : ∀ q ρ2, Pb q ρ2 → ∃ i d, q = dat (.int i) ∧ atI ds i = some d ∧ Pc (dat d) ρ2) (hs : PlainIx b := by exact fun _ _ => rfl) : EvM L ρ (.Subscript a b pos) Pc :=
  em_two (t := fun _ _ _ => True) (Pa := fun p ρ1 => p = dat (.list ds) ∧ ρ1 = ρ) (Pb := fun _ => Pb) (pe_ix ix_list (WE.pe _ _) (WE.pe _ _) hs) ha (fun p ρ1 ⟨h1, h2⟩ => by subst h1 h2; exact hb) (fun p ρ1 q ρ2 ⟨h1, _⟩ w => by
    subst h1
    obtain ⟨i, d, rfl, h, w⟩ := hr q ρ2 w
    exact ⟨dat d, v_ixL h, w⟩)
theorem em_ixT (ha : EvD L ρ a (dat (.tuple ds))) (hb : EvM L ρ b Pb) (hr : ∀ q ρ2, Pb q ρ2 → ∃ i d, q = dat (.int i) ∧ atI ds i = some d ∧ Pc (dat d) ρ2) (hs : PlainIx b := by exact fun _ _ => rfl) : EvM L ρ (.Subscript a b pos) Pc :=
  em_two (t := fun _ _ _ => True) (Pa := fun p ρ1 => p = dat (.tuple ds) ∧ ρ1 = ρ) (Pb := fun _ => Pb) (pe_ix ix_tup (WE.pe _ _) (WE.pe _ _) hs) ha (fun p ρ1 ⟨h1, h2⟩ => by subst h1 h2; exact hb) (fun p ρ1 q ρ2 ⟨h1, _⟩ w => by
    subst h1
    obtain ⟨i, d, rfl, h, w⟩ := hr q ρ2 w
    exact ⟨dat d, v_ixT h, w⟩)
/-- i + e -/
theorem em_add {i : Int} (ha : EvD L ρ a (dat (.int i))) (hb : EvM L ρ b Pb) (hr : ∀ q ρ2, Pb q ρ2 → ∃ j, q = dat (.int j) ∧ Pc (dat (.int (i + j))) ρ2) : EvM L ρ (.BinOp a .Add b pos) Pc :=
  em_two (t := fun _ _ _ => True) (Pa := fun p ρ1 => p = dat (.int i) ∧ ρ1 = ρ) (Pb := fun _ => Pb) (pe_op op_add (WE.pe _ _) (WE.pe _ _)) ha (fun p ρ1 ⟨h1, h2⟩ => by subst h1 h2; exact hb) (fun p ρ1 q ρ2 ⟨h1, _⟩ w => by
    subst h1
    obtain ⟨j, rfl, w2⟩ := hr q ρ2 w
    exact ⟨_, v_I0 fun _ => .int _, w2⟩)
theorem v_cat (hl : ds.length + es'.length ≤ 100000) : Val2 G (rCatA L.X.K) (dat (.tuple ds)) (dat (.tuple es')) (dat (.tuple (ds ++ es'))) := fun A B0 B ρ σ H x y Q E hx hy k => by
  obtain ⟨p1, xs, rfl, hs, ha⟩ := dp_tup hx
  obtain ⟨p2, ys, rfl, ht, hb⟩ := dp_tup hy
  have l1 := dpa_len ha
  have l2 := dpa_len hb
  rw [L.hK]
  refine ⟨p1, p2, xs, ys, rfl, rfl, E.bh.sqT hs, E.bh.sqT ht, by rw [sizeLine_eq]; omega, fun e0 => ?_, fun _ e0 => ?_, fun _ _ => newT E k (dpa_app ha hb)⟩
  · subst e0
    cases ha
    exact here (v := .ref p2) E k hy
  · subst e0
    cases hb
    rw [List.append_nil] at k
    exact here (v := .ref p1) E k hx
/-- a tuple, then one with effects -/
theorem em_cat (ha : EvD L ρ a (dat (.tuple ds))) (hb : EvM L ρ b Pb) (hr : ∀ q ρ2, Pb q ρ2 → ∃ es', q = dat (.tuple es') ∧ ds.length + es'.length ≤ 100000 ∧ Pc (dat (.tuple (ds ++ es'))) ρ2) : EvM L ρ (.BinOp a .Add b pos) Pc :=
  em_two (t := fun _ _ _ => True) (Pa := fun p ρ1 => p = dat (.tuple ds) ∧ ρ1 = ρ) (Pb := fun _ => Pb) (pe_op op_catA (WE.pe _ _) (WE.pe _ _)) ha (fun p ρ1 ⟨h1, h2⟩ => by subst h1 h2; exact hb) (fun p ρ1 q ρ2 ⟨h1, _⟩ w => by
    subst h1
    obtain ⟨es', rfl, h, w⟩ := hr q ρ2 w
    exact ⟨_, v_cat h, w⟩)
/-- e == j, e with effects -/
theorem tm_eqI {j : Int} {kk : Nat} {Pt : Bool → Rho G → Prop} (ha : EvM L ρ a Pa) (hr : ∀ q ρ2, Pa q ρ2 → ∃ i, q = dat (.int i) ∧ Pt (decide (i = j)) ρ2) (hm : behindInMarks .Eq (.Constant (.int j) kk p1) = false := by first | exact nomark _ | rfl | with_unfolding_all rfl) : EvTM L ρ (.Compare a [.Eq] [.Constant (.int j) kk p1] pos) Pt := .mk fun A B0 B σ H Q E k => by
  refine WT.of (pt_cmpR (op_eqD L.room.units) (WE.pe _ _) (WE.pe _ _) hm) (ha A B0 B σ H _ E fun p ρ1 w v B1 H1 x1 E1 y1 => ?_)
  obtain ⟨i, rfl, w2⟩ := hr p ρ1 w
  refine EvD.run (L := L) (ρ := ρ1) (p := dat (.int j)) e_int E1 fun u B2 H2 x2 E2 y2 => ?_
  rw [L.hK]
  refine ⟨.int i, .int j, dp_mono (x2.trans E2.bh) _ _ y1, dp_mono E2.bh _ _ y2, rfl, rfl, ?_⟩
  rw [eqv_int]
  exact ⟨_, rfl, k _ ρ1 w2 B2 H2 (x1.trans x2) E2⟩
/-- a or b, b with effects -/
theorem tm_or {Pt : Bool → Rho G → Prop} (ha : EvT L ρ a false) (hb : EvTM L ρ b Pt) : EvTM L ρ (.BoolOp .Or [a, b] pos) Pt := .mk fun A B0 B σ H Q E k => by
  refine WT.of (pw_or (WT.pt _ _) (pw_or1 (WT.pt _ _))).pt (ha.run E fun B' H' x E' => iteF ?_)
  exact hb A B0 B' σ H' _ E' fun t ρ1 w B2 H2 x2 E2 => k t ρ1 w B2 H2 (x.trans x2) E2
/-- tuple(e), e with effects -/
theorem em_tuple (B : Bs G) (ha : EvM L ρ a Pa) (hr : ∀ q ρ2, Pa q ρ2 → ∃ ds, q = dat (.list ds) ∧ Pc (dat (.tuple ds)) ρ2) (hg : Gl L.X "tuple" := by rfl) (h1 : starEach [a] L.X.env = (false, eval a L.X.env) :: starEach [] L.X.env := by rfl) (hpl : (backTo pos (starEach [] L.X.env)).any (·.1) = false := by rfl) : EvM L ρ (.Call (.Name "tuple" p1) [a] [] pos) Pc := .mk fun A B0 B' σ H Q E k => by
  refine WE.of (pe_callTy call_tuple_of hg (by rw [L.hm]; exact B.tuple) bt_tuple (WA.pa _ _) (by decide) (by decide) h1 hpl) (a_m1 ha h1 A B0 B' σ H _ E fun ps ρ1 w vs B1 H1 x1 E1 y1 => ?_)
  obtain ⟨p, rfl, w⟩ := w
  obtain ⟨ds, rfl, w2⟩ := hr p ρ1 w
  obtain ⟨v, rfl, h⟩ := pvs1 y1
  obtain ⟨p1, ys, rfl, hs, hd⟩ := dp_lst h
  rw [L.hK]
  exact ⟨p1, ys, rfl, .inl ⟨E1.bh.sqL hs, newT E1 (fun v B2 H2 x2 E2 y2 => k _ ρ1 w2 v B2 H2 (x1.trans x2) E2 y2) hd⟩⟩
/-- xs[i] = e -/
theorem s1_lput (n j : Nat) {i : Int} (he : EvD L ρ e (dat d)) (ho : EvD L ρ o (refP ad)) (hk : EvD L ρ k (dat (.int i))) (hn : ρ.ow[n]? = some (ad, .lst ds)) (hj : ixN ds.length i = some j) (hx : Po.nx ⟨ρ.sl, ρ.ow.set n (ad, .lst (ds.set j d))⟩)
    (ha : ∀ v, assign (.Subscript o k p1) L.X.env v = (do
      let ov ← holding [v] (eval o L.X.env)
      let iv ← holding [v, ov] (eval k L.X.env)
      standAt p1
      holding [v, ov, iv] (setItem ov iv v)
      release [v, ov, iv] []) := by intro _; rfl)
    (hs : swapsWithSole [.Subscript o k p1] e pos.line L.X.env = pure false := by rfl) (hw : swappedStores [.Subscript o k p1] e L.X.env = pure none := by rfl) (h1 : (assignEach [.Subscript o k p1] L.X.env).map (·.2) = [assign (.Subscript o k p1) L.X.env] := by rfl) :
    S1D L ρ (.Assign [.Subscript o k p1] e pos) Po := .mk fun A B0 B σ H D E S => by
  refine WSt.of (ps_asg (WE.pe _ _) (pg_sub (WE.pe _ _) (WE.pe _ _) set_list ha) hs hw h1) (he.run E fun v B1 H1 x1 E1 y1 => ho.run E1 fun u B2 H2 x2 E2 y2 => hk.run E2 fun w B3 H3 x3 E3 y3 => ?_)
  obtain rfl : u = .ref ad := y2
  have e3 := dp_int y3
  subst e3
  obtain ⟨_, _, o1, e1, vs, rfl, q1⟩ := E3.ow _ _ (List.mem_of_getElem? hn)
  refine ⟨ad, vs, i, j, rfl, rfl, e1, by rw [dpa_len q1]; exact hj, ?_⟩
  refine S.nx _ hx _ _ _ (E3.chgL hn e1 (c' := .lst (ds.set j d)) (fun ⟨_, h⟩ => nomatch h) ⟨vs.set j v, rfl, ?_⟩)
  exact dpa_set q1 j (dp_mono (x2.trans x3) _ _ y1)
/-- an iterable with effects -/
def ItM (L : LC G) (ρ : Rho G) (tg iter : Expr) (Pi : List (PV G) → Rho G → Prop) : Prop := ∀ (A B0 B : Hp) (σ : L2.St) (H : Hp) (R : It → Hp → Prop), EnvB G A B0 B ρ σ H →
  (∀ ps ρ', Pi ps ρ' → ∀ J B' H', WalkD G B' J ps → Ext B B' → EnvB G A B0 B' ρ' σ H' → R J H') → WI L.X tg iter σ H R
theorem im_rng {pf : Pos} {Pi : List (PV G) → Rho G → Prop} (hm : G.mg "range" = none) (h : EvM L ρ a Pa) (hr : ∀ q ρ2, Pa q ρ2 → ∃ n : Nat, q = dat (.int (n : Nat)) ∧ n ≤ 100000 ∧ Pi ((rngD n).map dat) ρ2) (hg : Gl L.X "range" := by rfl) (hs : starEach [a] L.X.env = [(false, eval a L.X.env)] := by rfl) (hs2 : starEach [a] L.X.env = (false, eval a L.X.env) :: starEach [] L.X.env := by rfl) :
    ItM L ρ tg (.Call (.Name "range" pf) [a] [] pos) Pi := fun A B0 B σ H R E k => by
  refine WI.of (pi_range1 hg (by rw [L.hm]; exact hm) (WA.pa _ _) hs) (a_m1 h hs2 A B0 B σ H _ E fun ps ρ1 w vs B' H' x E' y => ?_)
  obtain ⟨p, rfl, w⟩ := w
  obtain ⟨n, rfl, hn, w2⟩ := hr p ρ1 w
  obtain ⟨v, rfl, hv⟩ := pvs1 y
  have e1 := dp_int hv
  subst e1
  refine ⟨_, rfl, by omega, by omega, k _ ρ1 w2 _ B' H' ⟨fun i H hi _ => ?_, fun H _ => ?_, fun i p A B0 B2 ρ σ H x H' e w E y => ?_⟩ x E'⟩
  · have : i < n := by simpa [rngD_len] using hi
    show i < ((n : Nat) : Int).toNat
    simpa using this
  · show ((n : Nat) : Int).toNat ≤ _
    simp [rngD_len]
  · obtain ⟨d, e1, rfl⟩ := dats_get e
    obtain ⟨h1, rfl⟩ := rngD_get e1
    obtain ⟨e2, y2⟩ := y
    subst e2 y2
    exact ⟨B2, Ext.refl _, E, by rw [Int.zero_add]; exact .int _⟩
/-- for x in range(e), e with effects -/
theorem s1_forR (j : Nat) {x : Str} {px : Pos} {body : List Stmt} {Pi : List (PV G) → Rho G → Prop} (hi : ItM L ρ (.Name x px) iter Pi) (J : List PyData → Nat → Rho G → Prop) (h0 : ∀ ps ρ1, Pi ps ρ1 → ∃ ds : List PyData, ps = ds.map dat ∧ J ds 0 ρ1)
    (hs : ∀ ds (k : Nat) d ρ1, ds[k]? = some d → J ds k ρ1 → StD L ⟨ρ1.sl.set j (some (dat d)), ρ1.ow⟩ body { nx := J ds (k + 1), ct := J ds (k + 1), bk := Po.nx, rt := Po.rt }) (hd : ∀ ds ρ1, J ds ds.length ρ1 → Po.nx ρ1) (hN : L.X.N[j]? = some x := by rfl) (hx : Loc L.X.env.scope x := by first | exact Or.inl rfl | exact Or.inr rfl)
    (hf : L.X.fn x = true ∨ L.X.env.scope.names.lookup x = some .local := by first | exact .inl rfl | exact .inr rfl) (hp : PassesOwn (model L.X.prog L.X.w) L.X.A L.X.env L.X.xe := by exact PassesOwn.never) (hfs : ∀ x, foldedSetIterable iter L.X.env x = pure x := by intro _; rfl) :
    S1D L ρ (.For (.Name x px) iter body [] pos) Po := .mk fun A B0 B σ H D E S => by
  refine WSt.of (ps_for hp L.calm (WI.pi _ _ _) (WG.pg _ _) (WSs.pss _ _) hfs) (hi A B0 B σ H _ E fun ps ρ1 w J0 B1 H1 W x1 E1 => ?_)
  obtain ⟨ds, rfl, j0⟩ := h0 ps ρ1 w
  refine ⟨fun i m σ' H' => m = (ds.map (dat (G := G))).length - i ∧ i ≤ (ds.map (dat (G := G))).length ∧ ∃ ρ1 B2, J ds i ρ1 ∧ Ext B1 B2 ∧ EnvB G A B0 B2 ρ1 σ' H', ⟨(ds.map (dat (G := G))).length, by simp, Nat.zero_le _, ρ1, B1, j0, Ext.refl _, E1⟩, ?_⟩
  rintro i m σ2 H2 ⟨rfl, hi2, ρ2, B2, j2, x2, E2⟩
  by_cases hlt : i < (ds.map (dat (G := G))).length
  · refine .inr ⟨W.goes i H2 hlt (x2.trans E2.bh), fun σ' H' => ∃ ρ3 B3, J ds (i + 1) ρ3 ∧ Ext B1 B3 ∧ EnvB G A B0 B3 ρ3 σ' H', fun σ' H' ⟨ρ3, B3, j3, x3, E3⟩ => ⟨(ds.map (dat (G := G))).length - (i + 1), by omega, rfl, hlt, ρ3, B3, j3, x3, E3⟩, fun v H3 y => ?_⟩
    have hp2 : ∃ pp, (ds.map (dat (G := G)))[i]? = some pp := ⟨_, List.getElem?_eq_getElem hlt⟩
    obtain ⟨pp, hp2⟩ := hp2
    obtain ⟨dd, hd1, rfl⟩ := dats_get hp2
    obtain ⟨B4, x4, E4, hv⟩ := W.yields i _ A B0 B2 ρ2 σ2 H2 v H3 hp2 x2 E2 y
    refine g_nameN (ps := ds.map dat) j hp2 hN hx hf A B0 B4 ρ2 σ2 H3 v _ E4 hv fun σ5 _ E5 => ?_
    rw [putN_eq hp2] at E5
    -- from here the part B4 stays
    have E6 : EnvB G A B4 B4 ⟨ρ2.sl.set j (some (dat dd)), ρ2.ow⟩ σ5 H3 := ⟨Ext.refl _, E5.bh, E5.ah, fun a _ h => h, E5.tabs, E5.sl, E5.ow, E5.nd, E5.ln⟩
    have back : ∀ {B7 : Hp} {ρ7 : Rho G} {σ7 : L2.St} {H7 : Hp}, EnvB G A B4 B7 ρ7 σ7 H7 → Ext B1 B7 ∧ EnvB G A B0 B7 ρ7 σ7 H7 := fun {B7 ρ7 σ7 H7} E7 =>
      ⟨(x2.trans x4).trans E7.b0, ⟨(E4.b0).trans E7.b0, E7.bh, E7.ah, fun a ha hb => E7.av a ha (E4.av a ha hb), E7.tabs, E7.sl, E7.ow, E7.nd, E7.ln⟩⟩
    refine hs ds i dd ρ2 hd1 j2 A B4 B4 σ5 H3 _ E6 ⟨fun ρ7 w B7 σ7 H7 E7 => ?_, fun p7 ρ7 w v7 B7 σ7 H7 E7 h7 => S.rt p7 ρ7 w v7 B7 σ7 H7 (back E7).2 h7, fun ρ7 w B7 σ7 H7 E7 => S.nx ρ7 w B7 σ7 H7 (back E7).2, fun ρ7 w B7 σ7 H7 E7 => ?_⟩
    · exact ⟨ρ7, B7, w, (back E7).1, (back E7).2⟩
    · exact ⟨ρ7, B7, w, (back E7).1, (back E7).2⟩
  · have e : i = ds.length := by rw [List.length_map] at hlt hi2; omega
    subst e
    exact .inl ⟨by have := W.stops H2 (x2.trans E2.bh); rwa [List.length_map] at this, S.nx ρ2 (hd ds ρ2 j2) B2 σ2 H2 E2⟩
end
end MR
/-! L21: a tuple taken once or not at all; comprehensions with effects; a list unpacked. -/
namespace MR
open PySem PySem.Spec PyProof.Rows L2
theorem tuple_once (l : Addr) (items : Array Value) (n : Nat) (dd : Option Addr) (sl : Array (Option Value)) (u : Tok) :
    Meets (Builtin.«tuple.__mul__» ⟨[.ref l, .int 1 u], []⟩) (fun _ R s => s.heap.get? l = some { cls := .type "tuple", dict := dd, data := .seq items n, slots := sl } ∧ R (.ok (.ret (Value.ref l))) s) :=
  .of_wp fun prog w A R s h => by
    obtain ⟨hp, g, d, tk, os⟩ := s
    obtain ⟨hl, h⟩ := h
    have f1 := AutoSeq1.idx_int
    wp_walk using wpAny_loadPart' hl
    exact ⟨_, rfl, h⟩
theorem tuple_never (l : Addr) (items : Array Value) (n : Nat) (dd : Option Addr) (sl : Array (Option Value)) (u : Tok) (c1 : items.isEmpty = false) :
    Meets (Builtin.«tuple.__mul__» ⟨[.ref l, .int 0 u], []⟩) (fun _ R s => s.heap.get? l = some { cls := .type "tuple", dict := dd, data := .seq items n, slots := sl } ∧
      R (.ok (.ret (Value.ref s.heap.objs.size))) { s with heap := s.heap.push { cls := Value.type "tuple", data := Data.seq #[] }, toks := s.toks }) :=
  .of_wp fun prog w A R s h => by
    obtain ⟨hp, g, d, tk, os⟩ := s
    obtain ⟨hl, h⟩ := h
    have f1 := AutoSeq1.idx_int
    wp_walk using wpAny_loadPart' hl
    exact ⟨_, rfl, h⟩
def rRepU (K : PySem.W.Frag) : R2 := fun x y H Q => ∃ l k xs, x = .ref l ∧ y = .int k ∧ SqT K H l xs ∧ xs ≠ [] ∧ ((k = 1 ∧ Q (.ref l) H) ∨ (k = 0 ∧ ∀ p, H p = none → Q (.ref p) (upd H p (.tup []))))
theorem op_repU {X : Cx} : OpR X (binaryOp .Mult) (rRepU X.K) := by
  intro pins s σ H x y v u Q I rx ry h
  obtain ⟨l, k, xs, rfl, rfl, hT, hne, h⟩ := h
  cases rx
  obtain ⟨t, rfl⟩ := ry
  obtain ⟨its, r, ⟨⟨cls, dd, data, sl⟩, ho, hc, n, hd⟩, hs⟩ := I.tuple hT
  simp only at hc hd
  subst hc hd
  have hle : its.length = xs.length := r.length.symm
  have hi : its.toArray.isEmpty = false := by
    cases its with
    | nil => exact absurd (List.eq_nil_of_length_eq_zero hle.symm) hne
    | cons a b => rfl
  rcases h with ⟨rfl, q⟩ | ⟨rfl, q⟩
  · refine wpAny_binaryOp_repeat_ref (T := "tuple") (U := "int") (by decide) ⟨_, ho, rfl⟩ (fun s' => typeIs_int s' 1 t) noFill_tuple_mul F.fills_int_mul F.slot_int_rmul repeat_tuple F.slot_int_index.lookup
      (call_meets F.slot_int_rmul (typeIs_int s 1 t) F.entry_int_rmul (F.args_int_rmul_2 _ _) (int_rmul_tuple 1 t l its.toArray n dd sl)
        ⟨ho, rfl, ⟨_, ho, rfl⟩, call_meets F.slot_tuple_mul ⟨_, ho, rfl⟩ F.entry_tuple_mul (F.args_tuple_mul_2 _ _) (tuple_once l its.toArray n dd sl t) ⟨ho, ?_⟩⟩)
    exact ⟨.ref l, _, I, rfl, q⟩
  · refine wpAny_binaryOp_repeat_ref (T := "tuple") (U := "int") (by decide) ⟨_, ho, rfl⟩ (fun s' => typeIs_int s' 0 t) noFill_tuple_mul F.fills_int_mul F.slot_int_rmul repeat_tuple F.slot_int_index.lookup
      (call_meets F.slot_int_rmul (typeIs_int s 0 t) F.entry_int_rmul (F.args_int_rmul_2 _ _) (int_rmul_tuple 0 t l its.toArray n dd sl)
        ⟨ho, rfl, ⟨_, ho, rfl⟩, call_meets F.slot_tuple_mul ⟨_, ho, rfl⟩ F.entry_tuple_mul (F.args_tuple_mul_2 _ _) (tuple_never l its.toArray n dd sl t hi) ⟨ho, ?_⟩⟩)
    refine ⟨.ref s.heap.objs.size, _, I.laid (t' := s.toks) (o := .tup []) (fun b ob q => Heap.get?_push_of_some _ q) (Nat.le_refl _) ?_, rfl, q _ (I.hok.fresh (Nat.le_refl _))⟩
    exact ⟨Nat.zero_le _, [], .nil, IsTup.new _ _⟩
section
variable {G : GC} {L : LC G} {ρ ρ1 : Rho G} {e a b c o k : Expr} {es : List Expr} {p q z : PV G} {pos p1 p2 kpos : Pos} {d : PyData} {ds : List PyData} {Po : Post G} {Pa Pb Pc : PV G → Rho G → Prop} {tg iter elt : Expr}
theorem v_repU {kk : Int} (hne : ds ≠ []) (h : kk = 1 ∨ kk = 0) : Val2 G (rRepU L.X.K) (dat (.tuple ds)) (dat (.int kk)) (dat (.tuple (if kk = 1 then ds else []))) := fun A B0 B ρ σ H x y Q E hx hy k => by
  obtain ⟨p1, xs, rfl, hs, ha⟩ := dp_tup hx
  have e2 := dp_int hy
  subst e2
  have l1 := dpa_len ha
  rw [L.hK]
  refine ⟨p1, kk, xs, rfl, rfl, E.bh.sqT hs, ?_, ?_⟩
  · intro z
    subst z
    cases ha
    exact hne rfl
  · rcases h with rfl | rfl
    · exact .inl ⟨rfl, here E k (by rw [if_pos rfl]; exact hx)⟩
    · refine .inr ⟨rfl, newT E k ?_⟩
      rw [if_neg (by decide)]
      exact .nil
/-- (..) * k, k one or nothing -/
theorem em_repU (ha : EvM L ρ a Pa) (hr : ∀ p ρ1, Pa p ρ1 → ∃ ds kk, p = dat (.tuple ds) ∧ ds ≠ [] ∧ (kk = 1 ∨ kk = 0) ∧ EvD L ρ1 b (dat (.int kk)) ∧ Pc (dat (.tuple (if kk = 1 then ds else []))) ρ1) : EvM L ρ (.BinOp a .Mult b pos) Pc :=
  em_two (t := fun _ _ _ => True) (Pa := Pa) (Pb := fun p q ρ2 => Pa p ρ2 ∧ ∃ ds kk, p = dat (.tuple ds) ∧ ds ≠ [] ∧ (kk = 1 ∨ kk = 0) ∧ q = dat (.int kk) ∧ Pc (dat (.tuple (if kk = 1 then ds else []))) ρ2) (pe_op op_repU (WE.pe _ _) (WE.pe _ _)) ha
    (fun p ρ1 w => by
      obtain ⟨ds, kk, e, h1, h2, h3, h4⟩ := hr p ρ1 w
      exact .mk fun A B0 B σ H Q E k => h3.run E fun v B' H' x' E' y => k _ ρ1 ⟨w, ds, kk, e, h1, h2, rfl, h4⟩ v B' H' x' E' y)
    (fun p ρ1 q ρ2 _ ⟨_, ds, kk, e1, h1, h2, e2, h4⟩ => by
      subst e1 e2
      exact ⟨_, v_repU h1 h2, h4⟩)
/-- x, y = a list of two -/
theorem g_lstD {tgs : List Expr} {k : Nat} {ds : List PyData} {is : List Nat} {f : List (Option (PV G)) → List (Option (PV G))} (h : TgsD L tgs (ds.map dat) is f) (hn : (assignEach tgs L.X.env).length = ds.length := by rfl) (hst : (assignEach tgs L.X.env).findIdx? (·.1) = none := by rfl) :
    TgD L (.Tuple tgs k pos) (dat (.list ds)) is f := .mk fun A B0 B ρ σ H v Q E hp kk pins s u I r => by
  obtain ⟨a, xs, rfl, h1, h2⟩ := dp_lst hp
  refine (pg_lst L.calm (WGs.pgs _ _) hn hst).run pins s σ H _ u Q I r ⟨a, xs, rfl, by rw [L.hK]; exact E.bh.sqL h1, dpa_len h2, ?_⟩
  exact h A B0 B ρ σ H xs Q E (pvs_of h2) kk
/-! a comprehension with effects -/
theorem lc_goM {vs : List Nat} {ps : List (PV G)} {B1 : Hp} {J0 : It} {A B0 : Hp} {σ : L2.St} {H1 : Hp} {Q : VK} (W : WalkD G B1 J0 ps) (E1 : EnvB G A B0 B1 ρ σ H1) (hsz : ps.length ≤ 100000) {tg' : TG} {te' : TE} (Iv : Nat → List PyData → Own G → Prop) (h0' : Iv 0 [] ρ.ow)
    (hs : ∀ (i : Nat) p es ow, ps[i]? = some p → Iv i es ow → ∀ (A B0 B : Hp) (σ2 : L2.St) (H : Hp) (v : V) (Qe : VK), EnvB G A B0 B ⟨wipeS ρ.sl vs, ow⟩ (wipe σ vs) H → p.p B v →
      (∀ d ow', Iv (i + 1) (es ++ [d]) ow' → ∀ v B' H' sl' σ', Ext B B' → EnvB G A B0 B' ⟨sl', ow'⟩ σ' H' → Dp G.K B' v d → Qe v H') →
      tg' v (wipe σ vs) H fun σ2 H2 => wipe σ2 vs = wipe σ vs ∧ te' σ2 H2 Qe)
    (k : ∀ es ow, Iv ps.length es ow → ∀ v B' H', Ext B1 B' → EnvB G A B0 B' ⟨ρ.sl, ow⟩ σ H' → (dat (G := G) (.list es)).p B' v → Q v H') :
    ∀ D, H1 D = none → ∃ W : Nat → Nat → Hp → Prop, (∃ m, W 0 m (upd H1 D (.lst []))) ∧ ∀ i m H, W i m H →
      (J0.stop i H ∧ Q (.ref D) H) ∨ (J0.go i H ∧ ∃ Nx : Hp → Prop, (∀ H', Nx H' → ∃ m', m' < m ∧ W (i + 1) m' H') ∧ ∀ x H', J0.yld i H x H' → tg' x (wipe σ vs) H' fun σ2 H2 => wipe σ2 vs = wipe σ vs ∧ tYes σ2 H2 fun b H3 =>
        if b = true then te' σ2 H3 fun y H4 => ∃ acc, H4 D = some (.lst acc) ∧ acc.length < sizeLine ∧ Nx (upd H4 D (.lst (acc ++ [y]))) else Nx H3) := by
  intro D hD
  have hBD := E1.fresh hD
  have hAD : A D = none := E1.ah.back D hD
  have hoD : D ∉ ρ.ow.map (·.1) := fun hm => by
    obtain ⟨⟨a', c'⟩, hq, e'⟩ := List.mem_map.mp hm
    have e' : a' = D := e'
    subst e'
    obtain ⟨_, _, h3⟩ := E1.ow a' c' hq
    obtain ⟨o, e, _⟩ := h3
    rw [hD] at e
    cases e
  let St := fun (i : Nat) (H : Hp) => ∃ (B2 : Hp) (acc : List V) (es : List PyData) (ow : Own G), Ext B1 B2 ∧ B2 D = none ∧ EnvB G A B0 B2 ⟨ρ.sl, ow⟩ σ H ∧ H D = some (.lst acc) ∧ DpAll G.K B2 acc es ∧ Iv i es ow ∧ es.length = i ∧ D ∉ ow.map (·.1)
  have h0 : St 0 (upd H1 D (.lst [])) := by
    refine ⟨B1, [], [], ρ.ow, Ext.refl _, hBD, ⟨E1.b0, E1.bh.hid hBD, E1.ah.hid hAD, E1.av, E1.tabs.ext fun b u e => by rw [upd_ne (ne_of_none e hD)]; exact e, E1.sl, fun a c m => ?_, E1.nd, E1.ln⟩, upd_same, .nil, h0', rfl, hoD⟩
    obtain ⟨h1, h2, h3⟩ := E1.ow a c m
    refine ⟨h1, h2, h3.mono (Ext.refl _) (Ext.new hD)⟩
  refine ⟨fun i m H => m = ps.length - i ∧ i ≤ ps.length ∧ St i H, ⟨ps.length, by simp, Nat.zero_le _, h0⟩, ?_⟩
  rintro i m H ⟨rfl, hi, B2, acc, es, ow, x2, hB2, E2, hDl, hacc, hiv, hel, hoD⟩
  by_cases hlt : i < ps.length
  · refine .inr ⟨W.goes i H hlt (x2.trans E2.bh), St (i + 1), fun H' s' => ⟨ps.length - (i + 1), by omega, rfl, hlt, s'⟩, fun v H3 y => ?_⟩
    have hp2 : ps[i]? = some ps[i] := by simp [hlt]
    obtain ⟨B4, x4, E4, hv⟩ := W.yields i ps[i] _ _ B2 ⟨ρ.sl, ow⟩ σ H v H3 hp2 x2 E2.re y
    have E4w := E4.re.wiped vs
    have nT : ∀ ps', HO.lst acc ≠ .tbl ps' := fun ps' z => nomatch z
    have h3D : H3 D = some (.lst acc) := E4.ah.keep D _ (by rw [restH_out hoD]; exact hDl) nT
    have hB4 : B4 D = none := E4.av D (by rw [restH_out hoD, hDl]; exact fun z => nomatch z) hB2
    refine hs i ps[i] es ow hp2 hiv _ _ B4 (wipe σ vs) H3 v (fun y H4 => ∃ acc, H4 D = some (.lst acc) ∧ acc.length < sizeLine ∧ St (i + 1) (upd H4 D (.lst (acc ++ [y])))) E4w hv fun d ow' hiv' w B5 H5 sl' σ5 x5 E5 y5 => ?_
    have E6 := E2.un (E4.un (ρ1 := ⟨sl', ow'⟩) E5)
    have E7 : EnvB G A B0 B5 ⟨ρ.sl, ow'⟩ σ H5 := ⟨E6.b0, E6.bh, E6.ah, E6.av, E6.tabs, fun i p e => let ⟨v, h1, h2⟩ := E2.sl i p e; ⟨v, h1, p.mono (x4.trans x5) h2⟩, E6.ow, E6.nd, E2.ln⟩
    have e5 : H5 D = some (.lst acc) := E5.ah.keep D _ (by rw [restH_out hoD]; exact h3D) nT
    have b5 : B5 D = none := E5.av D (by rw [restH_out hoD, h3D]; exact fun z => nomatch z) hB4
    have hoD' : D ∉ ow'.map (·.1) := fun hm => by
      obtain ⟨⟨a', c'⟩, hq, e'⟩ := List.mem_map.mp hm
      have e' : a' = D := e'
      subst e'
      have h1 := (E5.ow a' c' hq).1
      rw [restH_out hoD, h3D] at h1
      cases h1
    refine ⟨acc, e5, ?_, B5, acc ++ [w], es ++ [d], ow', (x2.trans x4).trans x5, b5, ⟨E7.b0, E7.bh.hid b5, E7.ah.hid hAD, E7.av, ?_, E7.sl, fun a c m => ?_, E7.nd, E7.ln⟩, upd_same, ?_, hiv', by rw [List.length_append, hel]; rfl, hoD'⟩
    · have h1 := dpa_len hacc
      rw [sizeLine_eq]
      omega
    · intro pq hpq
      obtain ⟨ps', q1, q2, q3⟩ := E7.tabs pq hpq
      have neD : ∀ {o : HO} {b : Addr}, H5 b = some o → o ≠ .lst acc → b ≠ D := fun {o b} e ne z => by
        rw [z, e5] at e
        exact ne (Option.some.inj e).symm
      refine ⟨ps', by rw [upd_ne (neD q1 fun z => nomatch z)]; exact q1, q2, fun pos cv hc => ?_⟩
      obtain ⟨c', q4, q5⟩ := q3 pos cv hc
      exact ⟨c', q4, by rw [upd_ne (neD q5 fun z => by unfold LamX.CodeO at z; cases z)]; exact q5⟩
    · obtain ⟨h1, h2, h3⟩ := E7.ow a c m
      refine ⟨h1, h2, ?_⟩
      have na : a ≠ D := fun z => hoD' (by rw [← z]; exact List.mem_map.mpr ⟨(a, c), m, rfl⟩)
      obtain ⟨o, e1, e2⟩ := h3
      exact ⟨o, by rw [upd_ne na]; exact e1, e2⟩
    · exact dpa_snoc (dpa_mono (x4.trans x5) _ _ hacc) y5
  · have e : i = ps.length := by omega
    subst e
    refine .inl ⟨W.stops H (x2.trans E2.bh), ?_⟩
    have hB : Ext B2 (upd B2 D (.lst acc)) := Ext.new hB2
    have bh' : Ext (upd B2 D (.lst acc)) H := by
      constructor
      · intro b o e n
        by_cases hb : b = D
        · subst hb; rw [upd_same] at e; rw [hDl]; exact e
        · rw [upd_ne hb] at e; exact E2.bh.keep b o e n
      · intro b e
        have hb : b ≠ D := fun z => by rw [z, hDl] at e; cases e
        rw [upd_ne hb]
        exact E2.bh.back b e
    refine k es ow hiv (.ref D) (upd B2 D (.lst acc)) H (x2.trans hB) ⟨E2.b0.trans hB, bh', E2.ah, fun a ha hb => ?_, E2.tabs, fun j p e => let ⟨v, h1, h2⟩ := E2.sl j p e; ⟨v, h1, p.mono hB h2⟩, fun a c m => ?_, E2.nd, E2.ln⟩ (.lst (SqL.of upd_same) (dpa_mono hB _ _ hacc))
    · have na : a ≠ D := fun z => ha (by rw [z]; exact hAD)
      rw [upd_ne na]
      exact E2.av a ha hb
    · obtain ⟨h1, h2, h3⟩ := E2.ow a c m
      have na : a ≠ D := fun z => hoD (by rw [← z]; exact List.mem_map.mpr ⟨(a, c), m, rfl⟩)
      exact ⟨h1, by rw [upd_ne na]; exact h2, h3.mono hB (Ext.refl _)⟩
/-- [elt for x in ..], elt with effects -/
theorem em_lcN (i : Nat) {x : Str} {px : Pos} {own : List (Str × Nat)} {scope : Scope} (Iv : Nat → List PyData → Own G → Prop) (h0 : Iv 0 [] ρ.ow) (hi : ItD L ρ (.Name x px) iter (ds.map dat)) (ok : BlkOk L.X.N L.X.env.scope scope own) (hsz : ds.length ≤ 100000)
    (he : ∀ s H C cl fp (k : Nat) d es ow, ds[k]? = some d → Iv k es ow → EvM (L.blk s H scope C cl fp) ⟨(wipeS ρ.sl (own.map (·.2))).set i (some (dat d)), ow⟩ elt (fun p ρ' => ∃ g, p = dat g ∧ Iv (k + 1) (es ++ [g]) ρ'.ow))
    (hw : ∀ es ow, Iv ds.length es ow → Pc (dat (.list es)) ⟨ρ.sl, ow⟩) (hin : i ∈ own.map (·.2) := by decide) (hN : L.X.N[i]? = some x := by rfl)
    (hx : Loc (relabel scope L.X.env) x := by first | exact Or.inl rfl | exact Or.inr rfl) (hf : (relabel scope L.X.env).names.lookup x = some .local := by rfl) (hfs : ∀ x, foldedSetIterable iter L.X.env x = pure x := by intro _; rfl) :
    EvM L ρ (.ListComp elt [⟨.Name x px, iter, [], 0⟩] scope pos) Pc := .mk fun A B0 B σ H Q E k => by
  refine WE.of (pe_lc L.calm L.nd (WI.pi _ _ _) ok (fun s H C cl fp => wg_blk s H C cl fp) (fun s H C cl fp => pts_nil) (fun s H C cl fp => we_blk s H C cl fp) hfs) ?_
  refine hi A B0 B σ H _ E fun J B1 H1 W x1 E1 => ?_
  refine lc_goM (vs := own.map (·.2)) (tg' := fun v σ H Q => ∀ L', BlkL L scope L' → WG L'.X (.Name x px) v σ H Q) (te' := fun σ H Q => ∀ L', BlkL L scope L' → WE L'.X elt σ H Q) W E1 (by rw [List.length_map]; exact hsz) Iv h0 (fun i2 p es ow hp hiv A B0 B2 σ2 H2 v Qe E2 hv ke => ?_) fun es ow hiv v B' H' x E' y => k _ _ (hw es ow (by rw [List.length_map] at hiv; exact hiv)) v B' H' (x1.trans x) E' y
  obtain ⟨d, hd, rfl⟩ := dats_get hp
  intro L' hL'
  obtain ⟨s, H', C, cl, fp, rfl⟩ := id hL'
  refine g_nameN (L := L.blk s H' scope C cl fp) (ps := ds.map dat) i hp hN hx (.inr hf) A B0 B2 _ (wipe σ (own.map (·.2))) H2 v _ E2 hv fun σ3 o3 E3 => ?_
  rw [putN_eq hp] at E3
  refine ⟨o3.wiped (fun j hj => by rw [List.mem_singleton.mp hj]; exact hin), ?_⟩
  intro L2' hL2'
  obtain ⟨s2, H2', C2, cl2, fp2, rfl⟩ := id hL2'
  exact he s2 H2' C2 cl2 fp2 i2 d es ow hd hiv A B0 B2 σ3 H2 _ E3 fun p ρ' w v B4 H4 x4 E4 y4 => by
    obtain ⟨g, rfl, w⟩ := w
    exact ke g ρ'.ow w v B4 H4 ρ'.sl σ3 x4 E4 y4
end
end MR
/-! L22: a tuple backwards. -/
namespace MR
open PySem PySem.Spec PyProof.Rows L2 HT
section
variable {prog : Program} {w : World} {A : Around} {E : Value → Shared → Prop} {s : Shared}
theorem applied_rev {sl : Addr} {vs : Value} {n : Nat} {Q : Int × Int × Nat → Shared → Prop} (hs : s.heap.IsSliceOf sl .none .none vs) (ps : IsPart vs (some (-1)))
    (h : Q ((n : Int) - 1, -1, n) s) : wpAny (model prog w) A (Builtin.Slice.sliceApplied (.ref sl) (pure (n : Int))) Q E s := by
  obtain ⟨os, hos, hcs, hds⟩ := id hs
  unfold Builtin.Slice.sliceApplied Builtin.Slice.sliceFields
  refine wpAny_bind (wpAny_bind (wpAny_field hos hds (x := .none) rfl (wpAny_bind (wpAny_field hos hds (x := .none) rfl (wpAny_bind (wpAny_field hos hds (x := vs) rfl (wpAny_pure ?_)))))))
  refine wpAny_bind (slicePart_ ps ?_)
  show wpAny _ _ (if ((-1 : Int) == 0) = true then _ else _) _ _ s
  rw [if_neg (by decide)]
  refine wpAny_bind (slicePart_ .none (wpAny_bind (slicePart_ .none (wpAny_bind (wpAny_pure ?_)))))
  show wpAny _ _ (pure ((n : Int) - 1, (-1 : Int), Builtin.Slice.slicePlaces ((n : Int) - 1) (-1) (-1))) _ _ s
  have e : Builtin.Slice.slicePlaces ((n : Int) - 1) (-1) (-1) = n := by
    unfold Builtin.Slice.slicePlaces
    rw [if_neg (by decide)]
    by_cases hn : (n : Int) - 1 > -1
    · rw [if_pos hn, show (-(-1) : Int) = 1 by decide, Int.ediv_one]
      omega
    · rw [if_neg hn]
      omega
  rw [e]
  exact wpAny_pure h
theorem fm_congr {α β : Type} {f g : α → Option β} : ∀ {l : List α}, (∀ x ∈ l, f x = g x) → l.filterMap f = l.filterMap g
  | [], _ => rfl
  | x :: l, h => by rw [List.filterMap_cons, List.filterMap_cons, h x List.mem_cons_self, fm_congr fun y hy => h y (List.mem_cons_of_mem _ hy)]
theorem pick_rev (xs : Array Value) : ((List.range xs.size).filterMap fun (m : Nat) => xs[(((xs.size : Nat) : Int) - 1 + (m : Int) * (-1)).toNat]?).toArray = xs.toList.reverse.toArray := by
  have e : (List.range xs.size).filterMap (fun (m : Nat) => xs[(((xs.size : Nat) : Int) - 1 + (m : Int) * (-1)).toNat]?) = ((List.range xs.size).map fun k => xs.size - 1 - k).filterMap (xs[·]?) := by
    rw [List.filterMap_map]
    refine fm_congr fun m hm => ?_
    have hm := List.mem_range.mp hm
    have : (((xs.size : Nat) : Int) - 1 + (m : Int) * (-1)).toNat = xs.size - 1 - m := by omega
    show xs[(((xs.size : Nat) : Int) - 1 + (m : Int) * (-1)).toNat]? = xs[xs.size - 1 - m]?
    rw [this]
  rw [e, PySem.W.krv_range, List.filterMap_reverse, PySem.W.krv_all]
theorem getItem_tuple_rev {t sl : Addr} {items : Array Value} {vs : Value} {Q : Value → Shared → Prop} (ht : IsTup s.heap t items) (hs : s.heap.IsSliceOf sl .none .none vs) (ps : IsPart vs (some (-1)))
    (h : Q (.ref s.heap.objs.size) { s with heap := s.heap.push { cls := .type "tuple", data := .seq items.toList.reverse.toArray } }) (hsz : items.size ≤ sizeLine) : wpAny (model prog w) A (getItem (.ref t) (.ref sl)) Q E s := by
  have htake : sizeOk (.seq items.toList.reverse.toArray) := by
    show items.toList.reverse.toArray.size ≤ sizeLine
    rw [List.size_toArray, List.length_reverse, Array.length_toList]
    exact hsz
  obtain ⟨os, hos, hcs, hds⟩ := id hs
  have hTs : s.TypeIs (.ref sl) "slice" := ⟨os, hos, hcs⟩
  unfold getItem
  try with_reducible refine wpAny_holding ?_
  first | refine wpAny_bind (wpAny_pure ?_) | skip
  refine wpAny_bind (wpAny_sequenceKey ht.typeIs (by decide) ?_)
  refine wpAny_bind (wpAny_callSpecial?_slot (name := Str.ofString "__getitem__") ht.typeIs PyProof.Rows.slot_tuple_getitem
    (wpAny_call_entry PyProof.Rows.slot_tuple_getitem ht.typeIs entry_tuple_getitem ?_ (args_tuple_getitem _ _)))
  show wpAny _ _ (Builtin.Tuple.tupleItemsOf (.ref t) >>= _) _ _ s
  refine wpAny_bind (tupleItemsOf_ ht ?_)
  refine wpAny_bind (wpAny_typeOf hTs ?_)
  rw [if_pos (by decide)]
  refine wpAny_bind (applied_rev hs ps ?_)
  have hno : ¬ ((((items.size : Nat) : Int) - 1 == 0 && (-1 : Int) == 1 && items.size == items.size) = true) := by
    intro q
    rw [Bool.and_eq_true, Bool.and_eq_true] at q
    have q1 : (-1 : Int) = 1 := eq_of_beq q.1.2
    omega
  show wpAny _ _ (if (((items.size : Nat) : Int) - 1 == 0 && (-1 : Int) == 1 && items.size == items.size) = true then _ else _) _ _ s
  rw [if_neg hno, pick_rev]
  first
    | exact wpAny_bind (m := Builtin.Tuple.tupleExact _) (wpAny_newObj_type (wpAny_pure ⟨_, rfl, wpAny_pure h⟩) htake)
    | exact wpAny_bind (m := Builtin.Tuple.tupleExact _) (wpAny_newObj_type (wpAny_bind (wpAny_pure (wpAny_pure ⟨_, rfl, wpAny_pure h⟩))) htake)
    | exact wpAny_bind (wpAny_bind (m := Builtin.Tuple.tupleExact _) (wpAny_newObj_type (wpAny_pure (wpAny_pure ⟨_, rfl, wpAny_pure h⟩)) htake))
    | exact wpAny_bind (wpAny_bind (m := Builtin.Tuple.tupleExact _) (wpAny_newObj_type (wpAny_pure ⟨_, rfl, wpAny_pure h⟩) htake))
end
section
variable {G : GC} {L : LC G} {ρ : Rho G} {a : Expr} {ds : List PyData}
def tRevT (K : PySem.W.Frag) (te : TE) : TE := fun σ H Q => te σ H fun x H1 => ∃ a xs, x = .ref a ∧ SqT K H1 a xs ∧ ∀ p, H1 p = none → Q (.ref p) (upd H1 p (.tup xs.reverse))
theorem pe_revT {X : Cx} {e : Expr} {te : TE} {k : Nat} {p1 p2 p3 pos : Pos} (he : PE X e te) : PE X (.Subscript e (.Slice none none (some (.UnaryOp .USub (.Constant (.int 1) k p1) p2)) p3) pos) (tRevT X.K te) := by
  refine ⟨fun pins s σ H Q I h => ?_⟩
  refine Subscript_ (thn (he.run pins s σ H _ I h) fun v s1 ⟨x, H1, I1, r1, q1⟩ => ?_)
  obtain ⟨a, xs, ex, hx, q⟩ := q1
  subst ex
  cases r1
  have hst : PO X (some (.UnaryOp .USub (.Constant (.int 1) k p1) p2)) (tPart (tUn (rU fun i => .int (-i)) (tC (.int 1)))) := po_some (pe_un un_neg pe_int)
  refine wpAny_Slice (thn (po_none.run pins s1 σ H1 (fun o H2 => o = none ∧ H2 = H1) I1 ⟨rfl, rfl⟩) fun vl s2 ⟨l, H2, I2, pl, el, e2⟩ => ?_)
  subst el e2
  refine thn (po_none.run pins s2 σ H2 (fun o H3 => o = none ∧ H3 = H2) I2 ⟨rfl, rfl⟩) fun vu s3 ⟨u, H3, I3, pu, eu, e3⟩ => ?_
  subst eu e3
  refine thn (hst.run pins s3 σ H3 (fun o H4 => o = some (-1) ∧ H4 = H3) I3 ⟨1, rfl, -1, rfl, rfl, rfl⟩) fun vs s4 ⟨o, H4, I4, ps, eo, e4⟩ => ?_
  subst eo e4
  cases pl
  cases pu
  have I5 : Inv X pins σ H4 { s4 with heap := s4.heap.push { cls := .type "slice", data := .fields #[.none, .none, vs] } } := I4.kept (t' := s4.toks) fun b ob q => Heap.get?_push_of_some _ q
  obtain ⟨its, r, ht, hz⟩ := I5.tuple hx
  have hlen := r.length
  show wpAny (model X.prog X.w) X.A (subscriptTail e (.Slice none none (some (.UnaryOp .USub (.Constant (.int 1) k p1) p2)) p3) (.ref a) (.ref s4.heap.objs.size)) (EP X pins σ Q) X.xe { s4 with heap := s4.heap.push { cls := .type "slice", data := .fields #[.none, .none, vs] } }
  refine tail_any (ops := [.ref a, .ref s4.heap.objs.size]) ht.typeIs (PyProof.Rows.slot_tuple_getitem.lookup) ?_ (by with_unfolding_all rfl)
  refine getItem_tuple_rev ht (Heap.IsSliceOf.new _ .none .none vs) ps ?_ (by rw [List.size_toArray]; omega)
  refine ⟨.ref _, _, I5.laid (t' := s4.toks) (o := .tup xs.reverse) (fun b ob q => Heap.get?_push_of_some _ q) (Nat.le_refl _) ?_, rfl, q _ (I5.hok.fresh (Nat.le_refl _))⟩
  exact ⟨by rw [List.length_reverse]; exact hz, _, r.reverse, IsTup.new _ _⟩
/-- t[::-1] -/
theorem e_revT {k : Nat} {p1 p2 p3 pos : Pos} (ha : EvD L ρ a (dat (.tuple ds))) : EvD L ρ (.Subscript a (.Slice none none (some (.UnaryOp .USub (.Constant (.int 1) k p1) p2)) p3) pos) (dat (.tuple ds.reverse)) := EvD.of fun A B0 B σ H Q E kk => by
  refine WE.of (pe_revT (WE.pe _ _)) (ha.run E fun v B1 H1 x1 E1 y1 => ?_)
  obtain ⟨p1, xs, rfl, hs, hd⟩ := dp_tup y1
  rw [L.hK]
  exact ⟨p1, xs, rfl, E1.bh.sqT hs, newT E1 (fun v B' H' x' E' y' => kk v B' H' (x1.trans x') E' y') (dpa_rev hd)⟩
end
end MR
/-! M0: what the program speaks of, as plain data. -/
namespace MR
open PySem
/-- a word: one to eight small letters -/
def wordB (x : Str) : Bool := decide (1 ≤ x.length) && decide (x.length ≤ 8) && x.cps.toList.all fun c => decide (97 ≤ c) && decide (c ≤ 122)
structure Lt where
  ins : List Str
  outs : List Str
  deriving DecidableEq
def strsD (l : List Str) : PyData := .tuple (l.map PyData.str)
def Lt.enc (l : Lt) : PyData := .tuple [strsD l.ins, strsD l.outs]
structure Lt.Ok (l : Lt) : Prop where
  i1 : 1 ≤ l.ins.length
  i3 : l.ins.length ≤ 3
  iw : ∀ x ∈ l.ins, wordB x = true
  ind : l.ins.Nodup
  o1 : 1 ≤ l.outs.length
  o3 : l.outs.length ≤ 3
  ow : ∀ x ∈ l.outs, wordB x = true
  ond : l.outs.Nodup
inductive Say where
  | inn (w : Str)
  | out (w : Str)
  | not (s : Say)
  | and (s t : Say)
  | or (s t : Say)
def Say.enc : Say → PyData
  | .inn w => .tuple [.str "in", .str w]
  | .out w => .tuple [.str "out", .str w]
  | .not s => .tuple [.str "not", s.enc]
  | .and s t => .tuple [.str "and", s.enc, t.enc]
  | .or s t => .tuple [.str "or", s.enc, t.enc]
def Say.depth : Say → Nat
  | .inn _ => 1
  | .out _ => 1
  | .not s => s.depth + 1
  | .and s t => max s.depth t.depth + 1
  | .or s t => max s.depth t.depth + 1
def Say.Ok (l : Lt) : Say → Prop
  | .inn w => w ∈ l.ins
  | .out w => w ∈ l.outs
  | .not s => s.Ok l
  | .and s t => s.Ok l ∧ t.Ok l
  | .or s t => s.Ok l ∧ t.Ok l
/-- no word of the outs -/
def Say.plain : Say → Bool
  | .inn _ => true
  | .out _ => false
  | .not s => s.plain
  | .and s t => s.plain && t.plain
  | .or s t => s.plain && t.plain
abbrev Beat := Str × Str
def beatD (b : Beat) : PyData := .tuple [.str b.1, .str b.2]
def Say.so (b : Beat) : Say → Bool
  | .inn w => decide (b.1 = w)
  | .out w => decide (b.2 = w)
  | .not s => !(s.so b)
  | .and s t => s.so b && t.so b
  | .or s t => s.so b || t.so b
theorem Say.depth_pos : ∀ s : Say, 1 ≤ s.depth
  | .inn _ => Nat.le_refl _
  | .out _ => Nat.le_refl _
  | .not s => Nat.le_add_left _ _
  | .and s t => Nat.le_add_left _ _
  | .or s t => Nat.le_add_left _ _
inductive Sen where
  | never (p : Say)
  | after (p q : Say)
  | until (p q r : Say)
  | within (p q : Say) (k : Nat)
  | first (p q : Say)
  | most (p : Say) (k : Nat)
  | apart (p : Say) (k : Nat)
def Sen.enc : Sen → PyData
  | .never p => .tuple [.str "never", p.enc]
  | .after p q => .tuple [.str "after", p.enc, q.enc]
  | .until p q r => .tuple [.str "until", p.enc, q.enc, r.enc]
  | .within p q k => .tuple [.str "within", p.enc, q.enc, .int k]
  | .first p q => .tuple [.str "first", p.enc, q.enc]
  | .most p k => .tuple [.str "most", p.enc, .int k]
  | .apart p k => .tuple [.str "apart", p.enc, .int k]
def Sen.says : Sen → List Say
  | .never p => [p]
  | .after p q => [p, q]
  | .until p q r => [p, q, r]
  | .within p q _ => [p, q]
  | .first p q => [p, q]
  | .most p _ => [p]
  | .apart p _ => [p]
def Sen.num : Sen → Nat
  | .within _ _ k => k
  | .most _ k => k
  | .apart _ k => k
  | _ => 1
structure Sen.Ok (l : Lt) (s : Sen) : Prop where
  says : ∀ p ∈ s.says, p.Ok l ∧ p.depth ≤ 4
  k1 : 1 ≤ s.num
  k6 : s.num ≤ 6
def Sen.plain (s : Sen) : Bool := s.says.all Say.plain
/-- as many standings as it may come to -/
def Sen.size : Sen → Nat
  | .never _ => 1
  | .after _ _ => 2
  | .until _ _ _ => 2
  | .within _ _ k => k + 1
  | .first _ _ => 2
  | .most _ k => k + 1
  | .apart _ k => k + 1
/-- what stands behind a beat -/
def Sen.step (b : Beat) : Sen → Nat → Option Nat
  | .never p, _ => if p.so b then none else some 0
  | .after p q, s => if s = 1 ∧ q.so b then none else some (if p.so b then 1 else if s = 1 then 1 else 0)
  | .until p q r, s => if s = 1 ∧ q.so b ∧ !(r.so b) then none else some (if p.so b then 1 else if s = 1 ∧ !(r.so b) then 1 else 0)
  | .within p q k, s =>
    if 0 < s ∧ q.so b then some (if p.so b then k else 0)
    else if 0 < s then (if s = 1 then none else some (s - 1))
    else some (if p.so b then k else s)
  | .first p q, s => if q.so b ∧ !(p.so b) ∧ s = 0 then none else some (if p.so b then 1 else s)
  | .most p k, s => if s + (if p.so b then 1 else 0) ≤ k then some (s + (if p.so b then 1 else 0)) else none
  | .apart p k, s => if p.so b then (if s = 0 then some k else none) else some (s - 1)
theorem Sen.step_lt {l : Lt} {s : Sen} (h : s.Ok l) {b : Beat} {i j : Nat} (hi : i < s.size) (e : s.step b i = some j) : j < s.size := by
  have h1 := h.k1
  cases s <;> simp only [Sen.step, Sen.size, Sen.num] at * <;> (repeat' split at e) <;> (try cases e) <;> (try omega)
  all_goals (first | (have := Option.some.inj e; subst this; (repeat' split) <;> omega) | skip)
end MR
/-! M1: the searches and their tables, as plain data. -/
namespace MR
open PySem
section
variable {σ τ : Type} [DecidableEq σ] [DecidableEq τ]
/-- the new ones among bs come to the end -/
def visit (o : List σ) : List (Option σ) → List σ
  | [] => o
  | none :: bs => visit o bs
  | some x :: bs => if x ∈ o then visit o bs else visit (o ++ [x]) bs
theorem visit_app (o : List σ) (bs cs : List (Option σ)) : visit o (bs ++ cs) = visit (visit o bs) cs := by
  induction bs generalizing o with
  | nil => rfl
  | cons b bs ih =>
    cases b with
    | none => exact ih o
    | some x =>
      show (if x ∈ o then visit o (bs ++ cs) else visit (o ++ [x]) (bs ++ cs)) = visit (if x ∈ o then visit o bs else visit (o ++ [x]) bs) cs
      split
      · exact ih o
      · exact ih _
theorem visit_pre (o : List σ) (bs : List (Option σ)) : o <+: visit o bs := by
  induction bs generalizing o with
  | nil => exact List.prefix_rfl
  | cons b bs ih =>
    cases b with
    | none => exact ih o
    | some x =>
      show o <+: if x ∈ o then visit o bs else visit (o ++ [x]) bs
      split
      · exact ih o
      · exact (List.prefix_append _ _).trans (ih _)
theorem visit_mem {o : List σ} {bs : List (Option σ)} {x : σ} : x ∈ visit o bs ↔ x ∈ o ∨ some x ∈ bs := by
  induction bs generalizing o with
  | nil => simp [visit]
  | cons b bs ih =>
    cases b with
    | none =>
      show x ∈ visit o bs ↔ _
      rw [ih]; simp
    | some y =>
      show (x ∈ if y ∈ o then visit o bs else visit (o ++ [y]) bs) ↔ _
      split
      · rename_i h
        rw [ih]
        constructor
        · rintro (h1 | h1)
          · exact .inl h1
          · exact .inr (List.mem_cons_of_mem _ h1)
        · rintro (h1 | h1)
          · exact .inl h1
          · rcases List.mem_cons.mp h1 with h2 | h2
            · cases h2; exact .inl h
            · exact .inr h2
      · rw [ih, List.mem_append, List.mem_singleton, List.mem_cons, Option.some.injEq]
        constructor
        · rintro ((h1 | h1) | h1)
          · exact .inl h1
          · exact .inr (.inl h1)
          · exact .inr (.inr h1)
        · rintro (h1 | h1 | h1)
          · exact .inl (.inl h1)
          · exact .inl (.inr h1)
          · exact .inr h1
theorem visit_nodup {o : List σ} {bs : List (Option σ)} (h : o.Nodup) : (visit o bs).Nodup := by
  induction bs generalizing o with
  | nil => exact h
  | cons b bs ih =>
    cases b with
    | none => exact ih h
    | some x =>
      show (if x ∈ o then visit o bs else visit (o ++ [x]) bs).Nodup
      split
      · exact ih h
      · rename_i hx
        exact ih (List.nodup_append.mpr ⟨h, by simp, fun a ha b hb => by
          rw [List.mem_singleton.mp hb]
          rintro rfl
          exact hx ha⟩)
/-- the search from order, at the place at, ends with the order f -/
inductive Bfs (succ : σ → List (Option σ)) : List σ → Nat → List σ → Prop
  | done {o : List σ} : Bfs succ o o.length o
  | step {o : List σ} {at_ : Nat} {s : σ} {f : List σ} : o[at_]? = some s → Bfs succ (visit o (succ s)) (at_ + 1) f → Bfs succ o at_ f
theorem Bfs.pre {succ : σ → List (Option σ)} {o : List σ} {n : Nat} {f : List σ} (h : Bfs succ o n f) : o <+: f ∧ n ≤ f.length := by
  induction h with
  | done => exact ⟨List.prefix_rfl, Nat.le_refl _⟩
  | step e _ ih => exact ⟨(visit_pre _ _).trans ih.1, Nat.le_of_succ_le ih.2⟩
theorem Bfs.inv {succ : σ → List (Option σ)} {o : List σ} {n : Nat} {f : List σ} (h : Bfs succ o n f) : (o.length ≤ n ∧ o = f) ∨ ∃ s, o[n]? = some s ∧ Bfs succ (visit o (succ s)) (n + 1) f := by
  cases h with
  | done => exact .inl ⟨Nat.le_refl _, rfl⟩
  | step e h => exact .inr ⟨_, e, h⟩
theorem pre_get {o f : List σ} (p : o <+: f) {i : Nat} {x : σ} (h : o[i]? = some x) : f[i]? = some x := by
  obtain ⟨t, rfl⟩ := p
  rw [List.getElem?_append_left (List.getElem?_eq_some_iff.mp h).1]
  exact h
theorem Bfs.closed {succ : σ → List (Option σ)} {o : List σ} {n : Nat} {f : List σ} (h : Bfs succ o n f) (h0 : ∀ (i : Nat) s, i < n → o[i]? = some s → ∀ x, some x ∈ succ s → x ∈ o) : ∀ s ∈ f, ∀ x, some x ∈ succ s → x ∈ f := by
  induction h with
  | done =>
    intro s hs
    obtain ⟨i, hi⟩ := List.getElem?_of_mem hs
    exact h0 i s (List.getElem?_eq_some_iff.mp hi).1 hi
  | @step o n s f e _ ih =>
    refine ih fun i s' hi hs' x hx => ?_
    have hol : n < o.length := (List.getElem?_eq_some_iff.mp e).1
    have hio : i < o.length := by omega
    have pf := visit_pre o (succ s)
    have hs2 : o[i]? = some s' := by
      have h1 := pre_get pf (List.getElem?_eq_getElem hio)
      rw [h1] at hs'
      rw [List.getElem?_eq_getElem hio]
      exact hs'
    by_cases hin : i = n
    · subst hin
      rw [e] at hs2
      cases hs2
      exact visit_mem.mpr (.inr hx)
    · exact visit_mem.mpr (.inl (h0 i s' (by omega) hs2 x hx))
theorem Bfs.nodup {succ : σ → List (Option σ)} {o : List σ} {n : Nat} {f : List σ} (h : Bfs succ o n f) (h0 : o.Nodup) : f.Nodup := by
  induction h with
  | done => exact h0
  | step _ _ ih => exact ih (visit_nodup h0)
theorem Bfs.mem {succ : σ → List (Option σ)} {b : σ} {f : List σ} (h : Bfs succ [b] 0 f) : ∀ s ∈ f, ∀ x, some x ∈ succ s → x ∈ f := h.closed fun i s hi => absurd hi (Nat.not_lt_zero _)
/-- where x stands -/
def ix (o : List σ) (x : σ) : Nat := o.idxOf x
theorem ix_pre {o f : List σ} {x : σ} (p : o <+: f) (h : x ∈ o) : ix o x = ix f x := by
  obtain ⟨t, rfl⟩ := p
  unfold ix
  rw [List.idxOf_append, if_pos h]
theorem ix_get {o : List σ} {x : σ} (h : x ∈ o) : o[ix o x]? = some x := by
  unfold ix
  rw [List.getElem?_eq_getElem (List.idxOf_lt_length_of_mem h), List.getElem_idxOf]
theorem ix_lt {o : List σ} {x : σ} (h : x ∈ o) : ix o x < o.length := List.idxOf_lt_length_of_mem h
theorem ix_of_get {o : List σ} {x : σ} {k : Nat} (nd : o.Nodup) (h : o[k]? = some x) : ix o x = k := by
  have hm := List.mem_of_getElem? h
  have hk := (List.getElem?_eq_some_iff.mp h).1
  exact (List.getElem?_inj (ix_lt hm) nd).mp ((ix_get hm).trans h.symm)
theorem ix_new {o : List σ} {x : σ} (h : x ∉ o) : ix (o ++ [x]) x = o.length := by
  unfold ix
  rw [List.idxOf_append, if_neg h]
  simp
theorem ix_inj {o : List σ} {x y : σ} (hx : x ∈ o) (hy : y ∈ o) (e : ix o x = ix o y) : x = y := by
  have h1 := ix_get hx
  rw [e, ix_get hy] at h1
  exact (Option.some.inj h1).symm
/-- a row's things told by their places -/
def toRow (o : List σ) (bs : List (Option σ)) : List (Option Nat) := bs.map (Option.map (ix o))
/-- the table of an order -/
def tabOf (succ : σ → List (Option σ)) (o : List σ) : List (List (Option Nat)) := o.map fun s => toRow o (succ s)
/-- the things that differ, in the order in which they come first -/
def uniq (l : List σ) : List σ := visit [] (l.map some)
end
abbrev Rows := List (List (Option Nat))
/-- the row of a state -/
def rowAt (rows : Rows) (s : Nat) : List (Option Nat) := rows.getD s []
def signOf (rows : Rows) (found : List Nat) (n : Nat) : Nat × List (Option Nat) := (found.getD n 0, (rowAt rows n).map (Option.map fun k => found.getD k 0))
def signsOf (rows : Rows) (found : List Nat) : List (Nat × List (Option Nat)) := (List.range rows.length).map (signOf rows found)
/-- the classes behind one round -/
def regroup (rows : Rows) (found : List Nat) : List Nat := (signsOf rows found).map (ix (uniq (signsOf rows found)))
def groups (rows : Rows) (found : List Nat) : Nat := (uniq (signsOf rows found)).length
/-- the rounds end with the classes f, n rounds at most -/
inductive Cls (rows : Rows) : Nat → List Nat → Nat → List Nat → Prop
  | done {n : Nat} {found : List Nat} {many : Nat} : groups rows found = many → Cls rows n found many (regroup rows found)
  | step {n : Nat} {found : List Nat} {many : Nat} {f : List Nat} : groups rows found ≠ many → Cls rows n (regroup rows found) (groups rows found) f → Cls rows (n + 1) found many f
/-- the table of the classes -/
def joinedOf (rows : Rows) (cls : List Nat) : Rows := (List.range (uniq cls).length).map fun c => (rowAt rows (ix cls c)).map (Option.map fun k => cls.getD k 0)
/-- well formed -/
structure RowsOk (w : Nat) (rows : Rows) : Prop where
  pos : 1 ≤ rows.length
  wide : ∀ r ∈ rows, r.length = w
  to : ∀ r ∈ rows, ∀ k, some k ∈ r → k < rows.length
/-- renumbered in the order in which the states are met -/
def Renum (rows out : Rows) : Prop := ∃ o, Bfs (rowAt rows) [0] 0 o ∧ out = tabOf (rowAt rows) o
def Least (rows out : Rows) : Prop := ∃ n f, Cls rows n (List.replicate rows.length 0) 0 f ∧ Renum (joinedOf rows f) out
theorem RowsOk.row {w : Nat} {rows : Rows} (h : RowsOk w rows) {s : Nat} (hs : s < rows.length) : rows[s]? = some (rowAt rows s) ∧ (rowAt rows s).length = w ∧ ∀ k, some k ∈ rowAt rows s → k < rows.length := by
  have e : rows[s]? = some (rowAt rows s) := by
    unfold rowAt
    rw [List.getD_eq_getElem?_getD, List.getElem?_eq_getElem hs]
    rfl
  have m := List.mem_of_getElem? e
  exact ⟨e, h.wide _ m, h.to _ m⟩
/-- every state met is one of the table's -/
theorem Bfs.lt {w : Nat} {rows : Rows} (h : RowsOk w rows) : ∀ {o : List Nat} {n : Nat} {f : List Nat}, Bfs (rowAt rows) o n f → (∀ x ∈ o, x < rows.length) → ∀ x ∈ f, x < rows.length := by
  intro o n f b
  induction b with
  | done => exact fun h => h
  | step e _ ih =>
    intro ho
    refine ih fun x hx => ?_
    rcases visit_mem.mp hx with hx | hx
    · exact ho x hx
    · exact (h.row (ho _ (List.mem_of_getElem? e))).2.2 x hx
end MR
namespace MR
open PySem
section
variable {σ τ : Type} [DecidableEq σ] [DecidableEq τ]
theorem nodup_le : ∀ (U : List σ) {l : List σ}, l.Nodup → (∀ x ∈ l, x ∈ U) → l.length ≤ U.length
  | [], l, _, h => by
    cases l with
    | nil => exact Nat.le_refl _
    | cons x l => exact absurd (h x List.mem_cons_self) (by simp)
  | u :: U, l, nd, h => by
    have h1 : (l.erase u).length ≤ U.length := nodup_le U (nd.erase u) fun x hx => by
      have h2 := (nd.mem_erase_iff).mp hx
      rcases List.mem_cons.mp (h x h2.2) with e | e
      · exact absurd e h2.1
      · exact e
    have h2 : l.length ≤ (l.erase u).length + 1 := by
      rw [List.length_erase]
      split <;> omega
    rw [List.length_cons]
    omega
theorem nodup_lt {n : Nat} {l : List Nat} (nd : l.Nodup) (h : ∀ x ∈ l, x < n) : l.length ≤ n := by
  have := nodup_le (List.range n) nd fun x hx => List.mem_range.mpr (h x hx)
  rwa [List.length_range] at this
theorem uniq_nodup (l : List σ) : (uniq l).Nodup := visit_nodup List.nodup_nil
theorem uniq_mem {l : List σ} {x : σ} : x ∈ uniq l ↔ x ∈ l := by
  unfold uniq
  rw [visit_mem]
  simp
theorem visit_map {g : σ → τ} {o : List σ} {bs : List (Option σ)} (inj : ∀ x y, (x ∈ o ∨ some x ∈ bs) → (y ∈ o ∨ some y ∈ bs) → g x = g y → x = y) : visit (o.map g) (bs.map (Option.map g)) = (visit o bs).map g := by
  induction bs generalizing o with
  | nil => rfl
  | cons b bs ih =>
    cases b with
    | none => exact ih fun x y hx hy => inj x y (hx.imp_right (List.mem_cons_of_mem _)) (hy.imp_right (List.mem_cons_of_mem _))
    | some x =>
      have e : g x ∈ o.map g ↔ x ∈ o := by
        constructor
        · intro h
          obtain ⟨y, hy, e⟩ := List.mem_map.mp h
          rw [inj x y (.inr List.mem_cons_self) (.inl hy) e.symm]
          exact hy
        · exact fun h => List.mem_map.mpr ⟨x, h, rfl⟩
      show (if g x ∈ o.map g then visit (o.map g) (bs.map (Option.map g)) else visit (o.map g ++ [g x]) (bs.map (Option.map g))) = (if x ∈ o then visit o bs else visit (o ++ [x]) bs).map g
      by_cases h : x ∈ o
      · rw [if_pos h, if_pos (e.mpr h)]
        exact ih fun x y hx hy => inj x y (hx.imp_right (List.mem_cons_of_mem _)) (hy.imp_right (List.mem_cons_of_mem _))
      · rw [if_neg h, if_neg (fun z => h (e.mp z))]
        have : o.map g ++ [g x] = (o ++ [x]).map g := by rw [List.map_append]; rfl
        rw [this]
        refine ih fun x' y hx hy => inj x' y ?_ ?_
        · rcases hx with hx | hx
          · rcases List.mem_append.mp hx with hx | hx
            · exact .inl hx
            · rw [List.mem_singleton.mp hx]; exact .inr List.mem_cons_self
          · exact .inr (List.mem_cons_of_mem _ hx)
        · rcases hy with hy | hy
          · rcases List.mem_append.mp hy with hy | hy
            · exact .inl hy
            · rw [List.mem_singleton.mp hy]; exact .inr List.mem_cons_self
          · exact .inr (List.mem_cons_of_mem _ hy)
theorem map_ix {o : List σ} (nd : o.Nodup) : o.map (ix o) = List.range o.length := by
  refine List.ext_getElem? fun i => ?_
  rw [List.getElem?_map]
  by_cases hi : i < o.length
  · rw [List.getElem?_eq_getElem hi, List.getElem?_range hi]
    exact congrArg some (ix_of_get nd (List.getElem?_eq_getElem hi))
  · rw [List.getElem?_eq_none (by omega), List.getElem?_eq_none (by rw [List.length_range]; omega)]
    rfl
/-- the places of a list's things among those that differ, told anew, are 0, 1, .. -/
theorem uniq_ix (l : List σ) : uniq (l.map (ix (uniq l))) = List.range (uniq l).length := by
  have h : uniq (l.map (ix (uniq l))) = (uniq l).map (ix (uniq l)) := by
    have e : (l.map (ix (uniq l))).map some = (l.map some).map (Option.map (ix (uniq l))) := by rw [List.map_map, List.map_map]; rfl
    show visit ([] : List Nat) ((l.map (ix (uniq l))).map some) = (visit [] (l.map some)).map (ix (uniq l))
    rw [e]
    refine visit_map (o := []) fun x y hx hy e => ?_
    have hm : ∀ z, (z ∈ ([] : List σ) ∨ some z ∈ l.map some) → z ∈ uniq l := fun z hz => uniq_mem.mpr (by rcases hz with hz | hz; cases hz; simpa using hz)
    exact ix_inj (hm x hx) (hm y hy) e
  rw [h, map_ix (uniq_nodup l)]
end
theorem Cls.form {R : Rows} {n : Nat} {found : List Nat} {many : Nat} {f : List Nat} (h : Cls R n found many f) : ∃ g, f = regroup R g := by
  induction h with
  | done => exact ⟨_, rfl⟩
  | step _ _ ih => exact ih
theorem regroup_len (R : Rows) (g : List Nat) : (regroup R g).length = R.length := by
  unfold regroup signsOf
  rw [List.length_map, List.length_map, List.length_range]
theorem regroup_uniq (R : Rows) (g : List Nat) : uniq (regroup R g) = List.range (groups R g) := uniq_ix _
theorem regroup_lt {R : Rows} {g : List Nat} {x : Nat} (h : x ∈ regroup R g) : x < (uniq (regroup R g)).length := by
  have := uniq_mem.mpr h
  rw [regroup_uniq, List.mem_range] at this
  rw [regroup_uniq, List.length_range]
  exact this
theorem regroup_mem {R : Rows} {g : List Nat} {c : Nat} (h : c < (uniq (regroup R g)).length) : c ∈ regroup R g := by
  rw [regroup_uniq, List.length_range] at h
  refine uniq_mem.mp ?_
  rw [regroup_uniq]
  exact List.mem_range.mpr h
theorem groups_le (R : Rows) (g : List Nat) : groups R g ≤ R.length := by
  have h : (uniq (signsOf R g)).length ≤ (signsOf R g).length := nodup_le _ (uniq_nodup _) fun x hx => uniq_mem.mp hx
  have e : (signsOf R g).length = R.length := by unfold signsOf; rw [List.length_map, List.length_range]
  unfold groups
  omega
theorem getD_mem {l : List Nat} {k : Nat} (h : k < l.length) : l.getD k 0 ∈ l := by
  rw [List.getD_eq_getElem?_getD, List.getElem?_eq_getElem h]
  exact List.getElem_mem h
theorem joined_ok {w : Nat} {R : Rows} (hR : RowsOk w R) (g : List Nat) : RowsOk w (joinedOf R (regroup R g)) := by
  have hl := regroup_len R g
  have hu : (uniq (regroup R g)).length = groups R g := by rw [regroup_uniq, List.length_range]
  have lenJ : (joinedOf R (regroup R g)).length = groups R g := by unfold joinedOf; rw [List.length_map, List.length_range, hu]
  have row : ∀ r ∈ joinedOf R (regroup R g), ∃ s, s < R.length ∧ r = (rowAt R s).map (Option.map fun k => (regroup R g).getD k 0) := fun r hr => by
    unfold joinedOf at hr
    obtain ⟨c, hc, rfl⟩ := List.mem_map.mp hr
    exact ⟨_, by rw [← hl]; exact ix_lt (regroup_mem (List.mem_range.mp hc)), rfl⟩
  constructor
  · rw [lenJ]
    have : (0 : Nat) < (regroup R g).length := by rw [hl]; exact hR.pos
    have h0 := regroup_lt (getD_mem this)
    rw [hu] at h0
    omega
  · intro r hr
    obtain ⟨s, hs, rfl⟩ := row r hr
    rw [List.length_map]
    exact (hR.row hs).2.1
  · intro r hr k hk
    obtain ⟨s, hs, rfl⟩ := row r hr
    obtain ⟨o, ho, e⟩ := List.mem_map.mp hk
    cases o with
    | none => cases e
    | some j =>
      have hj := (hR.row hs).2.2 j ho
      have e : (regroup R g).getD j 0 = k := Option.some.inj e
      rw [← e, lenJ, ← hu]
      exact regroup_lt (getD_mem (by rw [hl]; exact hj))
theorem joined_len {R : Rows} (g : List Nat) : (joinedOf R (regroup R g)).length ≤ R.length := by
  unfold joinedOf
  rw [List.length_map, List.length_range, regroup_uniq, List.length_range]
  exact groups_le R g
/-- a search over a table is short -/
theorem Bfs.short {w : Nat} {R : Rows} (hR : RowsOk w R) {o : List Nat} (h : Bfs (rowAt R) [0] 0 o) : o.length ≤ R.length :=
  nodup_lt (h.nodup (by simp)) (h.lt hR fun x hx => by rw [List.mem_singleton.mp hx]; exact hR.pos)
end MR
namespace MR
open PySem PySem.Spec PyProof.Rows L2
/-- where a def of the text stands -/
structure FunT (G : GC) (i : Nat) (x : Str) (ps : List Str) : Prop where
  ex : ∃ f fd, G.mg x = some (.ref f) ∧ Fun G.K x x (topS i) f fd ∧ Binds G.K fd ps []
section
variable {G : GC}
theorem mk_def {k i : Nat} {x : Str} {N ps : List Str} {R : Rel G} (F : FunT G i x ps) (S : FnScope N ps (defScope (topS i))) (hR : ∀ pvs r, R pvs r → pvs.length = ps.length)
    (body : ∀ (pvs : List (PV G)) (r : PV G), R pvs r → ∀ (f : Addr) (cd : Value) (A : Around) (outer : List Env) (s : Shared) (H : Hp) (E : XK) (hr : Room k (A.deeper (envOfC x (defScope (topS i)) s.heap.objs.size f cd))),
      StD (bodyL G k N x (topS i) f cd A outer s H E S.nd hr) ⟨startS N pvs, []⟩ (defBody (topS i)) { nx := fun _ => ∀ B, r.p B .non, rt := fun p _ => p = r }) : FnD G (k + 1) x ps R := by
  obtain ⟨f, fd, h1, h2, h3⟩ := F.ex
  exact fnd_mk h1 h2.kp h2 h3 S hR body
theorem fnd_vac {i : Nat} {x : Str} {ps : List Str} {R : Rel G} (F : FunT G i x ps) (h : ∀ pvs r, ¬ R pvs r) : FnD G 0 x ps R := by
  obtain ⟨f, fd, h1, h2, h3⟩ := F.ex
  exact ⟨f, fd, h1, h2.kp, h3, ⟨fun vs H Q E ⟨_, B, pvs, r, _, hr, _⟩ => (h pvs r hr).elim, fun A outer s H args us vs Q E _ _ _ _ ⟨_, B, pvs, r, _, hr, _⟩ => (h pvs r hr).elim⟩⟩
theorem scIsWhole : FnScope ["thing"] ["thing"] (defScope (topS 8)) := ⟨rfl, rfl, rfl, by decide +kernel, rfl, by decide +kernel, by decide +kernel⟩
def RIsWhole (G : GC) : Rel G := fun ps r => ∃ i : Int, ps = [dat (.int i)] ∧ r = dat (.bool true)
theorem fn_is_whole (B : Bs G) (F : FunT G 8 "is_whole" ["thing"]) : FnD G 1 "is_whole" ["thing"] (RIsWhole G) := by
  refine mk_def (k := 0) F scIsWhole (fun pvs r ⟨i, h, _⟩ => by rw [h]; rfl) fun pvs r ⟨i, h1, h2⟩ f cd A outer s H E hr => ?_
  subst h1 h2
  exact s_cons (s1_ret (e_and (e_isI B (e_var 0)) fun _ => e_one (e_not (e_isB B (e_var 0)))) rfl)
theorem scIsWithin : FnScope ["thing", "least", "most"] ["thing", "least", "most"] (defScope (topS 9)) := ⟨rfl, rfl, rfl, by decide +kernel, rfl, by decide +kernel, by decide +kernel⟩
def RIsWithin (G : GC) : Rel G := fun ps r => ∃ i l m : Int, ps = [dat (.int i), dat (.int l), dat (.int m)] ∧ r = dat (.bool (decide (l ≤ i) && decide (i ≤ m)))
theorem fn_is_within (B : Bs G) (F : FunT G 9 "is_within" ["thing", "least", "most"]) (D : FnD G 1 "is_whole" ["thing"] (RIsWhole G)) : FnD G 2 "is_within" ["thing", "least", "most"] (RIsWithin G) := by
  refine mk_def (k := 1) F scIsWithin (fun pvs r ⟨i, l, m, h, _⟩ => by rw [h]; rfl) fun pvs r ⟨i, l, m, h1, h2⟩ f cd A outer s H E hr => ?_
  subst h1 h2
  exact s_cons (s1_ret (e_and (e_call D (Nat.le_refl _) (a_cons (e_var 0) a_nil) ⟨_, rfl, rfl⟩) fun _ => e_one (e_chain c_le c_le (e_var 1) (e_var 0) fun _ => e_var 2)) rfl)
end
end MR
namespace MR
open PySem PySem.Spec PyProof.Rows L2
section
variable {G : GC}
theorem at0 {α : Type} {x : α} {l : List α} : atI (x :: l) 0 = some x := atI_nat (j := 0) rfl
theorem at1 {α : Type} {x y : α} {l : List α} : atI (x :: y :: l) 1 = some y := atI_nat (j := 1) rfl
theorem at2 {α : Type} {x y z : α} {l : List α} : atI (x :: y :: z :: l) 2 = some z := atI_nat (j := 2) rfl
theorem at3 {α : Type} {x y z w : α} {l : List α} : atI (x :: y :: z :: w :: l) 3 = some w := atI_nat (j := 3) rfl
/-! is_so_by -/
theorem scSo : FnScope ["saying", "beat", "first", "second"] ["saying", "beat"] (defScope (topS 19)) := ⟨rfl, rfl, rfl, by decide +kernel, rfl, by decide +kernel, by decide +kernel⟩
def RSo (G : GC) (n : Nat) : Rel G := fun ps r => ∃ (s : Say) (b : Beat), s.depth ≤ n ∧ ps = [dat s.enc, dat (beatD b)] ∧ r = dat (.bool (s.so b))
theorem fn_so_step {n : Nat} (B : Bs G) (F : FunT G 19 "is_so_by" ["saying", "beat"]) (D : FnD G n "is_so_by" ["saying", "beat"] (RSo G n)) : FnD G (n + 1) "is_so_by" ["saying", "beat"] (RSo G (n + 1)) := by
  refine mk_def (k := n) F scSo (fun pvs r ⟨_, _, _, h, _⟩ => by rw [h]; rfl) fun pvs r ⟨s, b, hd, h1, h2⟩ f cd A outer s' H E hr => ?_
  subst h1 h2
  cases s with
  | inn w =>
    refine s_cons (s1_if (EvT.cast (t_cmp (c_inT rfl rfl) (e_ix (x_tup at0) (e_var 0) e_int) (e_tup (ds := [.str "in", .str "out"]) (a_cons e_str (a_cons e_str a_nil)))) (show _ = true by decide +kernel)) (fun _ => ?_) (fun h => nomatch h))
    exact s_cons (s1_ret (e_cmp c_eqS (e_ix (x_tup (i := 0) at0) (e_var 1) (EvD.cI (e_intB B (e_cmp c_eqS (e_ix (x_tup at0) (e_var 0) e_int) e_str)) (by decide +kernel))) (e_ix (x_tup at1) (e_var 0) e_int)) rfl)
  | out w =>
    refine s_cons (s1_if (EvT.cast (t_cmp (c_inT rfl rfl) (e_ix (x_tup at0) (e_var 0) e_int) (e_tup (ds := [.str "in", .str "out"]) (a_cons e_str (a_cons e_str a_nil)))) (show _ = true by decide +kernel)) (fun _ => ?_) (fun h => nomatch h))
    exact s_cons (s1_ret (e_cmp c_eqS (e_ix (x_tup (i := 1) at1) (e_var 1) (EvD.cI (e_intB B (e_cmp c_eqS (e_ix (x_tup at0) (e_var 0) e_int) e_str)) (by decide +kernel))) (e_ix (x_tup at1) (e_var 0) e_int)) rfl)
  | not s =>
    refine s_cons (s1_if (EvT.cast (t_cmp (c_inT rfl rfl) (e_ix (x_tup at0) (e_var 0) e_int) (e_tup (ds := [.str "in", .str "out"]) (a_cons e_str (a_cons e_str a_nil)))) (show _ = false by decide +kernel)) (fun h => nomatch h) (fun _ => s_nil ?_))
    refine s_cons (s1_if (EvT.cast (t_cmp c_eqS (e_ix (x_tup at0) (e_var 0) e_int) e_str) (show _ = true by decide +kernel)) (fun _ => ?_) (fun h => nomatch h))
    exact s_cons (s1_ret (e_not (e_call D (Nat.le_refl _) (a_cons (e_ix (x_tup at1) (e_var 0) e_int) (a_cons (e_var 1) a_nil)) ⟨s, b, Nat.le_of_succ_le_succ hd, rfl, rfl⟩)) rfl)
  | and s t =>
    have hs : s.depth ≤ n ∧ t.depth ≤ n := by have := hd; simp only [Say.depth] at this; omega
    refine s_cons (s1_if (EvT.cast (t_cmp (c_inT rfl rfl) (e_ix (x_tup at0) (e_var 0) e_int) (e_tup (ds := [.str "in", .str "out"]) (a_cons e_str (a_cons e_str a_nil)))) (show _ = false by decide +kernel)) (fun h => nomatch h) (fun _ => s_nil ?_))
    refine s_cons (s1_if (EvT.cast (t_cmp c_eqS (e_ix (x_tup at0) (e_var 0) e_int) e_str) (show _ = false by decide +kernel)) (fun h => nomatch h) (fun _ => s_nil ?_))
    refine s_cons (s1_par2 2 3 (e_call D (Nat.le_refl _) (a_cons (e_ix (x_tup at1) (e_var 0) e_int) (a_cons (e_var 1) a_nil)) ⟨s, b, hs.1, rfl, rfl⟩) (e_call D (Nat.le_refl _) (a_cons (e_ix (x_tup at2) (e_var 0) e_int) (a_cons (e_var 1) a_nil)) ⟨t, b, hs.2, rfl, rfl⟩) ?_)
    exact s_cons (s1_ret (e_if (EvT.cast (t_cmp c_eqS (e_ix (x_tup at0) (e_var 0) e_int) e_str) (show _ = true by decide +kernel)) (fun _ => e_and (e_var 2) fun _ => e_one (e_var 3)) (fun h => nomatch h)) rfl)
  | or s t =>
    have hs : s.depth ≤ n ∧ t.depth ≤ n := by have := hd; simp only [Say.depth] at this; omega
    refine s_cons (s1_if (EvT.cast (t_cmp (c_inT rfl rfl) (e_ix (x_tup at0) (e_var 0) e_int) (e_tup (ds := [.str "in", .str "out"]) (a_cons e_str (a_cons e_str a_nil)))) (show _ = false by decide +kernel)) (fun h => nomatch h) (fun _ => s_nil ?_))
    refine s_cons (s1_if (EvT.cast (t_cmp c_eqS (e_ix (x_tup at0) (e_var 0) e_int) e_str) (show _ = false by decide +kernel)) (fun h => nomatch h) (fun _ => s_nil ?_))
    refine s_cons (s1_par2 2 3 (e_call D (Nat.le_refl _) (a_cons (e_ix (x_tup at1) (e_var 0) e_int) (a_cons (e_var 1) a_nil)) ⟨s, b, hs.1, rfl, rfl⟩) (e_call D (Nat.le_refl _) (a_cons (e_ix (x_tup at2) (e_var 0) e_int) (a_cons (e_var 1) a_nil)) ⟨t, b, hs.2, rfl, rfl⟩) ?_)
    exact s_cons (s1_ret (e_if (EvT.cast (t_cmp c_eqS (e_ix (x_tup at0) (e_var 0) e_int) e_str) (show _ = false by decide +kernel)) (fun h => nomatch h) (fun _ => e_or (e_var 2) fun _ => e_one (e_var 3))) rfl)
theorem fn_so (B : Bs G) (F : FunT G 19 "is_so_by" ["saying", "beat"]) : ∀ n, FnD G n "is_so_by" ["saying", "beat"] (RSo G n)
  | 0 => fnd_vac F fun pvs r ⟨s, b, h, _⟩ => by have := s.depth_pos; omega
  | n + 1 => fn_so_step B F (fn_so B F n)
end
end MR
/-! T3: words, letters, sayings. -/
namespace MR
open PySem PySem.Spec PyProof.Rows L2
/-- the module's constants -/
def kindTab : Str → Option (Nat × Nat) := fun x =>
  if x = "never" then some (1, 0) else if x = "after" then some (2, 0) else if x = "until" then some (3, 0) else if x = "within" then some (2, 1) else if x = "first" then some (2, 0) else if x = "most" then some (1, 1) else if x = "apart" then some (1, 1) else none
structure Cs (G : GC) : Prop where
  small : ∃ t, G.mg "SMALL" = some (.str "abcdefghijklmnopqrstuvwxyz" t)
  letters : ∃ t, G.mg "MOST_LETTERS" = some (.int 3 t)
  depth : ∃ t, G.mg "MOST_DEPTH" = some (.int 4 t)
  number : ∃ t, G.mg "MOST_NUMBER_sentences" = some (.int 6 t)
  range : ∃ t, G.mg "MOST_RANGE" = some (.int 3 t)
  clauses : ∃ t, G.mg "MOST_CLAUSES" = some (.int 8 t)
  clause : ∃ t, G.mg "MOST_NUMBER_standards" = some (.int 99 t)
  standings : ∃ t, G.mg "MOST_STANDINGS" = some (.int 60 t)
  rstandings : ∃ t, G.mg "MOST_RANGE_STANDINGS" = some (.int 4 t)
  kinds : ∃ a es n, G.mg "KINDS" = some (.ref a) ∧ KDict G.K G.w a es n ∧ ∀ x s k, kindTab x = some (s, k) → ∃ u0 v0, PySem.W.nsIn G.K a x = some (some u0) ∧ RelV v0 u0 ∧ ∀ H, Dp G.K H v0 (.tuple [.int (s : Nat), .int (k : Nat)])
  begin_ : ∃ v u, G.mg "BEGIN" = some u ∧ RelV v u ∧ ∀ H, Dp G.K H v (.tuple [.int 0, .int 0])
section
variable {G : GC} {L : LC G} {ρ : Rho G} {pos : Pos}
theorem e_cint {x : Str} {i : Int} (h : ∃ t, G.mg x = some (.int i t)) (hg : Gl L.X x := by rfl) (hd : (x == ("__debug__" : Str)) = false := by decide) : EvD L ρ (.Name x pos) (dat (.int i)) := by
  obtain ⟨t, h⟩ := h
  exact e_glob (v := .int i) h ⟨t, rfl⟩ (fun B => .int i) hg hd
theorem e_cstr {x y : Str} (h : ∃ t, G.mg x = some (.str y t)) (hg : Gl L.X x := by rfl) (hd : (x == ("__debug__" : Str)) = false := by decide) : EvD L ρ (.Name x pos) (dat (.str y)) := by
  obtain ⟨t, h⟩ := h
  exact e_glob (v := .str y) h ⟨t, rfl⟩ (fun B => .str y) hg hd
theorem sm_in : ∀ c : Nat, 97 ≤ c → c ≤ 122 → (!(Builtin.Str.occurrences "abcdefghijklmnopqrstuvwxyz" ⟨#[c]⟩ 0 (Str.length "abcdefghijklmnopqrstuvwxyz") 1).isEmpty) = true := by
  have h : ∀ i : Fin 26, (!(Builtin.Str.occurrences "abcdefghijklmnopqrstuvwxyz" ⟨#[97 + i.1]⟩ 0 (Str.length "abcdefghijklmnopqrstuvwxyz") 1).isEmpty) = true := by decide +kernel
  intro c h1 h2
  have := h ⟨c - 97, by omega⟩
  have e : 97 + (c - 97) = c := by omega
  rw [← e]
  exact this
theorem wordB_len {x : Str} (h : wordB x = true) : 1 ≤ x.length ∧ x.length ≤ 8 := by
  unfold wordB at h
  simp only [Bool.and_eq_true, decide_eq_true_eq] at h
  exact h.1
theorem wordB_sign {x : Str} (h : wordB x = true) {k : Nat} {d : PyData} (e : (signsD x)[k]? = some d) : ∃ c, d = .str ⟨#[c]⟩ ∧ 97 ≤ c ∧ c ≤ 122 := by
  unfold wordB at h
  simp only [Bool.and_eq_true, decide_eq_true_eq, List.all_eq_true] at h
  unfold signsD at e
  rw [List.getElem?_map] at e
  cases q : x.cps.toList[k]? with
  | none => rw [q] at e; cases e
  | some c =>
    rw [q] at e
    exact ⟨c, (Option.some.inj e).symm, h.2 c (List.mem_of_getElem? q)⟩
/-! is_word -/
theorem scIsWord : FnScope ["thing", "sign"] ["thing"] (defScope (topS 10)) := ⟨rfl, rfl, rfl, by decide +kernel, rfl, by decide +kernel, by decide +kernel⟩
def RIsWord (G : GC) : Rel G := fun ps r => ∃ x : Str, wordB x = true ∧ ps = [dat (.str x)] ∧ r = dat (.bool true)
theorem fn_is_word (B : Bs G) (C : Cs G) (F : FunT G 10 "is_word" ["thing"]) : FnD G 1 "is_word" ["thing"] (RIsWord G) := by
  refine mk_def (k := 0) F scIsWord (fun pvs r ⟨i, _, h, _⟩ => by rw [h]; rfl) fun pvs r ⟨x, hx, h1, h2⟩ f cd A outer s H E hr => ?_
  subst h1 h2
  obtain ⟨l1, l2⟩ := wordB_len hx
  refine s_cons (s1_ret (EvD.cB (e_and (e_isS B (e_var 0)) fun _ => e_and (e_chain c_le c_le e_int (e_lenS (x := x) B (by omega) (e_var 0)) fun _ => e_int) fun _ => e_one (e_allT B (n := (signsD x).length) (LcR.ev <| lcN (own := [("sign", 1)]) 1 _ (i_str (e_var 0) (by omega)) (blk_body (by decide +kernel)) (by simp) (by simp [signsD]; have : x.cps.size ≤ 8 := l2; omega) fun s H C' cl fp k d g hd hg => ?_))) ?_) rfl)
  · obtain rfl := rep_get hg
    obtain ⟨c, rfl, c1, c2⟩ := wordB_sign hx hd
    exact EvD.cB (e_cmp c_inS (e_var 1) (e_cstr C.small)) (sm_in c c1 c2)
  · have e1 : decide ((1 : Int) ≤ x.length) = true := decide_eq_true (by omega)
    have e2 : decide ((x.length : Int) ≤ 8) = true := decide_eq_true (by omega)
    rw [e1, e2]
    rfl

/-! plain facts of slices, of in -/
theorem cut_from (ds : List PyData) (k : Nat) (h : k ≤ ds.length) : cutD ds (some (k : Int)) none = ds.drop k := by
  unfold cutD
  rw [HT.sIx_nat, HT.sIx_none, Nat.min_eq_left h]
  exact List.take_of_length_le (by rw [List.length_drop]; omega)
theorem cut_mid (ds : List PyData) (k m : Nat) (h : k ≤ m) (h2 : m ≤ ds.length) : cutD ds (some (k : Int)) (some (m : Int)) = (ds.drop k).take (m - k) := by
  unfold cutD
  rw [HT.sIx_nat, HT.sIx_nat, Nat.min_eq_left h2, Nat.min_eq_left (Nat.le_trans h h2)]
theorem cut_to (ds : List PyData) (m : Nat) (h2 : m ≤ ds.length) : cutD ds none (some (m : Int)) = ds.take m := by
  unfold cutD
  rw [HT.sIx_none, HT.sIx_nat, Nat.min_eq_left h2, List.drop_zero, Nat.sub_zero]
theorem inD_str (w : Str) (l : List Str) : inD (.str w) (l.map PyData.str) = decide (w ∈ l) := by
  unfold inD inV
  induction l with
  | nil => rfl
  | cons x l ih =>
    rw [List.map_cons, List.map_cons, List.any_cons, ih]
    have e : L2.eqV (vOf (.str x)) (vOf (.str w)) = decide (x = w) := by
      show L2.eqV (.str x) (.str w) = _
      unfold L2.eqV
      first | rfl | (by_cases h : x = w <;> simp [h])
    rw [e]
    by_cases h : x = w
    · subst h; simp
    · have h' : ¬ w = x := fun z => h z.symm
      simp [h, h']
theorem strs_flat (l : List Str) : (l.map PyData.str).all flatD = true := by
  rw [List.all_map]
  exact List.all_eq_true.mpr fun _ _ => rfl
/-! rises -/
theorem scRises : FnScope ["row", "one", "later"] ["row"] (defScope (topS 11)) := ⟨rfl, rfl, rfl, by decide +kernel, rfl, by decide +kernel, by decide +kernel⟩
def riseI (l : List Int) : Prop := ∀ (k : Nat) a b, l[k]? = some a → l[k + 1]? = some b → a < b
def riseS (l : List Str) : Prop := ∀ (k : Nat) a b, l[k]? = some a → l[k + 1]? = some b → a.cps.toList < b.cps.toList
def RRises (G : GC) : Rel G := fun ps r => ((∃ l : List Int, l.length ≤ 1000 ∧ riseI l ∧ ps = [dat (.list (l.map PyData.int))]) ∨ (∃ l : List Str, l.length ≤ 1000 ∧ riseS l ∧ ps = [dat (.tuple (l.map PyData.str))])) ∧ r = dat (.bool true)
theorem fn_rises (B : Bs G) (F : FunT G 11 "rises" ["row"]) : FnD G 1 "rises" ["row"] (RRises G) := by
  refine mk_def (k := 0) F scRises (fun pvs r ⟨h, _⟩ => by rcases h with ⟨_, _, _, h⟩ | ⟨_, _, _, h⟩ <;> (rw [h]; rfl)) fun pvs r ⟨h1, h2⟩ f cd A outer s H E hr => ?_
  subst h2
  rcases h1 with ⟨l, hl, hr2, h1⟩ | ⟨l, hl, hr2, h1⟩
  · subst h1
    have e0 : cutD (l.map PyData.int) (some ((1 : Nat) : Int)) none = (l.drop 1).map PyData.int := by
      cases l with
      | nil => rfl
      | cons x l => rw [cut_from _ 1 (by simp)]; simp
    refine s_cons (s1_ret (e_allT B (n := (zipQ (G := G) (l.map PyData.int) ((l.drop 1).map PyData.int)).length) (LcR.ev <| lcP (own := [("one", 1), ("later", 2)]) 1 2 _ (ItD.cast (i_zipL B.zip (e_var 0) (EvD.cast (e_slL (e_var 0) (o_some e_int) o_none) (congrArg PyData.list e0))) (zipQ_eq _ _)) (blk_body (by decide +kernel)) (by simp) (by rw [zipQ_len]; simp; omega) fun s H C' cl fp k q g hq hg => ?_)) rfl)
    obtain rfl := rep_get hg
    obtain ⟨d, e, h1, h2, rfl⟩ := zipQ_get hq
    rw [List.getElem?_map] at h1 h2
    cases q1 : l[k]? with
    | none => rw [q1] at h1; cases h1
    | some a =>
      cases q2 : (l.drop 1)[k]? with
      | none => rw [q2] at h2; cases h2
      | some b =>
        rw [q1] at h1
        rw [q2] at h2
        have h1 := Option.some.inj h1
        have h2 := Option.some.inj h2
        subst h1 h2
        refine EvD.cB (e_cmp c_lt (e_var 1) (e_var 2)) (decide_eq_true (hr2 k a b q1 ?_))
        rw [List.getElem?_drop] at q2
        rw [Nat.add_comm]; exact q2
  · subst h1
    have e0 : cutD (l.map PyData.str) (some ((1 : Nat) : Int)) none = (l.drop 1).map PyData.str := by
      cases l with
      | nil => rfl
      | cons x l => rw [cut_from _ 1 (by simp)]; simp
    refine s_cons (s1_ret (e_allT B (n := (zipQ (G := G) (l.map PyData.str) ((l.drop 1).map PyData.str)).length) (LcR.ev <| lcP (own := [("one", 1), ("later", 2)]) 1 2 _ (ItD.cast (i_zipT B.zip (e_var 0) (EvD.cast (e_slT (e_var 0) (o_some e_int) o_none) (congrArg PyData.tuple e0))) (zipQ_eq _ _)) (blk_body (by decide +kernel)) (by simp) (by rw [zipQ_len]; simp; omega) fun s H C' cl fp k q g hq hg => ?_)) rfl)
    obtain rfl := rep_get hg
    obtain ⟨d, e, h1, h2, rfl⟩ := zipQ_get hq
    rw [List.getElem?_map] at h1 h2
    cases q1 : l[k]? with
    | none => rw [q1] at h1; cases h1
    | some a =>
      cases q2 : (l.drop 1)[k]? with
      | none => rw [q2] at h2; cases h2
      | some b =>
        rw [q1] at h1
        rw [q2] at h2
        have h1 := Option.some.inj h1
        have h2 := Option.some.inj h2
        subst h1 h2
        refine EvD.cB (e_cmp c_ltS (e_var 1) (e_var 2)) (decide_eq_true (hr2 k a b q1 ?_))
        rw [List.getElem?_drop] at q2
        rw [Nat.add_comm]; exact q2
/-! are_words -/
theorem scAreWords : FnScope ["thing", "one", "word"] ["thing"] (defScope (topS 15)) := ⟨rfl, rfl, rfl, by decide +kernel, rfl, by decide +kernel, by decide +kernel⟩
structure WordsOk (l : List Str) : Prop where
  n1 : 1 ≤ l.length
  n3 : l.length ≤ 3
  w : ∀ x ∈ l, wordB x = true
  nd : l.Nodup
def RAreWords (G : GC) : Rel G := fun ps r => ∃ l : List Str, WordsOk l ∧ ps = [dat (strsD l)] ∧ r = dat (.bool true)
theorem fn_are_words (B : Bs G) (C : Cs G) (F : FunT G 15 "are_words" ["thing"]) (D : FnD G 1 "is_word" ["thing"] (RIsWord G)) : FnD G 2 "are_words" ["thing"] (RAreWords G) := by
  refine mk_def (k := 1) F scAreWords (fun pvs r ⟨_, _, h, _⟩ => by rw [h]; rfl) fun pvs r ⟨l, hl, h1, h2⟩ f cd A outer s H E hr => ?_
  subst h1 h2
  have e1 : decide ((1 : Int) ≤ (l.map PyData.str).length) = true := decide_eq_true (by rw [List.length_map]; have := hl.n1; omega)
  have e2 : decide (((l.map PyData.str).length : Int) ≤ 3) = true := decide_eq_true (by rw [List.length_map]; have := hl.n3; omega)
  have l3 := hl.n3
  have word : ∀ {k : Nat} {d : PyData}, (l.map PyData.str)[k]? = some d → ∃ x, l[k]? = some x ∧ d = .str x := fun {k d} h => by
    rw [List.getElem?_map] at h
    cases q : l[k]? with
    | none => rw [q] at h; cases h
    | some x => rw [q] at h; exact ⟨x, rfl, (Option.some.inj h).symm⟩
  refine s_cons (s1_if (EvT.cast (t_w (w_or (t_not (t_val (e_isT B (e_var 0)))) fun _ => w_or (t_not (t_chain c_le c_le e_int (e_lenT B (e_var 0)) fun _ => e_cint C.letters)) fun _ => w_or1 (t_not (t_val (e_allT B (n := l.length) (LcR.ev <| lcN (own := [("one", 1)]) 1 _ (i_tup (e_var 0)) (blk_body (by decide +kernel)) (by simp) (by simp; omega) fun s H C' cl fp k d g hd hg => ?_)))))) (show (!true || (!_ || !true)) = false by rw [e1, e2]; rfl)) (fun h => nomatch h) fun _ => s_nil ?_)
  · obtain rfl := rep_get hg
    obtain ⟨x, hx, rfl⟩ := word hd
    exact e_call D (Nat.le_refl _) (a_cons (e_var 1) a_nil) ⟨x, hl.w x (List.mem_of_getElem? hx), rfl, rfl⟩
  · refine s_cons (s1_ret (EvD.cB (e_cmp c_eqI (e_callB1 k_lenSet B.len bt_len (e_scK (own := [("word", 2)]) (is := [2]) (putN 2 ((l.map PyData.str).map dat)) l (i_tup (e_var 0)) (blk_body (by decide +kernel)) (by simp) (by simp; omega) hl.nd (fun j hj => by rw [List.mem_singleton.mp hj]; decide) (fun L' hL' k p hp => ?_) (fun L' hL' k p x hp hx => ?_)) rfl rfl) (e_lenT B (e_var 0))) ?_) rfl)
    · obtain ⟨s, H, C, cl, fp, rfl⟩ := hL'
      exact g_nameN 2 hp rfl (.inl rfl) (.inr rfl)
    · obtain ⟨s, H, C, cl, fp, rfl⟩ := hL'
      obtain ⟨d, hd, e⟩ := dats_get hp
      obtain ⟨y, hy, rfl⟩ := word hd
      rw [hx] at hy
      cases hy
      rw [putN_eq hp, e]
      exact e_var 2
    · simp
/-! is_letters -/
theorem scIsLetters : FnScope ["thing"] ["thing"] (defScope (topS 16)) := ⟨rfl, rfl, rfl, by decide +kernel, rfl, by decide +kernel, by decide +kernel⟩
def RIsLetters (G : GC) : Rel G := fun ps r => ∃ l : Lt, l.Ok ∧ ps = [dat l.enc] ∧ r = dat (.bool true)
theorem fn_is_letters (B : Bs G) (F : FunT G 16 "is_letters" ["thing"]) (D : FnD G 2 "are_words" ["thing"] (RAreWords G)) : FnD G 3 "is_letters" ["thing"] (RIsLetters G) := by
  refine mk_def (k := 2) F scIsLetters (fun pvs r ⟨_, _, h, _⟩ => by rw [h]; rfl) fun pvs r ⟨l, hl, h1, h2⟩ f cd A outer s H E hr => ?_
  subst h1 h2
  exact s_cons (s1_ret (e_and (e_isT B (e_var 0)) fun _ => e_and (EvD.cB (t2 := true) (e_cmp c_eqI (e_lenT B (e_var 0)) e_int) rfl) fun _ => e_and (e_call D (Nat.le_refl _) (a_cons (e_ix (x_tup at0) (e_var 0) e_int) a_nil) ⟨l.ins, ⟨hl.i1, hl.i3, hl.iw, hl.ind⟩, rfl, rfl⟩) fun _ => e_one (e_call D (Nat.le_refl _) (a_cons (e_ix (x_tup at1) (e_var 0) e_int) a_nil) ⟨l.outs, ⟨hl.o1, hl.o3, hl.ow, hl.ond⟩, rfl, rfl⟩)) rfl)
end
end MR
/-! T4: beats, sayings. -/
namespace MR
open PySem PySem.Spec PyProof.Rows L2
section
variable {G : GC} {L : LC G} {ρ : Rho G} {pos : Pos}
def Lt.beats (l : Lt) : List Beat := l.ins.flatMap fun i => l.outs.map fun o => (i, o)
def beatsD (l : Lt) : PyData := .list (l.beats.map beatD)
theorem strs_get {l : List Str} {k : Nat} {d : PyData} (h : (l.map PyData.str)[k]? = some d) : ∃ x, l[k]? = some x ∧ d = .str x := by
  rw [List.getElem?_map] at h
  cases q : l[k]? with
  | none => rw [q] at h; cases h
  | some x => rw [q] at h; exact ⟨x, rfl, (Option.some.inj h).symm⟩
theorem map_get {α β : Type} {f : α → β} {l : List α} {k : Nat} {d : β} (h : (l.map f)[k]? = some d) : ∃ x, l[k]? = some x ∧ d = f x := by
  rw [List.getElem?_map] at h
  cases q : l[k]? with
  | none => rw [q] at h; cases h
  | some x => rw [q] at h; exact ⟨x, rfl, (Option.some.inj h).symm⟩
/-! beats_of -/
theorem scBeats : FnScope ["letters", "given", "told"] ["letters"] (defScope (topS 17)) := ⟨rfl, rfl, rfl, by decide +kernel, rfl, by decide +kernel, by decide +kernel⟩
def RBeats (G : GC) : Rel G := fun ps r => ∃ l : Lt, l.Ok ∧ ps = [dat l.enc] ∧ r = dat (beatsD l)
theorem fn_beats (F : FunT G 17 "beats_of" ["letters"]) : FnD G 1 "beats_of" ["letters"] (RBeats G) := by
  refine mk_def (k := 0) F scBeats (fun pvs r ⟨_, _, h, _⟩ => by rw [h]; rfl) fun pvs r ⟨l, hl, h1, h2⟩ f cd A outer s H E hr => ?_
  subst h1 h2
  have e0 : (l.ins.map fun i => l.outs.map fun o => beatD (i, o)).flatten = l.beats.map beatD := by
    unfold Lt.beats
    rw [List.map_flatMap, List.flatMap_def]
    congr 1
    refine List.map_congr_left fun i _ => ?_
    rw [List.map_map]
    rfl
  have i3 := hl.i3
  have o3 := hl.o3
  refine s_cons (s1_ret (EvD.cast (e_lc2 (own := [("given", 1), ("told", 2)]) (is := [1]) (js := [2]) (vs1 := [2]) (ps := (l.ins.map PyData.str).map dat) (qs := (l.outs.map PyData.str).map dat) (putN 1 ((l.ins.map PyData.str).map dat)) (putN 2 ((l.outs.map PyData.str).map dat)) (l.ins.map fun i => l.outs.map fun o => beatD (i, o))
    (i_tup (e_ix (x_tup at0) (e_var 0) e_int)) (blk_body (by decide +kernel)) (by decide) (by simp) (fun x hx => ?_) ?_ (by decide) (by decide) (fun L' hL' k p hp => ?_) (fun L' hL' k p hp => ?_) (fun L' hL' k p hp => ?_) (fun L' hL' k p x j q d hp hx hq hd => ?_)) (congrArg PyData.list e0)) rfl)
  · obtain ⟨i, _, rfl⟩ := List.mem_map.mp hx
    simp
  · rw [List.length_map, List.length_map, List.length_map, List.length_map]
    exact Nat.le_trans (Nat.mul_le_mul i3 o3) (by decide)
  · obtain ⟨s, H, C, cl, fp, rfl⟩ := hL'
    exact g_nameN 1 hp rfl (.inl rfl) (.inr rfl)
  · obtain ⟨s, H, C, cl, fp, rfl⟩ := hL'
    exact g_nameN 2 hp rfl (.inl rfl) (.inr rfl)
  · obtain ⟨s, H, C, cl, fp, rfl⟩ := hL'
    obtain ⟨d, hd, e⟩ := dats_get hp
    rw [putN_eq hp]
    exact i_tup (e_ix (x_tup at1) (e_var 0) e_int)
  · obtain ⟨s, H, C, cl, fp, rfl⟩ := hL'
    obtain ⟨d1, hd1, e1⟩ := dats_get hp
    obtain ⟨d2, hd2, e2⟩ := dats_get hq
    obtain ⟨w1, hw1, rfl⟩ := strs_get hd1
    obtain ⟨w2, hw2, rfl⟩ := strs_get hd2
    obtain ⟨y1, hy1, rfl⟩ := map_get hx
    obtain ⟨y2, hy2, rfl⟩ := map_get hd
    rw [hw1] at hy1
    cases hy1
    rw [hw2] at hy2
    cases hy2
    rw [putN_eq hp, putN_eq hq, e1, e2]
    exact e_tup (ds := [.str w1, .str w2]) (a_cons (e_var 1) (a_cons (e_var 2) a_nil))
/-! is_saying_by -/
theorem in_and : inD (.str "and") [.str "and", .str "or"] = true := by decide +kernel
theorem in_or : inD (.str "or") [.str "and", .str "or"] = true := by decide +kernel
theorem scSaying : FnScope ["letters", "thing", "depth", "some"] ["letters", "thing", "depth"] (defScope (topS 18)) := ⟨rfl, rfl, rfl, by decide +kernel, rfl, by decide +kernel, by decide +kernel⟩
def RSaying (G : GC) (n : Nat) : Rel G := fun ps r => ∃ (l : Lt) (s : Say) (m : Nat), s.Ok l ∧ s.depth ≤ m ∧ m ≤ n ∧ ps = [dat l.enc, dat s.enc, dat (.int m)] ∧ r = dat (.bool true)
theorem dnz {m : Nat} (h : 1 ≤ m) : decide ((m : Int) = 0) = false := decide_eq_false (by omega)
theorem fn_saying_step {n : Nat} (B : Bs G) (F : FunT G 18 "is_saying_by" ["letters", "thing", "depth"]) (D : FnD G n "is_saying_by" ["letters", "thing", "depth"] (RSaying G n)) : FnD G (n + 1) "is_saying_by" ["letters", "thing", "depth"] (RSaying G (n + 1)) := by
  refine mk_def (k := n) F scSaying (fun pvs r ⟨_, _, _, _, _, _, h, _⟩ => by rw [h]; rfl) fun pvs r ⟨l, s, m, hs, hd, hm, h1, h2⟩ f cd A outer s' H E hr => ?_
  subst h1 h2
  have m1 : 1 ≤ m := Nat.le_trans s.depth_pos hd
  have em : decide ((m : Int) = 0) = false := dnz m1
  have esub : (m : Int) - 1 = ((m - 1 : Nat) : Int) := by omega
  cases s with
  | inn w =>
    have hw : decide (w ∈ l.ins) = true := decide_eq_true hs
    refine s_cons (s1_if (EvT.cast (t_w (w_or (EvT.cast (t_cmp c_eqI (e_var 2) e_int) em) fun _ => w_or (t_not (t_val (e_isT B (e_var 1)))) fun _ => w_or (t_cmp (c_ninT rfl rfl) (e_lenT B (e_var 1)) (e_tup (ds := [.int 2, .int 3]) (a_cons e_int (a_cons e_int a_nil)))) fun _ => w_or1 (t_not (t_val (e_isS B (e_ix (x_tup at0) (e_var 1) e_int)))))) (show _ = false from rfl)) (fun h => nomatch h) fun _ => s_nil ?_)
    refine s_cons (s1_if (EvT.cast (t_cmp (c_inT rfl rfl) (e_ix (x_tup at0) (e_var 1) e_int) (e_tup (ds := [.str "in", .str "out"]) (a_cons e_str (a_cons e_str a_nil)))) (show _ = true by decide +kernel)) (fun _ => ?_) (fun h => nomatch h))
    refine s_cons (s1_set 3 (e_if (EvT.cast (t_cmp c_eqS (e_ix (x_tup at0) (e_var 1) e_int) e_str) (show _ = true by decide +kernel)) (fun _ => e_ix (x_tup at0) (e_var 0) e_int) (fun h => nomatch h)) ?_)
    exact s_cons (s1_ret (EvD.cB (e_and (EvD.cB (t2 := true) (e_cmp c_eqI (e_lenT B (e_var 1)) e_int) rfl) fun _ => e_and (e_isS B (e_ix (x_tup at1) (e_var 1) e_int)) fun _ => e_one (e_cmp (c_inT (ds := l.ins.map PyData.str) rfl (strs_flat _)) (e_ix (x_tup at1) (e_var 1) e_int) (e_var 3))) (by rw [inD_str, hw]; rfl)) rfl)
  | out w =>
    have hw : decide (w ∈ l.outs) = true := decide_eq_true hs
    refine s_cons (s1_if (EvT.cast (t_w (w_or (EvT.cast (t_cmp c_eqI (e_var 2) e_int) em) fun _ => w_or (t_not (t_val (e_isT B (e_var 1)))) fun _ => w_or (t_cmp (c_ninT rfl rfl) (e_lenT B (e_var 1)) (e_tup (ds := [.int 2, .int 3]) (a_cons e_int (a_cons e_int a_nil)))) fun _ => w_or1 (t_not (t_val (e_isS B (e_ix (x_tup at0) (e_var 1) e_int)))))) (show _ = false from rfl)) (fun h => nomatch h) fun _ => s_nil ?_)
    refine s_cons (s1_if (EvT.cast (t_cmp (c_inT rfl rfl) (e_ix (x_tup at0) (e_var 1) e_int) (e_tup (ds := [.str "in", .str "out"]) (a_cons e_str (a_cons e_str a_nil)))) (show _ = true by decide +kernel)) (fun _ => ?_) (fun h => nomatch h))
    refine s_cons (s1_set 3 (e_if (EvT.cast (t_cmp c_eqS (e_ix (x_tup at0) (e_var 1) e_int) e_str) (show _ = false by decide +kernel)) (fun h => nomatch h) (fun _ => e_ix (x_tup at1) (e_var 0) e_int)) ?_)
    exact s_cons (s1_ret (EvD.cB (e_and (EvD.cB (t2 := true) (e_cmp c_eqI (e_lenT B (e_var 1)) e_int) rfl) fun _ => e_and (e_isS B (e_ix (x_tup at1) (e_var 1) e_int)) fun _ => e_one (e_cmp (c_inT (ds := l.outs.map PyData.str) rfl (strs_flat _)) (e_ix (x_tup at1) (e_var 1) e_int) (e_var 3))) (by rw [inD_str, hw]; rfl)) rfl)
  | not s =>
    have hd : s.depth + 1 ≤ m := hd
    refine s_cons (s1_if (EvT.cast (t_w (w_or (EvT.cast (t_cmp c_eqI (e_var 2) e_int) em) fun _ => w_or (t_not (t_val (e_isT B (e_var 1)))) fun _ => w_or (t_cmp (c_ninT rfl rfl) (e_lenT B (e_var 1)) (e_tup (ds := [.int 2, .int 3]) (a_cons e_int (a_cons e_int a_nil)))) fun _ => w_or1 (t_not (t_val (e_isS B (e_ix (x_tup at0) (e_var 1) e_int)))))) (show _ = false from rfl)) (fun h => nomatch h) fun _ => s_nil ?_)
    refine s_cons (s1_if (EvT.cast (t_cmp (c_inT rfl rfl) (e_ix (x_tup at0) (e_var 1) e_int) (e_tup (ds := [.str "in", .str "out"]) (a_cons e_str (a_cons e_str a_nil)))) (show _ = false by decide +kernel)) (fun h => nomatch h) fun _ => s_nil ?_)
    refine s_cons (s1_if (EvT.cast (t_cmp c_eqS (e_ix (x_tup at0) (e_var 1) e_int) e_str) (show _ = true by decide +kernel)) (fun _ => ?_) (fun h => nomatch h))
    exact s_cons (s1_ret (e_and (EvD.cB (t2 := true) (e_cmp c_eqI (e_lenT B (e_var 1)) e_int) rfl) fun _ => e_one (e_call D (Nat.le_refl _) (a_cons (e_var 0) (a_cons (e_ix (x_tup at1) (e_var 1) e_int) (a_cons (EvD.cI (e_bin b_sub (e_var 2) e_int) esub) a_nil))) ⟨l, s, m - 1, hs, by omega, by omega, rfl, rfl⟩)) rfl)
  | and s t =>
    have hd : max s.depth t.depth + 1 ≤ m := hd
    refine s_cons (s1_if (EvT.cast (t_w (w_or (EvT.cast (t_cmp c_eqI (e_var 2) e_int) em) fun _ => w_or (t_not (t_val (e_isT B (e_var 1)))) fun _ => w_or (t_cmp (c_ninT rfl rfl) (e_lenT B (e_var 1)) (e_tup (ds := [.int 2, .int 3]) (a_cons e_int (a_cons e_int a_nil)))) fun _ => w_or1 (t_not (t_val (e_isS B (e_ix (x_tup at0) (e_var 1) e_int)))))) (show _ = false from rfl)) (fun h => nomatch h) fun _ => s_nil ?_)
    refine s_cons (s1_if (EvT.cast (t_cmp (c_inT rfl rfl) (e_ix (x_tup at0) (e_var 1) e_int) (e_tup (ds := [.str "in", .str "out"]) (a_cons e_str (a_cons e_str a_nil)))) (show _ = false by decide +kernel)) (fun h => nomatch h) fun _ => s_nil ?_)
    refine s_cons (s1_if (EvT.cast (t_cmp c_eqS (e_ix (x_tup at0) (e_var 1) e_int) e_str) (show _ = false by decide +kernel)) (fun h => nomatch h) fun _ => s_nil ?_)
    refine s_cons (s1_if (EvT.cast (t_w (w_or (t_cmp (c_ninT rfl rfl) (e_ix (x_tup at0) (e_var 1) e_int) (e_tup (ds := [.str "and", .str "or"]) (a_cons e_str (a_cons e_str a_nil)))) fun _ => w_or1 (t_cmp c_neI (e_lenT B (e_var 1)) e_int))) (show (!_ || _) = false by rw [in_and]; rfl)) (fun h => nomatch h) fun _ => s_nil ?_)
    exact s_cons (s1_ret (e_and (e_call D (Nat.le_refl _) (a_cons (e_var 0) (a_cons (e_ix (x_tup at1) (e_var 1) e_int) (a_cons (EvD.cI (e_bin b_sub (e_var 2) e_int) esub) a_nil))) ⟨l, s, m - 1, hs.1, by omega, by omega, rfl, rfl⟩) fun _ => e_one (e_call D (Nat.le_refl _) (a_cons (e_var 0) (a_cons (e_ix (x_tup at2) (e_var 1) e_int) (a_cons (EvD.cI (e_bin b_sub (e_var 2) e_int) esub) a_nil))) ⟨l, t, m - 1, hs.2, by omega, by omega, rfl, rfl⟩)) rfl)
  | or s t =>
    have hd : max s.depth t.depth + 1 ≤ m := hd
    refine s_cons (s1_if (EvT.cast (t_w (w_or (EvT.cast (t_cmp c_eqI (e_var 2) e_int) em) fun _ => w_or (t_not (t_val (e_isT B (e_var 1)))) fun _ => w_or (t_cmp (c_ninT rfl rfl) (e_lenT B (e_var 1)) (e_tup (ds := [.int 2, .int 3]) (a_cons e_int (a_cons e_int a_nil)))) fun _ => w_or1 (t_not (t_val (e_isS B (e_ix (x_tup at0) (e_var 1) e_int)))))) (show _ = false from rfl)) (fun h => nomatch h) fun _ => s_nil ?_)
    refine s_cons (s1_if (EvT.cast (t_cmp (c_inT rfl rfl) (e_ix (x_tup at0) (e_var 1) e_int) (e_tup (ds := [.str "in", .str "out"]) (a_cons e_str (a_cons e_str a_nil)))) (show _ = false by decide +kernel)) (fun h => nomatch h) fun _ => s_nil ?_)
    refine s_cons (s1_if (EvT.cast (t_cmp c_eqS (e_ix (x_tup at0) (e_var 1) e_int) e_str) (show _ = false by decide +kernel)) (fun h => nomatch h) fun _ => s_nil ?_)
    refine s_cons (s1_if (EvT.cast (t_w (w_or (t_cmp (c_ninT rfl rfl) (e_ix (x_tup at0) (e_var 1) e_int) (e_tup (ds := [.str "and", .str "or"]) (a_cons e_str (a_cons e_str a_nil)))) fun _ => w_or1 (t_cmp c_neI (e_lenT B (e_var 1)) e_int))) (show (!_ || _) = false by rw [in_or]; rfl)) (fun h => nomatch h) fun _ => s_nil ?_)
    exact s_cons (s1_ret (e_and (e_call D (Nat.le_refl _) (a_cons (e_var 0) (a_cons (e_ix (x_tup at1) (e_var 1) e_int) (a_cons (EvD.cI (e_bin b_sub (e_var 2) e_int) esub) a_nil))) ⟨l, s, m - 1, hs.1, by omega, by omega, rfl, rfl⟩) fun _ => e_one (e_call D (Nat.le_refl _) (a_cons (e_var 0) (a_cons (e_ix (x_tup at2) (e_var 1) e_int) (a_cons (EvD.cI (e_bin b_sub (e_var 2) e_int) esub) a_nil))) ⟨l, t, m - 1, hs.2, by omega, by omega, rfl, rfl⟩)) rfl)
theorem fn_saying (B : Bs G) (F : FunT G 18 "is_saying_by" ["letters", "thing", "depth"]) : ∀ n, FnD G n "is_saying_by" ["letters", "thing", "depth"] (RSaying G n)
  | 0 => fnd_vac F fun pvs r ⟨l, s, m, _, h, h2, _⟩ => by have := s.depth_pos; omega
  | n + 1 => fn_saying_step B F (fn_saying B F n)
/-! speaks_of_outs -/
theorem scSpeaks : FnScope ["saying", "one"] ["saying"] (defScope (topS 20)) := ⟨rfl, rfl, rfl, by decide +kernel, rfl, by decide +kernel, by decide +kernel⟩
def RSpeaks (G : GC) (n : Nat) : Rel G := fun ps r => ∃ s : Say, s.depth ≤ n ∧ ps = [dat s.enc] ∧ r = dat (.bool (!s.plain))
theorem bools_get {bs : List Bool} {k : Nat} {g : PyData} (h : (bs.map PyData.bool)[k]? = some g) : ∃ b, bs[k]? = some b ∧ g = .bool b := map_get h
theorem fn_speaks_step {n : Nat} (B : Bs G) (F : FunT G 20 "speaks_of_outs" ["saying"]) (D : FnD G n "speaks_of_outs" ["saying"] (RSpeaks G n)) : FnD G (n + 1) "speaks_of_outs" ["saying"] (RSpeaks G (n + 1)) := by
  refine mk_def (k := n) F scSpeaks (fun pvs r ⟨_, _, h, _⟩ => by rw [h]; rfl) fun pvs r ⟨s, hd, h1, h2⟩ f cd A outer s' H E hr => ?_
  subst h1 h2
  cases s with
  | inn w =>
    refine s_cons (s1_if (EvT.cast (t_cmp (c_inT rfl rfl) (e_ix (x_tup at0) (e_var 0) e_int) (e_tup (ds := [.str "in", .str "out"]) (a_cons e_str (a_cons e_str a_nil)))) (show _ = true by decide +kernel)) (fun _ => ?_) (fun h => nomatch h))
    exact s_cons (s1_ret (EvD.cB (e_cmp c_eqS (e_ix (x_tup at0) (e_var 0) e_int) e_str) (show _ = false by decide +kernel)) rfl)
  | out w =>
    refine s_cons (s1_if (EvT.cast (t_cmp (c_inT rfl rfl) (e_ix (x_tup at0) (e_var 0) e_int) (e_tup (ds := [.str "in", .str "out"]) (a_cons e_str (a_cons e_str a_nil)))) (show _ = true by decide +kernel)) (fun _ => ?_) (fun h => nomatch h))
    exact s_cons (s1_ret (EvD.cB (e_cmp c_eqS (e_ix (x_tup at0) (e_var 0) e_int) e_str) (show _ = true by decide +kernel)) rfl)
  | not s =>
    have hd : s.depth ≤ n := Nat.le_of_succ_le_succ hd
    refine s_cons (s1_if (EvT.cast (t_cmp (c_inT rfl rfl) (e_ix (x_tup at0) (e_var 0) e_int) (e_tup (ds := [.str "in", .str "out"]) (a_cons e_str (a_cons e_str a_nil)))) (show _ = false by decide +kernel)) (fun h => nomatch h) fun _ => s_nil ?_)
    refine s_cons (s1_ret (EvD.cB (e_any B (bs := [!s.plain]) (LcR.ev <| lcN (own := [("one", 1)]) (ds := [s.enc]) 1 _ (i_tup (EvD.cast (e_slT (e_var 0) (o_some e_int) o_none) (congrArg PyData.tuple (cut_from [.str "not", s.enc] 1 (by simp))))) (blk_body (by decide +kernel)) rfl (by simp) fun s' H C' cl fp k d g hd' hg => ?_)) (by simp [Say.plain])) rfl)
    match k, hd', hg with
    | 0, hd', hg => cases hd'; cases hg; exact e_call D (Nat.le_refl _) (a_cons (e_var 1) a_nil) ⟨s, hd, rfl, rfl⟩
    | k + 1, hd', _ => cases hd'
  | and s t =>
    have hd : max s.depth t.depth ≤ n := Nat.le_of_succ_le_succ hd
    refine s_cons (s1_if (EvT.cast (t_cmp (c_inT rfl rfl) (e_ix (x_tup at0) (e_var 0) e_int) (e_tup (ds := [.str "in", .str "out"]) (a_cons e_str (a_cons e_str a_nil)))) (show _ = false by decide +kernel)) (fun h => nomatch h) fun _ => s_nil ?_)
    refine s_cons (s1_ret (EvD.cB (e_any B (bs := [!s.plain, !t.plain]) (LcR.ev <| lcN (own := [("one", 1)]) (ds := [s.enc, t.enc]) 1 _ (i_tup (EvD.cast (e_slT (e_var 0) (o_some e_int) o_none) (congrArg PyData.tuple (cut_from [.str "and", s.enc, t.enc] 1 (by simp))))) (blk_body (by decide +kernel)) rfl (by simp) fun s' H C' cl fp k d g hd' hg => ?_)) (by simp [Say.plain])) rfl)
    match k, hd', hg with
    | 0, hd', hg => cases hd'; cases hg; exact e_call D (Nat.le_refl _) (a_cons (e_var 1) a_nil) ⟨s, by omega, rfl, rfl⟩
    | 1, hd', hg => cases hd'; cases hg; exact e_call D (Nat.le_refl _) (a_cons (e_var 1) a_nil) ⟨t, by omega, rfl, rfl⟩
    | k + 2, hd', _ => cases hd'
  | or s t =>
    have hd : max s.depth t.depth ≤ n := Nat.le_of_succ_le_succ hd
    refine s_cons (s1_if (EvT.cast (t_cmp (c_inT rfl rfl) (e_ix (x_tup at0) (e_var 0) e_int) (e_tup (ds := [.str "in", .str "out"]) (a_cons e_str (a_cons e_str a_nil)))) (show _ = false by decide +kernel)) (fun h => nomatch h) fun _ => s_nil ?_)
    refine s_cons (s1_ret (EvD.cB (e_any B (bs := [!s.plain, !t.plain]) (LcR.ev <| lcN (own := [("one", 1)]) (ds := [s.enc, t.enc]) 1 _ (i_tup (EvD.cast (e_slT (e_var 0) (o_some e_int) o_none) (congrArg PyData.tuple (cut_from [.str "or", s.enc, t.enc] 1 (by simp))))) (blk_body (by decide +kernel)) rfl (by simp) fun s' H C' cl fp k d g hd' hg => ?_)) (by simp [Say.plain])) rfl)
    match k, hd', hg with
    | 0, hd', hg => cases hd'; cases hg; exact e_call D (Nat.le_refl _) (a_cons (e_var 1) a_nil) ⟨s, by omega, rfl, rfl⟩
    | 1, hd', hg => cases hd'; cases hg; exact e_call D (Nat.le_refl _) (a_cons (e_var 1) a_nil) ⟨t, by omega, rfl, rfl⟩
    | k + 2, hd', _ => cases hd'
theorem fn_speaks (B : Bs G) (F : FunT G 20 "speaks_of_outs" ["saying"]) : ∀ n, FnD G n "speaks_of_outs" ["saying"] (RSpeaks G n)
  | 0 => fnd_vac F fun pvs r ⟨s, h, _⟩ => by have := s.depth_pos; omega
  | n + 1 => fn_speaks_step B F (fn_speaks B F n)
end
end MR
/-! T5: sentences, steps. -/
namespace MR
open PySem PySem.Spec PyProof.Rows L2
/-! data that can be compared -/
def Lay (n : Nat) (d : PyData) : Prop := d.canLay0 = true ∧ d.depth ≤ n
theorem Lay.mono {n m : Nat} {d : PyData} (h : Lay n d) (k : n ≤ m) : Lay m d := ⟨h.1, Nat.le_trans h.2 k⟩
theorem lay_none {n : Nat} : Lay n .none := ⟨rfl, Nat.zero_le _⟩
theorem lay_bool {n : Nat} {b : Bool} : Lay n (.bool b) := ⟨rfl, Nat.zero_le _⟩
theorem lay_int {n : Nat} {i : Int} : Lay n (.int i) := ⟨rfl, Nat.zero_le _⟩
theorem lays {n : Nat} : ∀ {ds : List PyData}, (∀ d ∈ ds, Lay n d) → PyData.canLayAll0 ds = true ∧ PyData.depthAll ds ≤ n
  | [], _ => ⟨rfl, Nat.zero_le _⟩
  | d :: ds, h => by
    obtain ⟨h1, h2⟩ := h d List.mem_cons_self
    obtain ⟨h3, h4⟩ := lays (fun x hx => h x (List.mem_cons_of_mem _ hx))
    exact ⟨by show (d.canLay0 && PyData.canLayAll0 ds) = true; rw [h1, h3]; rfl, by show max d.depth (PyData.depthAll ds) ≤ n; omega⟩
theorem lay_tup {n : Nat} {ds : List PyData} (h : ∀ d ∈ ds, Lay n d) : Lay (n + 1) (.tuple ds) := ⟨(lays h).1, Nat.succ_le_succ (lays h).2⟩
theorem lay_lst {n : Nat} {ds : List PyData} (h : ∀ d ∈ ds, Lay n d) : Lay (n + 1) (.list ds) := ⟨(lays h).1, Nat.succ_le_succ (lays h).2⟩
theorem Lay.shaped {d : PyData} (h : Lay 64 d) : SeqAt.shaped d = true := by
  unfold SeqAt.shaped
  rw [h.1, decide_eq_true h.2]
  rfl
theorem lay_word {n : Nat} {x : Str} (h : wordB x = true) : Lay n (.str x) := by
  refine ⟨?_, Nat.zero_le _⟩
  show PyData.strOk x = true
  unfold wordB at h
  simp only [Bool.and_eq_true, decide_eq_true_eq, List.all_eq_true] at h
  unfold PyData.strOk
  rw [Array.all_eq_true_iff_forall_mem]
  intro c hc
  have := h.2 c (by simpa using hc)
  have : c < 1114112 := by omega
  exact decide_eq_true this
theorem lay_lit {n : Nat} {x : Str} (h : PyData.strOk x = true := by decide +kernel) : Lay n (.str x) := ⟨h, Nat.zero_le _⟩
theorem lay_strs {n : Nat} {l : List Str} (h : ∀ x ∈ l, wordB x = true) : Lay (n + 1) (strsD l) := lay_tup fun d hd => by
  obtain ⟨x, hx, rfl⟩ := List.mem_map.mp hd
  exact lay_word (h x hx)
theorem lay_lt {n : Nat} {l : Lt} (h : l.Ok) : Lay (n + 2) l.enc := lay_tup fun d hd => by
  simp only [List.mem_cons, List.not_mem_nil, or_false] at hd
  rcases hd with rfl | rfl
  · exact lay_strs h.iw
  · exact lay_strs h.ow
theorem lay_say {l : Lt} (h : l.Ok) : ∀ {s : Say} {n : Nat}, s.Ok l → s.depth ≤ n → Lay n s.enc
  | .inn w, n + 1, hs, _ => lay_tup fun d hd => by
    simp only [List.mem_cons, List.not_mem_nil, or_false] at hd
    rcases hd with rfl | rfl
    · exact lay_lit
    · exact lay_word (h.iw w hs)
  | .out w, n + 1, hs, _ => lay_tup fun d hd => by
    simp only [List.mem_cons, List.not_mem_nil, or_false] at hd
    rcases hd with rfl | rfl
    · exact lay_lit
    · exact lay_word (h.ow w hs)
  | .not s, n + 1, hs, hd => lay_tup fun d hm => by
    simp only [List.mem_cons, List.not_mem_nil, or_false] at hm
    rcases hm with rfl | rfl
    · exact lay_lit
    · exact lay_say h hs (Nat.le_of_succ_le_succ hd)
  | .and s t, n + 1, hs, hd => lay_tup fun d hm => by
    have hd : max s.depth t.depth + 1 ≤ n + 1 := hd
    simp only [List.mem_cons, List.not_mem_nil, or_false] at hm
    rcases hm with rfl | rfl | rfl
    · exact lay_lit
    · exact lay_say h hs.1 (by omega)
    · exact lay_say h hs.2 (by omega)
  | .or s t, n + 1, hs, hd => lay_tup fun d hm => by
    have hd : max s.depth t.depth + 1 ≤ n + 1 := hd
    simp only [List.mem_cons, List.not_mem_nil, or_false] at hm
    rcases hm with rfl | rfl | rfl
    · exact lay_lit
    · exact lay_say h hs.1 (by omega)
    · exact lay_say h hs.2 (by omega)
  | .inn _, 0, _, hd => by have : 1 ≤ 0 := hd; omega
  | .out _, 0, _, hd => by have : 1 ≤ 0 := hd; omega
  | .not s, 0, _, hd => by have : s.depth + 1 ≤ 0 := hd; omega
  | .and s t, 0, _, hd => by have : max s.depth t.depth + 1 ≤ 0 := hd; omega
  | .or s t, 0, _, hd => by have : max s.depth t.depth + 1 ≤ 0 := hd; omega
def Sen.kind : Sen → Str
  | .never _ => "never"
  | .after _ _ => "after"
  | .until _ _ _ => "until"
  | .within _ _ _ => "within"
  | .first _ _ => "first"
  | .most _ _ => "most"
  | .apart _ _ => "apart"
def Sen.nums : Sen → List Nat
  | .within _ _ k => [k]
  | .most _ k => [k]
  | .apart _ k => [k]
  | _ => []
theorem Sen.enc_eq (s : Sen) : s.enc = .tuple (.str s.kind :: (s.says.map Say.enc ++ s.nums.map fun k => PyData.int (k : Nat))) := by cases s <;> rfl
theorem Sen.kind_tab (s : Sen) : kindTab s.kind = some (s.says.length, s.nums.length) := by
  cases s with
  | never p => exact (by decide +kernel : kindTab "never" = some (1, 0))
  | after p q => exact (by decide +kernel : kindTab "after" = some (2, 0))
  | «until» p q r => exact (by decide +kernel : kindTab "until" = some (3, 0))
  | within p q k => exact (by decide +kernel : kindTab "within" = some (2, 1))
  | first p q => exact (by decide +kernel : kindTab "first" = some (2, 0))
  | most p k => exact (by decide +kernel : kindTab "most" = some (1, 1))
  | apart p k => exact (by decide +kernel : kindTab "apart" = some (1, 1))
theorem Sen.kind_ok (s : Sen) : PyData.strOk s.kind = true := by
  cases s with
  | never p => exact (by decide +kernel : PyData.strOk "never" = true)
  | after p q => exact (by decide +kernel : PyData.strOk "after" = true)
  | «until» p q r => exact (by decide +kernel : PyData.strOk "until" = true)
  | within p q k => exact (by decide +kernel : PyData.strOk "within" = true)
  | first p q => exact (by decide +kernel : PyData.strOk "first" = true)
  | most p k => exact (by decide +kernel : PyData.strOk "most" = true)
  | apart p k => exact (by decide +kernel : PyData.strOk "apart" = true)
theorem lay_sen {l : Lt} (h : l.Ok) {s : Sen} (hs : s.Ok l) : Lay 5 s.enc := by
  rw [s.enc_eq]
  refine lay_tup fun d hd => ?_
  rcases List.mem_cons.mp hd with rfl | hd
  · exact ⟨s.kind_ok, Nat.zero_le _⟩
  · rcases List.mem_append.mp hd with hd | hd
    · obtain ⟨p, hp, rfl⟩ := List.mem_map.mp hd
      exact lay_say h (hs.says p hp).1 (hs.says p hp).2
    · obtain ⟨k, hk, rfl⟩ := List.mem_map.mp hd
      exact lay_int
section
variable {G : GC} {L : LC G} {ρ : Rho G} {pos : Pos} {e : Expr}
/-! KINDS -/
theorem kinds_at (C : Cs G) : ∃ a, G.mg "KINDS" = some (.ref a) ∧ (∀ {L : LC G} {x s k}, kindTab x = some (s, k) → CmpD L .NotIn (dat (.str x)) (refP a) false) ∧ ∀ {L : LC G} {x s k}, kindTab x = some (s, k) → IxD L (refP a) (dat (.str x)) (dat (.tuple [.int (s : Nat), .int (k : Nat)])) := by
  obtain ⟨a, es, n, h1, h2, h3⟩ := C.kinds
  refine ⟨a, h1, fun {L x s k} h => ?_, fun {L x s k} h => ?_⟩
  · obtain ⟨u0, v0, q1, q2, q3⟩ := h3 x s k h
    exact ⟨_, op_notIn_kd (X := L.X) (by rw [L.hK, L.hw]; exact h2), fun A B0 B ρ σ H v y Q E hx hy kk => by
      have e1 := dp_str hx
      subst e1
      exact ⟨x, some u0, rfl, hy, by rw [L.hK]; exact q1, here E kk (.bl _)⟩⟩
  · obtain ⟨u0, v0, q1, q2, q3⟩ := h3 x s k h
    exact ⟨_, ix_kdict, fun A B0 B ρ σ H v y Q E hx hy kk => by
      have e1 := dp_str hy
      subst e1
      exact ⟨a, x, v0, hx, rfl, ⟨es, n, u0, by rw [L.hK]; exact h2.at_, by rw [L.hw]; exact h2.lit, by rw [L.hK]; exact q1, q2⟩, here E kk (q3 _)⟩⟩
theorem e_kinds {a : Addr} (h : G.mg "KINDS" = some (.ref a)) (hg : Gl L.X "KINDS" := by rfl) : EvD L ρ (.Name "KINDS" pos) (refP a) := e_glob (v := .ref a) h rfl (fun _ => rfl) hg
/-! is_sentence_by -/
theorem scSentence : FnScope ["letters", "thing", "sayings", "numbers", "one"] ["letters", "thing"] (defScope (topS 24)) := ⟨rfl, rfl, rfl, by decide +kernel, rfl, by decide +kernel, by decide +kernel⟩
def RSentence (G : GC) : Rel G := fun ps r => ∃ (l : Lt) (s : Sen), l.Ok ∧ s.Ok l ∧ ps = [dat l.enc, dat s.enc] ∧ r = dat (.bool true)
theorem eqv_nil {d : PyData} {ds : List PyData} : PyData.eqv (.tuple (d :: ds)) (.tuple []) = false := by
  unfold PyData.eqv PyData.eqvAll
  rfl
theorem fn_sentence (B : Bs G) (C : Cs G) (F : FunT G 24 "is_sentence_by" ["letters", "thing"]) (D1 : FnD G 4 "is_saying_by" ["letters", "thing", "depth"] (RSaying G 4)) (D2 : FnD G 2 "is_within" ["thing", "least", "most"] (RIsWithin G)) : FnD G 5 "is_sentence_by" ["letters", "thing"] (RSentence G) := by
  refine mk_def (k := 4) F scSentence (fun pvs r ⟨_, _, _, _, h, _⟩ => by rw [h]; rfl) fun pvs r ⟨l, s, hl, hs, h1, h2⟩ f cd A outer s' H E hr => ?_
  subst h1 h2
  obtain ⟨a, ka, kn, kx⟩ := kinds_at C
  have sh : SeqAt.shaped s.enc = true := ((lay_sen hl hs).mono (by decide)).shaped
  have ln : (s.says.map Say.enc ++ s.nums.map fun k => PyData.int (k : Nat)).length = s.says.length + s.nums.length := by simp
  have lsay : s.says.length ≤ 3 := by cases s <;> simp [Sen.says]
  have lnum : s.nums.length ≤ 1 := by cases s <;> simp [Sen.nums]
  rw [s.enc_eq] at sh ⊢
  refine s_cons (s1_if (EvT.cast (t_w (w_or (t_not (t_val (e_isT B (e_var 1)))) fun _ => w_or (t_cmp (c_eq (t := false) sh (by decide +kernel) eqv_nil) (e_var 1) (e_tup (ds := []) a_nil)) fun _ => w_or (t_not (t_val (e_isS B (e_ix (x_tup at0) (e_var 1) e_int)))) fun _ => w_or1 (t_cmp (kn s.kind_tab) (e_ix (x_tup at0) (e_var 1) e_int) (e_kinds ka)))) (show _ = false from rfl)) (fun h => nomatch h) fun _ => s_nil ?_)
  refine s_cons (s1_asg (e_ix (kx s.kind_tab) (e_kinds ka) (e_ix (x_tup at0) (e_var 1) e_int)) (TgD.dat (ds := [.int (s.says.length : Nat), .int (s.nums.length : Nat)]) (g_pair 2 3 rfl rfl (.inl rfl) (.inl rfl) (.inl rfl) (.inl rfl))) ?_)
  refine s_cons (s1_if (EvT.cast (t_cmp c_neI (e_lenT B (e_var 1)) (e_bin b_add (e_bin b_add e_int (e_var 2)) (e_var 3))) (show _ = false by rw [List.length_cons, ln, decide_eq_true (by omega)]; rfl)) (fun h => nomatch h) fun _ => s_nil ?_)
  have esl : cutD (PyData.str s.kind :: (s.says.map Say.enc ++ s.nums.map fun k => PyData.int (k : Nat))) (some ((1 : Nat) : Int)) (some ((1 + s.says.length : Nat) : Int)) = s.says.map Say.enc := by
    rw [cut_mid _ _ _ (by omega) (by rw [List.length_cons, ln]; omega)]
    simp
  have esl2 : cutD (PyData.str s.kind :: (s.says.map Say.enc ++ s.nums.map fun k => PyData.int (k : Nat))) (some ((1 + s.says.length : Nat) : Int)) none = s.nums.map fun k => PyData.int (k : Nat) := by
    rw [cut_from _ _ (by rw [List.length_cons, ln]; omega), Nat.add_comm, List.drop_succ_cons, ← List.length_map (f := Say.enc), List.drop_left]
  have epl : (1 : Int) + (s.says.length : Nat) = ((1 + s.says.length : Nat) : Int) := by omega
  refine s_cons (s1_if (EvT.cast (t_not (t_val (e_allT B (n := s.says.length) (LcR.ev <| lcN (own := [("one", 4)]) (ds := s.says.map Say.enc) 4 _ (i_tup (EvD.cast (e_slT (e_var 1) (o_some (i := ((1 : Nat) : Int)) e_int) (o_some (EvD.cI (e_bin b_add e_int (e_var 2)) epl))) (congrArg PyData.tuple esl))) (blk_body (by decide +kernel)) (by simp) (by rw [List.length_map]; omega) fun s' H C' cl fp k d g hd hg => ?_)))) (show _ = false from rfl)) (fun h => nomatch h) fun _ => s_nil ?_)
  · obtain rfl := rep_get hg
    obtain ⟨p, hp, rfl⟩ := map_get hd
    obtain ⟨p1, p2⟩ := hs.says p (List.mem_of_getElem? hp)
    exact e_call D1 (Nat.le_refl _) (a_cons (e_var 0) (a_cons (e_var 4) (a_cons (e_cint C.depth) a_nil))) ⟨l, p, 4, p1, p2, Nat.le_refl _, rfl, rfl⟩
  · refine s_cons (s1_ret (e_allT B (n := s.nums.length) (LcR.ev <| lcN (own := [("one", 4)]) (ds := s.nums.map fun k => PyData.int (k : Nat)) 4 _ (i_tup (EvD.cast (e_slT (e_var 1) (o_some (EvD.cI (e_bin b_add e_int (e_var 2)) epl)) o_none) (congrArg PyData.tuple esl2))) (blk_body (by decide +kernel)) (by simp) (by rw [List.length_map]; omega) fun s' H C' cl fp k d g hd hg => ?_)) rfl)
    obtain rfl := rep_get hg
    obtain ⟨p, hp, rfl⟩ := map_get hd
    have hk : p = s.num := by cases s <;> simp [Sen.nums] at hp <;> (first | (obtain ⟨_, rfl⟩ := hp; rfl) | (have := List.mem_of_getElem? hp; simp at this; exact this))
    have k1 := hs.k1
    have k6 := hs.k6
    exact EvD.cB (e_call D2 (show 2 ≤ 4 by decide) (a_cons (e_var 4) (a_cons e_int (a_cons (e_cint C.number) a_nil))) ⟨_, _, _, rfl, rfl⟩) (by rw [decide_eq_true (by omega), decide_eq_true (by omega)]; rfl)
/-! is_of_ins -/
theorem scOfIns : FnScope ["sentence", "one"] ["sentence"] (defScope (topS 25)) := ⟨rfl, rfl, rfl, by decide +kernel, rfl, by decide +kernel, by decide +kernel⟩
def ROfIns (G : GC) : Rel G := fun ps r => ∃ (l : Lt) (s : Sen), s.Ok l ∧ ps = [dat s.enc] ∧ r = dat (.bool s.plain)
theorem any_not (l : List Say) : (l.map fun p => !p.plain).any id = !(l.all Say.plain) := by
  induction l with
  | nil => rfl
  | cons p l ih =>
    rw [List.map_cons, List.any_cons, List.all_cons, ih]
    cases p.plain <;> rfl
theorem fn_of_ins (B : Bs G) (C : Cs G) (F : FunT G 25 "is_of_ins" ["sentence"]) (D : FnD G 4 "speaks_of_outs" ["saying"] (RSpeaks G 4)) : FnD G 5 "is_of_ins" ["sentence"] (ROfIns G) := by
  refine mk_def (k := 4) F scOfIns (fun pvs r ⟨_, _, _, h, _⟩ => by rw [h]; rfl) fun pvs r ⟨l, s, hs, h1, h2⟩ f cd A outer s' H E hr => ?_
  subst h1 h2
  obtain ⟨a, ka, kn, kx⟩ := kinds_at C
  have lsay : s.says.length ≤ 3 := by cases s <;> simp [Sen.says]
  have ln : (s.says.map Say.enc ++ s.nums.map fun k => PyData.int (k : Nat)).length = s.says.length + s.nums.length := by simp
  rw [s.enc_eq]
  have esl : cutD (PyData.str s.kind :: (s.says.map Say.enc ++ s.nums.map fun k => PyData.int (k : Nat))) (some ((1 : Nat) : Int)) (some ((1 + s.says.length : Nat) : Int)) = s.says.map Say.enc := by
    rw [cut_mid _ _ _ (by omega) (by rw [List.length_cons, ln]; omega)]
    simp
  have epl : (1 : Int) + (s.says.length : Nat) = ((1 + s.says.length : Nat) : Int) := by omega
  refine s_cons (s1_ret (EvD.cB (e_not (e_any B (bs := s.says.map fun p => !p.plain) (LcR.ev <| lcN (own := [("one", 1)]) (ds := s.says.map Say.enc) 1 _ (i_tup (EvD.cast (e_slT (e_var 0) (o_some (i := ((1 : Nat) : Int)) e_int) (o_some (EvD.cI (e_bin b_add e_int (e_ix (x_tup at0) (e_ix (kx s.kind_tab) (e_kinds ka) (e_ix (x_tup at0) (e_var 0) e_int)) e_int)) epl))) (congrArg PyData.tuple esl))) (blk_body (by decide +kernel)) (by simp) (by rw [List.length_map]; omega) fun s' H C' cl fp k d g hd hg => ?_))) (by rw [any_not, Bool.not_not]; rfl)) rfl)
  obtain ⟨b, hb, rfl⟩ := bools_get hg
  obtain ⟨p, hp, rfl⟩ := map_get hd
  obtain ⟨p', hp', rfl⟩ := map_get hb
  rw [hp] at hp'
  cases hp'
  exact e_call D (Nat.le_refl _) (a_cons (e_var 1) a_nil) ⟨p, (hs.says p (List.mem_of_getElem? hp)).2, rfl, rfl⟩
end
end MR
/-! T6: a sentence's steps. -/
namespace MR
open PySem PySem.Spec PyProof.Rows L2
def optD : Option Nat → PyData
  | none => .none
  | some k => .int (k : Nat)
section
variable {G : GC} {L : LC G} {ρ : Rho G} {pos : Pos} {e : Expr}
theorem g_three (i j m : Nat) {p q r : PV G} {x y z : Str} {px py pz pt : Pos} {k : Nat} (hi : L.X.N[i]? = some x) (hj : L.X.N[j]? = some y) (hm : L.X.N[m]? = some z) (hx : Loc L.X.env.scope x) (hy : Loc L.X.env.scope y) (hz : Loc L.X.env.scope z) (hfx : L.X.fn x = true ∨ L.X.env.scope.names.lookup x = some .local) (hfy : L.X.fn y = true ∨ L.X.env.scope.names.lookup y = some .local) (hfz : L.X.fn z = true ∨ L.X.env.scope.names.lookup z = some .local)
    (hn : (assignEach [.Name x px, .Name y py, .Name z pz] L.X.env).length = 3 := by rfl) (hst : (assignEach [.Name x px, .Name y py, .Name z pz] L.X.env).findIdx? (·.1) = none := by rfl) (h1 : (assignEach [.Name x px, .Name y py, .Name z pz] L.X.env).map (·.2) = assign (.Name x px) L.X.env :: (assignEach [.Name y py, .Name z pz] L.X.env).map (·.2) := by rfl)
    (h2 : (assignEach [.Name y py, .Name z pz] L.X.env).map (·.2) = assign (.Name y py) L.X.env :: (assignEach [.Name z pz] L.X.env).map (·.2) := by rfl) (h3 : (assignEach [.Name z pz] L.X.env).map (·.2) = assign (.Name z pz) L.X.env :: (assignEach [] L.X.env).map (·.2) := by rfl) :
    TgD L (.Tuple [.Name x px, .Name y py, .Name z pz] k pt) (tupP [p, q, r]) [i, j, m] (fun l => ((l.set i (some p)).set j (some q)).set m (some r)) :=
  g_tup (gs_cons (g_name i hi hx hfx) (gs_cons (g_name j hj hy hfy) (gs_cons (g_name m hm hz hfz) gs_nil h3) h2) h1) hn hst
/-! step_within -/
theorem scWithin : FnScope ["sentence", "left", "beat"] ["sentence", "left", "beat"] (defScope (topS 26)) := ⟨rfl, rfl, rfl, by decide +kernel, rfl, by decide +kernel, by decide +kernel⟩
def RStep (G : GC) (ok : Sen → Prop) : Rel G := fun ps r => ∃ (l : Lt) (s : Sen) (n : Nat) (b : Beat), s.Ok l ∧ ok s ∧ ps = [dat s.enc, dat (.int n), dat (beatD b)] ∧ r = dat (optD (s.step b n))
def isWithin (s : Sen) : Prop := ∃ p q k, s = .within p q k
def isCounted (s : Sen) : Prop := (∃ p k, s = .most p k) ∨ ∃ p k, s = .apart p k
def isMarked (s : Sen) : Prop := (∃ p q, s = .first p q) ∨ (∃ p q, s = .after p q) ∨ ∃ p q r, s = .until p q r
theorem fn_within (F : FunT G 26 "step_within" ["sentence", "left", "beat"]) (D : FnD G 4 "is_so_by" ["saying", "beat"] (RSo G 4)) : FnD G 5 "step_within" ["sentence", "left", "beat"] (RStep G isWithin) := by
  refine mk_def (k := 4) F scWithin (fun pvs r ⟨_, _, _, _, _, _, h, _⟩ => by rw [h]; rfl) fun pvs r ⟨l, s, n, b, hs, ⟨p, q, k, e⟩, h1, h2⟩ f cd A outer s' H E hr => ?_
  subst e h1 h2
  have hp := (hs.says p (by simp [Sen.says])).2
  have hq := (hs.says q (by simp [Sen.says])).2
  by_cases h0 : 0 < n
  · have e0 : decide ((0 : Int) < n) = true := decide_eq_true (by omega)
    by_cases hqb : q.so b = true
    · refine s_cons (s1_if (EvT.cast (t_w (w_and (EvT.cast (t_cmp c_gt (e_var 1) e_int) e0) fun _ => w_and1 (t_val (e_call D (Nat.le_refl _) (a_cons (e_ix (x_tup at2) (e_var 0) e_int) (a_cons (e_var 2) a_nil)) ⟨q, b, hq, rfl, rfl⟩)))) (show _ = true by rw [hqb]; rfl)) (fun _ => ?_) (fun h => nomatch h))
      refine s_cons (s1_set 1 e_int (s_nil ?_))
      have es : Sen.step b (.within p q k) n = some (if p.so b then k else 0) := by simp [Sen.step, h0, hqb]
      refine s_cons (s1_ret (EvD.cast (e_if (t := p.so b) (EvT.cast (t_w (w_and (EvT.cast (t_cmp c_eqI (e_var 1) e_int) (show _ = true by decide)) fun _ => w_and1 (t_val (e_call D (Nat.le_refl _) (a_cons (e_ix (x_tup at1) (e_var 0) e_int) (a_cons (e_var 2) a_nil)) ⟨p, b, hp, rfl, rfl⟩)))) (Bool.true_and _)) (fun h => EvD.cast (e_ix (x_tup at3) (e_var 0) e_int) (show _ = PyData.int ((if p.so b then k else 0 : Nat) : Int) by rw [h]; rfl)) (fun h => EvD.cast (e_var 1) (by rw [h]; rfl))) (by rw [es]; rfl)) rfl)
    · have hqb : q.so b = false := by simpa using hqb
      refine s_cons (s1_if (EvT.cast (t_w (w_and (EvT.cast (t_cmp c_gt (e_var 1) e_int) e0) fun _ => w_and1 (t_val (e_call D (Nat.le_refl _) (a_cons (e_ix (x_tup at2) (e_var 0) e_int) (a_cons (e_var 2) a_nil)) ⟨q, b, hq, rfl, rfl⟩)))) (show _ = false by rw [hqb]; rfl)) (fun h => nomatch h) fun _ => ?_)
      refine s_cons (s1_if (EvT.cast (t_cmp c_gt (e_var 1) e_int) e0) (fun _ => ?_) (fun h => nomatch h)) 
      refine s_cons (s1_set 1 (EvD.cI (e_bin b_sub (e_var 1) e_int) (show _ = ((n - 1 : Nat) : Int) by omega)) ?_)
      by_cases h1 : n = 1
      · subst h1
        refine s_cons (s1_if (EvT.cast (t_cmp c_eqI (e_var 1) e_int) (show _ = true by decide)) (fun _ => ?_) (fun h => nomatch h))
        exact s_cons (s1_ret e_non (by simp [Sen.step, hqb, optD]))
      · refine s_cons (s1_if (EvT.cast (t_cmp c_eqI (e_var 1) e_int) (show _ = false from decide_eq_false (by omega))) (fun h => nomatch h) fun _ => s_nil (s_nil (s_nil ?_)))
        have es : Sen.step b (.within p q k) n = some (n - 1) := by simp [Sen.step, h0, hqb, h1]
        exact s_cons (s1_ret (EvD.cast (e_if (t := false) (EvT.cast (t_w (w_and (u := false) (EvT.cast (t_cmp c_eqI (e_var 1) e_int) (show _ = false from decide_eq_false (by omega))) fun h => nomatch h)) rfl) (fun h => nomatch h) (fun _ => e_var 1)) (by rw [es]; rfl)) rfl)
  · have h0' : n = 0 := by omega
    subst h0'
    refine s_cons (s1_if (EvT.cast (t_w (w_and (u := false) (EvT.cast (t_cmp c_gt (e_var 1) e_int) (show _ = false by decide)) fun h => nomatch h)) rfl) (fun h => nomatch h) fun _ => ?_)
    refine s_cons (s1_if (EvT.cast (t_cmp c_gt (e_var 1) e_int) (show _ = false by decide)) (fun h => nomatch h) fun _ => s_nil (s_nil ?_))
    have es : Sen.step b (.within p q k) 0 = some (if p.so b then k else 0) := by simp [Sen.step]
    refine s_cons (s1_ret (EvD.cast (e_if (t := p.so b) (EvT.cast (t_w (w_and (EvT.cast (t_cmp c_eqI (e_var 1) e_int) (show _ = true by decide)) fun _ => w_and1 (t_val (e_call D (Nat.le_refl _) (a_cons (e_ix (x_tup at1) (e_var 0) e_int) (a_cons (e_var 2) a_nil)) ⟨p, b, hp, rfl, rfl⟩)))) (Bool.true_and _)) (fun h => EvD.cast (e_ix (x_tup at3) (e_var 0) e_int) (show _ = PyData.int ((if p.so b then k else 0 : Nat) : Int) by rw [h]; rfl)) (fun h => EvD.cast (e_var 1) (by rw [h]; rfl))) (by rw [es]; rfl)) rfl)
/-! step_counted -/
theorem scCounted : FnScope ["sentence", "state", "beat", "kind", "saying", "number", "is_here"] ["sentence", "state", "beat"] (defScope (topS 27)) := ⟨rfl, rfl, rfl, by decide +kernel, rfl, by decide +kernel, by decide +kernel⟩
theorem fn_counted (B : Bs G) (F : FunT G 27 "step_counted" ["sentence", "state", "beat"]) (D : FnD G 4 "is_so_by" ["saying", "beat"] (RSo G 4)) : FnD G 5 "step_counted" ["sentence", "state", "beat"] (RStep G isCounted) := by
  refine mk_def (k := 4) F scCounted (fun pvs r ⟨_, _, _, _, _, _, h, _⟩ => by rw [h]; rfl) fun pvs r ⟨l, s, n, b, hs, hk, h1, h2⟩ f cd A outer s' H E hr => ?_
  subst h1 h2
  rcases hk with ⟨p, k, e⟩ | ⟨p, k, e⟩
  · subst e
    have hp := (hs.says p (by simp [Sen.says])).2
    refine s_cons (s1_asg (e_var 0) (TgD.dat (ds := [.str "most", p.enc, .int (k : Nat)]) (g_three 3 4 5 rfl rfl rfl (.inl rfl) (.inl rfl) (.inl rfl) (.inl rfl) (.inl rfl) (.inl rfl))) ?_)
    refine s_cons (s1_set 6 (e_call D (Nat.le_refl _) (a_cons (e_var 4) (a_cons (e_var 2) a_nil)) ⟨p, b, hp, rfl, rfl⟩) ?_)
    refine s_cons (s1_if (EvT.cast (t_cmp c_eqS (e_var 3) e_str) (show _ = true by decide +kernel)) (fun _ => ?_) (fun h => nomatch h))
    have ei : (n : Int) + (if p.so b = true then 1 else 0) = ((n + (if p.so b then 1 else 0) : Nat) : Int) := by split <;> omega
    by_cases hle : n + (if p.so b then 1 else 0) ≤ k
    · have es : Sen.step b (.most p k) n = some (n + (if p.so b then 1 else 0)) := by simp only [Sen.step]; rw [if_pos hle]
      exact s_cons (s1_ret (EvD.cast (e_if (t := true) (EvT.cast (t_cmp c_le (EvD.cI (e_bin b_add (e_var 1) (e_intB B (e_var 6))) ei) (e_var 5)) (decide_eq_true (by omega))) (fun _ => EvD.cI (e_bin b_add (e_var 1) (e_intB B (e_var 6))) ei) (fun h => nomatch h)) (by rw [es]; rfl)) rfl)
    · have es : Sen.step b (.most p k) n = none := by simp only [Sen.step]; rw [if_neg hle]
      exact s_cons (s1_ret (EvD.cast (e_if (t := false) (EvT.cast (t_cmp c_le (EvD.cI (e_bin b_add (e_var 1) (e_intB B (e_var 6))) ei) (e_var 5)) (decide_eq_false (by omega))) (fun h => nomatch h) (fun _ => e_non)) (by rw [es]; rfl)) rfl)
  · subst e
    have hp := (hs.says p (by simp [Sen.says])).2
    refine s_cons (s1_asg (e_var 0) (TgD.dat (ds := [.str "apart", p.enc, .int (k : Nat)]) (g_three 3 4 5 rfl rfl rfl (.inl rfl) (.inl rfl) (.inl rfl) (.inl rfl) (.inl rfl) (.inl rfl))) ?_)
    refine s_cons (s1_set 6 (e_call D (Nat.le_refl _) (a_cons (e_var 4) (a_cons (e_var 2) a_nil)) ⟨p, b, hp, rfl, rfl⟩) ?_)
    refine s_cons (s1_if (EvT.cast (t_cmp c_eqS (e_var 3) e_str) (show _ = false by decide +kernel)) (fun h => nomatch h) fun _ => s_nil ?_)
    refine s_cons (s1_if (t_val (e_var 6)) (fun hb => ?_) fun hb => s_nil ?_)
    · by_cases h0 : n = 0
      · have es : Sen.step b (.apart p k) n = some k := by simp [Sen.step, hb, h0]
        exact s_cons (s1_ret (EvD.cast (e_if (t := true) (EvT.cast (t_cmp c_eqI (e_var 1) e_int) (decide_eq_true (by omega))) (fun _ => e_var 5) (fun h => nomatch h)) (by rw [es]; rfl)) rfl)
      · have es : Sen.step b (.apart p k) n = none := by simp [Sen.step, hb, h0]
        exact s_cons (s1_ret (EvD.cast (e_if (t := false) (EvT.cast (t_cmp c_eqI (e_var 1) e_int) (decide_eq_false (by omega))) (fun h => nomatch h) (fun _ => e_non)) (by rw [es]; rfl)) rfl)
    · have es : Sen.step b (.apart p k) n = some (n - 1) := by simp [Sen.step, hb]
      exact s_cons (s1_ret (EvD.cast (e_max B e_int (e_bin b_sub (e_var 1) e_int)) (by rw [es]; show PyData.int _ = PyData.int _; congr 1; split <;> omega)) rfl)
/-! step_marked -/
theorem scMarked : FnScope ["sentence", "state", "beat", "is_here", "is_barred", "is_over"] ["sentence", "state", "beat"] (defScope (topS 28)) := ⟨rfl, rfl, rfl, by decide +kernel, rfl, by decide +kernel, by decide +kernel⟩
theorem fn_marked (B : Bs G) (F : FunT G 28 "step_marked" ["sentence", "state", "beat"]) (D : FnD G 4 "is_so_by" ["saying", "beat"] (RSo G 4)) : FnD G 5 "step_marked" ["sentence", "state", "beat"] (RStep G isMarked) := by
  refine mk_def (k := 4) F scMarked (fun pvs r ⟨_, _, _, _, _, _, h, _⟩ => by rw [h]; rfl) fun pvs r ⟨l, s, n, b, hs, hk, h1, h2⟩ f cd A outer s' H E hr => ?_
  subst h1 h2
  have en : decide ((n : Int) = 0) = decide (n = 0) := by by_cases h : n = 0 <;> simp [h]
  have en1 : decide ((n : Int) = 1) = decide (n = 1) := by
    by_cases h : n = 1
    · simp [h]
    · rw [decide_eq_false h, decide_eq_false (by omega)]
  rcases hk with ⟨p, q, e⟩ | ⟨p, q, e⟩ | ⟨p, q, r, e⟩
  · subst e
    have hp := (hs.says p (by simp [Sen.says])).2
    have hq := (hs.says q (by simp [Sen.says])).2
    refine s_cons (s1_par2 3 4 (e_call D (Nat.le_refl _) (a_cons (e_ix (x_tup at1) (e_var 0) e_int) (a_cons (e_var 2) a_nil)) ⟨p, b, hp, rfl, rfl⟩) (e_call D (Nat.le_refl _) (a_cons (e_ix (x_tup at2) (e_var 0) e_int) (a_cons (e_var 2) a_nil)) ⟨q, b, hq, rfl, rfl⟩) ?_)
    refine s_cons (s1_if (EvT.cast (t_cmp c_eqS (e_ix (x_tup at0) (e_var 0) e_int) e_str) (show _ = true by decide +kernel)) (fun _ => ?_) (fun h => nomatch h))
    refine s_cons (s1_if (t_w (w_and (t_val (e_var 4)) fun _ => w_and (t_not (t_val (e_var 3))) fun _ => w_and1 (EvT.cast (t_cmp c_eqI (e_var 1) e_int) en))) (fun hb => ?_) fun hb => s_nil ?_)
    · simp only [Bool.and_eq_true, Bool.not_eq_true', decide_eq_true_eq] at hb
      obtain ⟨b1, b2, b3⟩ := hb
      exact s_cons (s1_ret e_non (by simp [Sen.step, b1, b2, b3, optD]))
    · have es : Sen.step b (.first p q) n = some (if p.so b then 1 else n) := by
        simp only [Sen.step]
        rw [if_neg]
        rintro ⟨c1, c2, c3⟩
        rw [c1, c3] at hb
        have c2 : p.so b = false := by simpa using c2
        rw [c2] at hb
        simp at hb
      exact s_cons (s1_ret (EvD.cast (e_if (t := p.so b) (t_val (e_var 3)) (fun h => EvD.cast e_int (show _ = PyData.int ((if p.so b then 1 else n : Nat) : Int) by rw [h]; rfl)) (fun h => EvD.cast (e_var 1) (by rw [h]; rfl))) (by rw [es]; rfl)) rfl)
  · subst e
    have hp := (hs.says p (by simp [Sen.says])).2
    have hq := (hs.says q (by simp [Sen.says])).2
    refine s_cons (s1_par2 3 4 (e_call D (Nat.le_refl _) (a_cons (e_ix (x_tup at1) (e_var 0) e_int) (a_cons (e_var 2) a_nil)) ⟨p, b, hp, rfl, rfl⟩) (e_call D (Nat.le_refl _) (a_cons (e_ix (x_tup at2) (e_var 0) e_int) (a_cons (e_var 2) a_nil)) ⟨q, b, hq, rfl, rfl⟩) ?_)
    refine s_cons (s1_if (EvT.cast (t_cmp c_eqS (e_ix (x_tup at0) (e_var 0) e_int) e_str) (show _ = false by decide +kernel)) (fun h => nomatch h) fun _ => s_nil ?_)
    refine s_cons (s1_set 5 (EvD.cB (e_and (u := false) (EvD.cB (t2 := false) (e_cmp c_eqS (e_ix (x_tup at0) (e_var 0) e_int) e_str) (by decide +kernel)) fun h => nomatch h) (t2 := false) rfl) ?_)
    refine s_cons (s1_if (t_w (w_and (EvT.cast (t_cmp c_eqI (e_var 1) e_int) en1) fun _ => w_and (t_val (e_var 4)) fun _ => w_and1 (t_not (t_val (e_var 5))))) (fun hb => ?_) fun hb => s_nil ?_)
    · simp only [Bool.and_eq_true, decide_eq_true_eq] at hb
      obtain ⟨b1, b2, _⟩ := hb
      exact s_cons (s1_ret e_non (by simp [Sen.step, b1, b2, optD]))
    · have es : Sen.step b (.after p q) n = some (if p.so b then 1 else if n = 1 then 1 else 0) := by
        simp only [Sen.step]
        rw [if_neg]
        rintro ⟨c1, c2⟩
        rw [c1, c2] at hb
        simp at hb
      refine s_cons (s1_ret (EvD.cast (e_if (t := p.so b) (t_val (e_var 3)) (fun h => EvD.cast e_int (show _ = PyData.int ((if p.so b then 1 else if n = 1 then 1 else 0 : Nat) : Int) by rw [h]; rfl)) (fun h => EvD.cast (e_intB B (t := decide (n = 1)) (EvD.cB (e_and (EvD.cB (e_cmp c_eqI (e_var 1) e_int) en1) fun _ => e_one (e_not (e_var 5))) (by simp))) (by rw [h]; by_cases h1 : n = 1 <;> simp [h1]))) (by rw [es]; rfl)) rfl)
  · subst e
    have hp := (hs.says p (by simp [Sen.says])).2
    have hq := (hs.says q (by simp [Sen.says])).2
    have hr' := (hs.says r (by simp [Sen.says])).2
    refine s_cons (s1_par2 3 4 (e_call D (Nat.le_refl _) (a_cons (e_ix (x_tup at1) (e_var 0) e_int) (a_cons (e_var 2) a_nil)) ⟨p, b, hp, rfl, rfl⟩) (e_call D (Nat.le_refl _) (a_cons (e_ix (x_tup at2) (e_var 0) e_int) (a_cons (e_var 2) a_nil)) ⟨q, b, hq, rfl, rfl⟩) ?_)
    refine s_cons (s1_if (EvT.cast (t_cmp c_eqS (e_ix (x_tup at0) (e_var 0) e_int) e_str) (show _ = false by decide +kernel)) (fun h => nomatch h) fun _ => s_nil ?_)
    refine s_cons (s1_set 5 (EvD.cB (e_and (EvD.cB (t2 := true) (e_cmp c_eqS (e_ix (x_tup at0) (e_var 0) e_int) e_str) (by decide +kernel)) fun _ => e_one (e_call D (Nat.le_refl _) (a_cons (e_ix (x_tup at3) (e_var 0) e_int) (a_cons (e_var 2) a_nil)) ⟨r, b, hr', rfl, rfl⟩)) (t2 := r.so b) (Bool.true_and _)) ?_)
    refine s_cons (s1_if (t_w (w_and (EvT.cast (t_cmp c_eqI (e_var 1) e_int) en1) fun _ => w_and (t_val (e_var 4)) fun _ => w_and1 (t_not (t_val (e_var 5))))) (fun hb => ?_) fun hb => s_nil ?_)
    · simp only [Bool.and_eq_true, Bool.not_eq_true', decide_eq_true_eq] at hb
      obtain ⟨b1, b2, b3⟩ := hb
      exact s_cons (s1_ret e_non (by simp [Sen.step, b1, b2, b3, optD]))
    · have es : Sen.step b (.until p q r) n = some (if p.so b then 1 else if n = 1 ∧ !(r.so b) then 1 else 0) := by
        simp only [Sen.step]
        rw [if_neg]
        rintro ⟨c1, c2, c3⟩
        have c3 : r.so b = false := by simpa using c3
        rw [c1, c2, c3] at hb
        simp at hb
      refine s_cons (s1_ret (EvD.cast (e_if (t := p.so b) (t_val (e_var 3)) (fun h => EvD.cast e_int (show _ = PyData.int ((if p.so b then 1 else if n = 1 ∧ !(r.so b) then 1 else 0 : Nat) : Int) by rw [h]; rfl)) (fun h => EvD.cast (e_intB B (t := decide (n = 1) && !(r.so b)) (e_and (EvD.cB (e_cmp c_eqI (e_var 1) e_int) en1) fun _ => e_one (e_not (e_var 5)))) (by rw [h]; by_cases h1 : n = 1 <;> cases r.so b <;> simp [h1]))) (by rw [es]; rfl)) rfl)
/-! step_by -/
theorem scStep : FnScope ["sentence", "state", "beat"] ["sentence", "state", "beat"] (defScope (topS 29)) := ⟨rfl, rfl, rfl, by decide +kernel, rfl, by decide +kernel, by decide +kernel⟩
theorem fn_step (F : FunT G 29 "step_by" ["sentence", "state", "beat"]) (D : FnD G 4 "is_so_by" ["saying", "beat"] (RSo G 4)) (D1 : FnD G 5 "step_within" ["sentence", "left", "beat"] (RStep G isWithin)) (D2 : FnD G 5 "step_counted" ["sentence", "state", "beat"] (RStep G isCounted)) (D3 : FnD G 5 "step_marked" ["sentence", "state", "beat"] (RStep G isMarked)) :
    FnD G 6 "step_by" ["sentence", "state", "beat"] (RStep G fun _ => True) := by
  refine mk_def (k := 5) F scStep (fun pvs r ⟨_, _, _, _, _, _, h, _⟩ => by rw [h]; rfl) fun pvs r ⟨l, s, n, b, hs, _, h1, h2⟩ f cd A outer s' H E hr => ?_
  subst h1 h2
  have inMA : ∀ {x : Str} {t : Bool}, inD (.str x) [.str "most", .str "apart"] = t → True := fun _ => True.intro
  cases s with
  | never p =>
    have hp := (hs.says p (by simp [Sen.says])).2
    refine s_cons (s1_if (EvT.cast (t_cmp c_eqS (e_ix (x_tup at0) (e_var 0) e_int) e_str) (show _ = true by decide +kernel)) (fun _ => ?_) (fun h => nomatch h))
    exact s_cons (s1_ret (e_if (t := p.so b) (t_val (e_call D (show 4 ≤ 5 by decide) (a_cons (e_ix (x_tup at1) (e_var 0) e_int) (a_cons (e_var 2) a_nil)) ⟨p, b, hp, rfl, rfl⟩)) (fun h => EvD.cast e_non (show _ = optD (Sen.step b (.never p) n) by simp [Sen.step, h, optD])) (fun h => EvD.cast e_int (by simp [Sen.step, h, optD]))) rfl)
  | within p q k =>
    refine s_cons (s1_if (EvT.cast (t_cmp c_eqS (e_ix (x_tup at0) (e_var 0) e_int) e_str) (show _ = false by decide +kernel)) (fun h => nomatch h) fun _ => s_nil ?_)
    refine s_cons (s1_if (EvT.cast (t_cmp c_eqS (e_ix (x_tup at0) (e_var 0) e_int) e_str) (show _ = true by decide +kernel)) (fun _ => ?_) (fun h => nomatch h))
    exact s_cons (s1_ret (e_call D1 (Nat.le_refl _) (a_cons (e_var 0) (a_cons (e_var 1) (a_cons (e_var 2) a_nil))) ⟨l, _, n, b, hs, ⟨p, q, k, rfl⟩, rfl, rfl⟩) rfl)
  | most p k =>
    refine s_cons (s1_if (EvT.cast (t_cmp c_eqS (e_ix (x_tup at0) (e_var 0) e_int) e_str) (show _ = false by decide +kernel)) (fun h => nomatch h) fun _ => s_nil ?_)
    refine s_cons (s1_if (EvT.cast (t_cmp c_eqS (e_ix (x_tup at0) (e_var 0) e_int) e_str) (show _ = false by decide +kernel)) (fun h => nomatch h) fun _ => s_nil ?_)
    refine s_cons (s1_if (EvT.cast (t_cmp (c_inT rfl rfl) (e_ix (x_tup at0) (e_var 0) e_int) (e_tup (ds := [.str "most", .str "apart"]) (a_cons e_str (a_cons e_str a_nil)))) (show _ = true by decide +kernel)) (fun _ => ?_) (fun h => nomatch h))
    exact s_cons (s1_ret (e_call D2 (Nat.le_refl _) (a_cons (e_var 0) (a_cons (e_var 1) (a_cons (e_var 2) a_nil))) ⟨l, _, n, b, hs, .inl ⟨p, k, rfl⟩, rfl, rfl⟩) rfl)
  | apart p k =>
    refine s_cons (s1_if (EvT.cast (t_cmp c_eqS (e_ix (x_tup at0) (e_var 0) e_int) e_str) (show _ = false by decide +kernel)) (fun h => nomatch h) fun _ => s_nil ?_)
    refine s_cons (s1_if (EvT.cast (t_cmp c_eqS (e_ix (x_tup at0) (e_var 0) e_int) e_str) (show _ = false by decide +kernel)) (fun h => nomatch h) fun _ => s_nil ?_)
    refine s_cons (s1_if (EvT.cast (t_cmp (c_inT rfl rfl) (e_ix (x_tup at0) (e_var 0) e_int) (e_tup (ds := [.str "most", .str "apart"]) (a_cons e_str (a_cons e_str a_nil)))) (show _ = true by decide +kernel)) (fun _ => ?_) (fun h => nomatch h))
    exact s_cons (s1_ret (e_call D2 (Nat.le_refl _) (a_cons (e_var 0) (a_cons (e_var 1) (a_cons (e_var 2) a_nil))) ⟨l, _, n, b, hs, .inr ⟨p, k, rfl⟩, rfl, rfl⟩) rfl)
  | first p q =>
    refine s_cons (s1_if (EvT.cast (t_cmp c_eqS (e_ix (x_tup at0) (e_var 0) e_int) e_str) (show _ = false by decide +kernel)) (fun h => nomatch h) fun _ => s_nil ?_)
    refine s_cons (s1_if (EvT.cast (t_cmp c_eqS (e_ix (x_tup at0) (e_var 0) e_int) e_str) (show _ = false by decide +kernel)) (fun h => nomatch h) fun _ => s_nil ?_)
    refine s_cons (s1_if (EvT.cast (t_cmp (c_inT rfl rfl) (e_ix (x_tup at0) (e_var 0) e_int) (e_tup (ds := [.str "most", .str "apart"]) (a_cons e_str (a_cons e_str a_nil)))) (show _ = false by decide +kernel)) (fun h => nomatch h) fun _ => s_nil ?_)
    exact s_cons (s1_ret (e_call D3 (Nat.le_refl _) (a_cons (e_var 0) (a_cons (e_var 1) (a_cons (e_var 2) a_nil))) ⟨l, _, n, b, hs, .inl ⟨p, q, rfl⟩, rfl, rfl⟩) rfl)
  | after p q =>
    refine s_cons (s1_if (EvT.cast (t_cmp c_eqS (e_ix (x_tup at0) (e_var 0) e_int) e_str) (show _ = false by decide +kernel)) (fun h => nomatch h) fun _ => s_nil ?_)
    refine s_cons (s1_if (EvT.cast (t_cmp c_eqS (e_ix (x_tup at0) (e_var 0) e_int) e_str) (show _ = false by decide +kernel)) (fun h => nomatch h) fun _ => s_nil ?_)
    refine s_cons (s1_if (EvT.cast (t_cmp (c_inT rfl rfl) (e_ix (x_tup at0) (e_var 0) e_int) (e_tup (ds := [.str "most", .str "apart"]) (a_cons e_str (a_cons e_str a_nil)))) (show _ = false by decide +kernel)) (fun h => nomatch h) fun _ => s_nil ?_)
    exact s_cons (s1_ret (e_call D3 (Nat.le_refl _) (a_cons (e_var 0) (a_cons (e_var 1) (a_cons (e_var 2) a_nil))) ⟨l, _, n, b, hs, .inr (.inl ⟨p, q, rfl⟩), rfl, rfl⟩) rfl)
  | «until» p q r =>
    refine s_cons (s1_if (EvT.cast (t_cmp c_eqS (e_ix (x_tup at0) (e_var 0) e_int) e_str) (show _ = false by decide +kernel)) (fun h => nomatch h) fun _ => s_nil ?_)
    refine s_cons (s1_if (EvT.cast (t_cmp c_eqS (e_ix (x_tup at0) (e_var 0) e_int) e_str) (show _ = false by decide +kernel)) (fun h => nomatch h) fun _ => s_nil ?_)
    refine s_cons (s1_if (EvT.cast (t_cmp (c_inT rfl rfl) (e_ix (x_tup at0) (e_var 0) e_int) (e_tup (ds := [.str "most", .str "apart"]) (a_cons e_str (a_cons e_str a_nil)))) (show _ = false by decide +kernel)) (fun h => nomatch h) fun _ => s_nil ?_)
    exact s_cons (s1_ret (e_call D3 (Nat.le_refl _) (a_cons (e_var 0) (a_cons (e_var 1) (a_cons (e_var 2) a_nil))) ⟨l, _, n, b, hs, .inr (.inr ⟨p, q, r, rfl⟩), rfl, rfl⟩) rfl)
end
end MR
/-! T7: step_rows, renumbered. -/
namespace MR
open PySem PySem.Spec PyProof.Rows L2
def rowT (r : List (Option Nat)) : PyData := .tuple (r.map optD)
def rowsT (R : Rows) : PyData := .tuple (R.map rowT)
def rowL (r : List (Option Nat)) : PyData := .list (r.map optD)
def rowsL (R : Rows) : PyData := .list (R.map rowL)
def intsT (l : List Nat) : PyData := .tuple (l.map fun k => PyData.int (k : Nat))
def natsL (l : List Nat) : PyData := .list (l.map fun k => PyData.int (k : Nat))
theorem at_map {α : Type} {f : α → PyData} {l : List α} {k : Nat} {x : α} (h : l[k]? = some x) : atI (l.map f) (k : Nat) = some (f x) := atI_nat (by rw [List.getElem?_map, h]; rfl)
/-- where the watchers stand behind a beat -/
def foundOf (W : List Rows) (at_ : Nat) (ss : List Nat) : List (Option Nat) := (W.zip ss).map fun q => (rowAt q.1 q.2).getD at_ none
def prodStep (W : List Rows) (ss : List Nat) (at_ : Nat) : Option (List Nat) := if (foundOf W at_ ss).all Option.isSome then some ((foundOf W at_ ss).map (·.getD 0)) else none
def optT : Option (List Nat) → PyData
  | none => .none
  | some l => intsT l
theorem inD_none (l : List (Option Nat)) : inD .none (l.map optD) = !(l.all Option.isSome) := by
  unfold inD inV
  induction l with
  | nil => rfl
  | cons x l ih =>
    rw [List.map_cons, List.map_cons, List.any_cons, ih, List.all_cons]
    cases x with
    | none => rfl
    | some k =>
      have : L2.eqV (vOf (optD (some k))) (vOf .none) = false := rfl
      rw [this]
      simp
theorem opt_flat (l : List (Option Nat)) : (l.map optD).all flatD = true := by
  rw [List.all_map]
  exact List.all_eq_true.mpr fun x _ => by cases x <;> rfl
theorem all_somes {l : List (Option Nat)} (h : l.all Option.isSome = true) : l.map optD = (l.map (·.getD 0)).map fun k => PyData.int (k : Nat) := by
  rw [List.map_map]
  refine List.map_congr_left fun x hx => ?_
  have := List.all_eq_true.mp h x hx
  cases x with
  | none => cases this
  | some k => rfl
section
variable {G : GC} {L : LC G} {ρ : Rho G} {pos : Pos} {e : Expr}
theorem scStepRows : FnScope ["watchers", "states", "at", "found", "rows", "state"] ["watchers", "states", "at"] (defScope (topS 31)) := ⟨rfl, rfl, rfl, by decide +kernel, rfl, by decide +kernel, by decide +kernel⟩
def RStepRows (G : GC) : Rel G := fun ps r => ∃ (w : Nat) (W : List Rows) (ss : List Nat) (at_ : Nat), (∀ R ∈ W, RowsOk w R) ∧ ss.length = W.length ∧ W.length ≤ 100 ∧ (∀ (i : Nat) R s, W[i]? = some R → ss[i]? = some s → s < R.length) ∧ at_ < w ∧
  ps = [dat (.list (W.map rowsT)), dat (intsT ss), dat (.int (at_ : Nat))] ∧ r = dat (optT (prodStep W ss at_))
theorem fn_step_rows (B : Bs G) (F : FunT G 31 "step_rows" ["watchers", "states", "at"]) : FnD G 1 "step_rows" ["watchers", "states", "at"] (RStepRows G) := by
  refine mk_def (k := 0) F scStepRows (fun pvs r ⟨_, _, _, _, _, _, _, _, _, h, _⟩ => by rw [h]; rfl) fun pvs r ⟨w, W, ss, n, hW, hl, h100, hs, hn, h1, h2⟩ f cd A outer s' H E hr => ?_
  subst h1 h2
  have len : (foundOf W n ss).length = W.length := by
    unfold foundOf
    rw [List.length_map, List.length_zip, hl, Nat.min_self]
  refine s_cons (s1_lc 3 (lcP (own := [("rows", 4), ("state", 5)]) 4 5 ((foundOf W n ss).map optD) (ItD.cast (i_zipLT B.zip (e_var 0) (e_var 1)) (zipQ_eq _ _)) (blk_body (by decide +kernel)) ?_ ?_ fun s H C' cl fp k q g hq hg => ?_) ?_)
  · rw [zipQ_len, List.length_map, List.length_map, List.length_map, len, hl, Nat.min_self]
  · rw [zipQ_len, List.length_map, List.length_map, hl, Nat.min_self]
    omega
  · obtain ⟨d, e, h1, h2, rfl⟩ := zipQ_get hq
    obtain ⟨R, hR, rfl⟩ := map_get h1
    obtain ⟨t, ht, rfl⟩ := map_get h2
    obtain ⟨o, ho, rfl⟩ := map_get hg
    have ok := hW R (List.mem_of_getElem? hR)
    have hlt := hs k R t hR ht
    obtain ⟨e1, e2, _⟩ := ok.row hlt
    have ho2 : o = (rowAt R t).getD n none := by
      unfold foundOf at ho
      rw [List.getElem?_map, (List.getElem?_zip_eq_some (z := (R, t))).mpr ⟨hR, ht⟩] at ho
      exact (Option.some.inj ho).symm
    have e3 : (rowAt R t)[n]? = some o := by
      rw [ho2, List.getD_eq_getElem?_getD, List.getElem?_eq_getElem (by omega)]
      rfl
    exact e_ix (x_tup (at_map (f := optD) e3)) (e_ix (x_tup (at_map (f := rowT) e1)) (e_var 4) (e_var 5)) (e_var 2)
  · by_cases ha : (foundOf W n ss).all Option.isSome = true
    · have ep : prodStep W ss n = some ((foundOf W n ss).map (·.getD 0)) := by unfold prodStep; rw [if_pos ha]
      exact s_cons (s1_ret (EvD.cast (e_if (t := false) (EvT.cast (t_cmp (c_inL rfl (opt_flat _)) e_non (e_var 3)) (by rw [inD_none, ha]; rfl)) (fun h => nomatch h) fun _ => e_tuple B (e_var 3)) (by rw [ep, all_somes ha]; rfl)) rfl)
    · have ep : prodStep W ss n = none := by unfold prodStep; rw [if_neg ha]
      have ha : (foundOf W n ss).all Option.isSome = false := by simpa using ha
      exact s_cons (s1_ret (EvD.cast (e_if (t := true) (EvT.cast (t_cmp (c_inL rfl (opt_flat _)) e_non (e_var 3)) (by rw [inD_none, ha]; rfl)) (fun _ => e_non) fun h => nomatch h) (by rw [ep]; rfl)) rfl)
/-! dicts of places -/
theorem snocInd {α : Type} {P : List α → Prop} (h0 : P []) (hs : ∀ l x, P l → P (l ++ [x])) (l : List α) : P l := by
  have h : ∀ m : List α, P m.reverse := fun m => by
    induction m with
    | nil => exact h0
    | cons x m ih => rw [List.reverse_cons]; exact hs _ _ ih
  have := h l.reverse
  rwa [List.reverse_reverse] at this
/-- a dict of places: the keys enc x, the values their places -/
def placeD {σ : Type} (enc : σ → PyData) (o : List σ) : List (PyData × PyData) := o.mapIdx fun i x => (enc x, .int (i : Nat))
theorem placeD_snoc {σ : Type} (enc : σ → PyData) (o : List σ) (x : σ) : placeD enc (o ++ [x]) = placeD enc o ++ [(enc x, .int (o.length : Nat))] := by
  unfold placeD
  rw [List.mapIdx_append]
  simp
theorem dget_app {l m : List (PyData × PyData)} {k : PyData} : dget (l ++ m) k = (dget l k).or (dget m k) := by
  unfold dget
  rw [List.find?_append]
  cases List.find? (fun q => decide (nk q.1 = nk k)) l <;> rfl
theorem dget_place {σ : Type} [DecidableEq σ] {enc : σ → PyData} (inj : ∀ x y, nk (enc x) = nk (enc y) → x = y) (o : List σ) (x : σ) : dget (placeD enc o) (enc x) = if x ∈ o then some (.int (ix o x : Nat)) else none := by
  revert x
  refine snocInd (P := fun o => ∀ x, dget (placeD enc o) (enc x) = if x ∈ o then some (.int (ix o x : Nat)) else none) (fun _ => rfl) (fun o y ih x => ?_) o
  · rw [placeD_snoc, dget_app, ih]
    by_cases hx : x ∈ o
    · rw [if_pos hx, if_pos (List.mem_append_left _ hx)]
      have := ix_pre (o := o) (f := o ++ [y]) (x := x) (List.prefix_append _ _) hx
      rw [this]
      rfl
    · rw [if_neg hx]
      by_cases hy : x = y
      · subst hy
        rw [if_pos (by simp), ix_new hx, dget_pos rfl]
        rfl
      · rw [if_neg (by simp [hx, hy]), dget_neg (fun z => hy (inj _ _ z).symm)]
        rfl
theorem place_len {σ : Type} (enc : σ → PyData) (o : List σ) : (placeD enc o).length = o.length := by simp [placeD]
end
end MR
/-! T8: renumbered. -/
namespace MR
open PySem PySem.Spec PyProof.Rows L2
def natD (k : Nat) : PyData := .int (k : Nat)
theorem natD_inj (x y : Nat) (h : nk (natD x) = nk (natD y)) : x = y := by
  have h : NestedKey.num (x : Int) = NestedKey.num (y : Int) := h
  exact Int.ofNat.inj (NestedKey.num.inj h)
theorem keyI (k : Nat) : KeyOk false (natD k) := ⟨rfl, fun _ => ⟨_, rfl⟩, fun h => nomatch h⟩
theorem dput_new {kvs : List (PyData × PyData)} {k v : PyData} (h : dget kvs k = none) : dput kvs k v = kvs ++ [(k, v)] := by
  unfold dput
  rw [h]
  rfl
theorem visit_snoc {σ : Type} [DecidableEq σ] (o : List σ) (l : List (Option σ)) (k : Nat) (b : Option σ) (h : l[k]? = some b) : visit o (l.take (k + 1)) = visit (visit o (l.take k)) [b] := by
  have e : l.take (k + 1) = l.take k ++ [b] := by rw [List.take_add_one, h]; rfl
  rw [e, visit_app]
section
variable {G : GC} {L : LC G} {ρ : Rho G} {pos : Pos} {e : Expr}
/-- a view of two owned containers, at the slots i, j -/
theorem view2 {sl : List (Option (PV G))} {a b : Addr} {ds : List PyData} {t : Bool} {kvs : List (PyData × PyData)} (i j : Nat) (hi : sl[i]? = some (some (refP a))) (hj : sl[j]? = some (some (refP b))) :
    View sl [(b, .dct t kvs), (a, .lst ds)] ((sl.set i (some (dat (.list ds)))).set j (some (dctP t kvs))) :=
  (View.refl.set i hi (imp_lst (by simp))).set j hj (imp_dct (by simp))
theorem scRenumbered : FnScope ["rows", "order", "number", "at", "behind", "state"] ["rows"] (defScope (topS 32)) := ⟨rfl, rfl, rfl, by decide +kernel, rfl, by decide +kernel, by decide +kernel⟩
def RRenumbered (G : GC) : Rel G := fun ps r => ∃ (w : Nat) (R out : Rows), RowsOk w R ∧ w ≤ 100 ∧ R.length ≤ 1000 ∧ (∃ o, o.length ≤ 1000 ∧ Bfs (rowAt R) [0] 0 o ∧ out = tabOf (rowAt R) o) ∧ ps = [dat (rowsL R)] ∧ r = dat (rowsT out)
theorem fn_renumbered (B : Bs G) (F : FunT G 32 "renumbered" ["rows"]) : FnD G 1 "renumbered" ["rows"] (RRenumbered G) := by
  refine mk_def (k := 0) F scRenumbered (fun pvs r ⟨_, _, _, _, _, _, _, h, _⟩ => by rw [h]; rfl) fun pvs r ⟨w, R, out, hR, hw, hRl, ⟨o, hol, hb, ho⟩, h1, h2⟩ f cd A outer s' H E hr => ?_
  subst h1 h2 ho
  have olt : ∀ x ∈ o, x < R.length := hb.lt hR fun x hx => by
    rw [List.mem_singleton.mp hx]
    exact hR.pos
  refine s_cons (s1_tup3 1 2 3 (am3 (em_ownL (ds := [natD 0]) (a_cons e_int a_nil)) (fun p ρ1 _ => em_ownD1 false (keyI 0) (fun _ => e_int) (fun _ => e_int)) (fun p ρ1 q ρ2 _ _ => e_int (i := 0))) ?_)
  rintro ps ρ1 ⟨p, ρ2, q, ρ3, r, ⟨a, rfl, rfl⟩, ⟨b, rfl, rfl⟩, ⟨rfl, rfl⟩, rfl⟩
  refine ⟨_, _, _, rfl, ?_⟩
  -- the search
  refine s_cons (s1_while (fun m ρ => ∃ (cur : List Nat) (n : Nat) (beh : Option (PV G)), Bfs (rowAt R) cur n o ∧ m = o.length + 1 - n ∧ ρ = ⟨[some (dat (rowsL R)), some (refP a), some (refP b), some (dat (.int (n : Nat))), beh, none], [(b, .dct false (placeD natD cur)), (a, .lst (cur.map natD))]⟩) ⟨_, [0], 0, none, hb, rfl, rfl⟩ ?_)
  rintro m ρ1 ⟨cur, n, beh, hc, rfl, rfl⟩
  have V0 := view2 (G := G) (sl := [some (dat (rowsL R)), some (refP a), some (refP b), some (dat (.int (n : Nat))), beh, none]) (a := a) (b := b) (ds := cur.map natD) (t := false) (kvs := placeD natD cur) 1 2 rfl rfl
  have cl : cur.length ≤ 1000 := Nat.le_trans hc.pre.1.length_le hol
  refine ⟨decide (n < cur.length), t_own V0 (EvT.cast (t_cmp c_lt (e_var 3) (e_lenL B (e_var 1))) (by rw [List.length_map]; exact decide_eq_decide.mpr (by omega))), fun ht => ?_, fun hf => ?_⟩
  · have hn : n < cur.length := of_decide_eq_true ht
    rcases hc.inv with ⟨h1, _⟩ | ⟨s, hs, hc2⟩
    · omega
    have slt : s < R.length := olt s (hc.pre.1.subset (List.mem_of_getElem? hs))
    obtain ⟨e1, e2, e3⟩ := hR.row slt
    refine s_cons (s1_forN (ds := (rowAt R s).map optD) 4 (i_lst (e_ix (x_lst (at_map (f := rowL) e1)) (e_var 0) (e_own V0 (e_ix (x_lst (at_map (f := natD) hs)) (e_var 1) (e_var 3)))))
      (fun k ρ => ∃ beh, ρ = ⟨[some (dat (rowsL R)), some (refP a), some (refP b), some (dat (.int (n : Nat))), beh, none], [(b, .dct false (placeD natD (visit cur ((rowAt R s).take k)))), (a, .lst ((visit cur ((rowAt R s).take k)).map natD))]⟩) ⟨beh, by simp [visit]⟩ ?_ ?_)
    · rintro k d ρ1 hd ⟨beh1, rfl⟩
      obtain ⟨bh, hbh, rfl⟩ := map_get hd
      have hv := visit_snoc cur (rowAt R s) k bh hbh
      have pf : visit cur ((rowAt R s).take k) <+: o := by
        have h1 : visit cur ((rowAt R s).take k) <+: visit cur (rowAt R s) := by
          conv => rhs; rw [← List.take_append_drop k (rowAt R s), visit_app]
          exact visit_pre _ _
        exact h1.trans hc2.pre.1
      have vl : (visit cur ((rowAt R s).take k)).length ≤ 1000 := Nat.le_trans pf.length_le hol
      generalize visit cur ((rowAt R s).take k) = cu at *
      have V1 := view2 (G := G) (sl := [some (dat (rowsL R)), some (refP a), some (refP b), some (dat (.int (n : Nat))), some (dat (optD bh)), none]) (a := a) (b := b) (ds := cu.map natD) (t := false) (kvs := placeD natD cu) 1 2 rfl rfl
      cases bh with
      | none =>
        refine s_cons (s1_if (t := false) (t_w (w_and (t := false) (u := false) (t_cmp c_notN (e_var 4) e_non) fun h => nomatch h)) (fun h => nomatch h) fun _ => s_nil (s_nil ⟨some (dat (optD none)), ?_⟩))
        rw [hv]
        rfl
      | some x =>
        have dg := dget_place natD_inj cu x
        by_cases hx : x ∈ cu
        · rw [if_pos hx] at dg
          refine s_cons (s1_if (t := false) (t_own V1 (EvT.cast (t_w (w_and (t_cmp c_notN (e_var 4) e_non) fun _ => w_and1 (t_cmp (c_ninD (keyI x)) (e_var 4) (e_var 2)))) (by rw [dg]; rfl))) (fun h => nomatch h) fun _ => s_nil (s_nil ⟨some (dat (optD (some x))), ?_⟩))
          have e : visit cu [some x] = cu := if_pos hx
          rw [hv, e]
          rfl
        · rw [if_neg hx] at dg
          refine s_cons (s1_if (t := true) (t_own V1 (EvT.cast (t_w (w_and (t_cmp c_notN (e_var 4) e_non) fun _ => w_and1 (t_cmp (c_ninD (keyI x)) (e_var 4) (e_var 2)))) (by rw [dg]; rfl))) (fun _ => ?_) (fun h => nomatch h))
          refine s_cons (s1_dput 0 (keyI x) (e_own V1 (EvD.cI (e_lenL B (e_var 1)) (show _ = ((cu.length : Nat) : Int) by rw [List.length_map]))) (e_var 2) (e_var 4) rfl (by rw [place_len]; omega) ?_)
          refine s_cons (s1_append 1 (e_var 1) rfl (e_var 4) (by rw [List.length_map]; omega) (s_nil (s_nil ⟨some (dat (optD (some x))), ?_⟩)))
          have e : visit cu [some x] = cu ++ [x] := if_neg hx
          rw [hv, e, placeD_snoc, List.map_append, dput_new dg]
          rfl
    · rintro ρ1 ⟨beh1, rfl⟩
      have tk : (rowAt R s).take ((rowAt R s).map optD).length = rowAt R s := by rw [List.length_map, List.take_length]
      rw [tk]
      refine s_cons (s1_set 3 (EvD.cI (e_bin b_add (e_var 3) e_int) (show _ = ((n + 1 : Nat) : Int) by omega)) (s_nil ⟨o.length + 1 - (n + 1), by have := hc2.pre.2; omega, visit cur (rowAt R s), n + 1, beh1, hc2, rfl, rfl⟩))
  · have hn : ¬ n < cur.length := of_decide_eq_false hf
    rcases hc.inv with ⟨_, e⟩ | ⟨s, hs, _⟩
    · subst e
      refine st_frz Part.all V0 ?_
      refine s_cons (s1_ret (e_tuple B (LcR.ev <| lcN (own := [("state", 5)]) 5 ((tabOf (rowAt R) cur).map rowT) (i_lst (e_var 1)) (blk_body (by decide +kernel)) (by simp [tabOf]) (by rw [List.length_map]; omega) fun s H C' cl fp k d g hd hg => ?_)) rfl)
      obtain ⟨st, hst, rfl⟩ := map_get hd
      obtain ⟨rw_, hrw, rfl⟩ := map_get hg
      have erw : rw_ = toRow cur (rowAt R st) := by
        unfold tabOf at hrw
        obtain ⟨st', h1, h2⟩ : ∃ x, cur[k]? = some x ∧ rw_ = toRow cur (rowAt R x) := by
          rw [List.getElem?_map] at hrw
          cases q : cur[k]? with
          | none => rw [q] at hrw; cases hrw
          | some x => rw [q] at hrw; exact ⟨x, rfl, (Option.some.inj hrw).symm⟩
        rw [hst] at h1
        cases h1
        exact h2
      subst erw
      have slt : st < R.length := olt st (List.mem_of_getElem? hst)
      obtain ⟨e1, e2, e3⟩ := hR.row slt
      -- the row's states are met
      have met : ∀ x, some x ∈ rowAt R st → x ∈ cur := fun x hx => hb.mem st (List.mem_of_getElem? hst) x hx
      refine e_tuple B (LcR.ev <| lcN (own := [("behind", 4)]) (ds := (rowAt R st).map optD) 4 ((toRow cur (rowAt R st)).map optD) (i_lst (e_ix (x_lst (at_map (f := rowL) e1)) (e_var 0) (e_var 5))) (blk_blk (by decide +kernel)) (by simp [toRow]) (by rw [List.length_map]; omega) fun s H C' cl fp k2 d g hd hg => ?_)
      obtain ⟨bh, hbh, rfl⟩ := map_get hd
      obtain ⟨gh, hgh, rfl⟩ := map_get hg
      have eg : gh = bh.map (ix cur) := by
        unfold toRow at hgh
        rw [List.getElem?_map, hbh] at hgh
        exact (Option.some.inj hgh).symm
      subst eg
      cases bh with
      | none => exact e_if (t := true) (t_cmp c_isN (e_var 4) e_non) (fun _ => e_non) (fun h => nomatch h)
      | some x =>
        have dg := dget_place natD_inj cur x
        rw [if_pos (met x (List.mem_of_getElem? hbh))] at dg
        exact e_if (t := false) (t_cmp c_isN (e_var 4) e_non) (fun h => nomatch h) fun _ => e_ix (x_dct (keyI x) dg) (e_var 2) (e_var 4)
    · have := (List.getElem?_eq_some_iff.mp hs).1
      omega
end
end MR
/-! T9: classes, least rows. -/
namespace MR
open PySem PySem.Spec PyProof.Rows L2
def signD (s : Nat × List (Option Nat)) : PyData := .tuple [natD s.1, .tuple (s.2.map optD)]
theorem nk_optD_inj : ∀ x y, nk (optD x) = nk (optD y) → x = y
  | none, none, _ => rfl
  | none, some k, h => by have h : NestedKey.none = NestedKey.num (k : Int) := h; cases h
  | some k, none, h => by have h : NestedKey.num (k : Int) = NestedKey.none := h; cases h
  | some k, some j, h => by rw [natD_inj k j h]
theorem nks_inj {α : Type} {f : α → PyData} (inj : ∀ x y, nk (f x) = nk (f y) → x = y) : ∀ (l m : List α), nks (l.map f) = nks (m.map f) → l = m
  | [], [], _ => rfl
  | [], y :: m, h => by have h : [] = nk (f y) :: nks (m.map f) := h; cases h
  | x :: l, [], h => by have h : nk (f x) :: nks (l.map f) = [] := h; cases h
  | x :: l, y :: m, h => by
    have h : nk (f x) :: nks (l.map f) = nk (f y) :: nks (m.map f) := h
    injection h with h1 h2
    rw [inj x y h1, nks_inj inj l m h2]
theorem signD_inj (x y : Nat × List (Option Nat)) (h : nk (signD x) = nk (signD y)) : x = y := by
  obtain ⟨a, l⟩ := x
  obtain ⟨b, m⟩ := y
  have h : NestedKey.tup [nk (natD a), .tup (nks (l.map optD))] = NestedKey.tup [nk (natD b), .tup (nks (m.map optD))] := h
  injection h with h
  injection h with h1 h2
  injection h2 with h2 _
  injection h2 with h2
  rw [natD_inj a b h1, nks_inj nk_optD_inj l m h2]
theorem keyables_map {α : Type} {f : α → PyData} (h : ∀ x, keyable (f x) = true) : ∀ l : List α, keyables (l.map f) = true
  | [] => rfl
  | x :: l => by
    show (keyable (f x) && keyables (l.map f)) = true
    rw [h x, keyables_map h l]
    rfl
theorem depthAll_map {α : Type} {f : α → PyData} {n : Nat} (h : ∀ x, (nk (f x)).depth ≤ n) : ∀ l : List α, NestedKey.depthAll (nks (l.map f)) ≤ n
  | [] => Nat.zero_le _
  | x :: l => by
    show max (nk (f x)).depth (NestedKey.depthAll (nks (l.map f))) ≤ n
    have := depthAll_map h l
    have := h x
    omega
theorem keyable_opt (x : Option Nat) : keyable (optD x) = true := by cases x <;> rfl
theorem depth_opt (x : Option Nat) : (nk (optD x)).depth ≤ 0 := by cases x <;> exact Nat.le_refl _
theorem keyS (s : Nat × List (Option Nat)) : KeyOk true (signD s) := by
  refine ⟨?_, (fun h => nomatch h), fun _ => ⟨⟨_, rfl⟩, ?_⟩⟩
  · show (true && (keyables (s.2.map optD) && true)) = true
    rw [keyables_map keyable_opt]
    rfl
  · show NestedKey.depthAll [nk (natD s.1), .tup (nks (s.2.map optD))] + 1 ≤ 8
    have := depthAll_map depth_opt s.2
    show max 0 (max (NestedKey.depthAll (nks (s.2.map optD)) + 1) 0) + 1 ≤ 8
    omega
/-- a dict told by a function on an order -/
def mapKV {σ : Type} (enc : σ → PyData) (g : σ → PyData) (o : List σ) : List (PyData × PyData) := o.map fun x => (enc x, g x)
theorem dget_map {σ : Type} [DecidableEq σ] {enc : σ → PyData} (inj : ∀ x y, nk (enc x) = nk (enc y) → x = y) (g : σ → PyData) : ∀ (o : List σ) (x : σ), dget (mapKV enc g o) (enc x) = if x ∈ o then some (g x) else none
  | [], _ => rfl
  | y :: o, x => by
    show dget ((enc y, g y) :: mapKV enc g o) (enc x) = _
    by_cases e : y = x
    · subst e
      rw [dget_pos rfl, if_pos List.mem_cons_self]
    · rw [dget_neg (fun z => e (inj _ _ z)), dget_map inj g o x]
      by_cases hx : x ∈ o
      · rw [if_pos hx, if_pos (List.mem_cons_of_mem _ hx)]
      · rw [if_neg hx, if_neg (by simp [hx]; exact fun z => e z.symm)]
theorem mapKV_len {σ : Type} (enc g : σ → PyData) (o : List σ) : (mapKV enc g o).length = o.length := List.length_map _
section
variable {G : GC} {L : LC G} {ρ : Rho G} {pos : Pos} {e : Expr}
/-- a view of one owned container -/
theorem view1D {sl : List (Option (PV G))} {b : Addr} {t : Bool} {kvs : List (PyData × PyData)} (j : Nat) (hj : sl[j]? = some (some (refP b))) : View sl [(b, .dct t kvs)] (sl.set j (some (dctP t kvs))) :=
  View.refl.set j hj (imp_dct (by simp))
theorem view1L {sl : List (Option (PV G))} {a : Addr} {ds : List PyData} (j : Nat) (hj : sl[j]? = some (some (refP a))) : View sl [(a, .lst ds)] (sl.set j (some (dat (.list ds)))) :=
  View.refl.set j hj (imp_lst (by simp))
theorem e_lenD (B : Bs G) {a : Expr} {p1 pos : Pos} {t : Bool} {kvs : List (PyData × PyData)} (ha : EvD L ρ a (dctP t kvs)) (hg : Gl L.X "len" := by rfl) (h1 : starEach [a] L.X.env = (false, eval a L.X.env) :: starEach [] L.X.env := by rfl) : EvD L ρ (.Call (.Name "len" p1) [a] [] pos) (dat (.int kvs.length)) := e_callB1 k_lenD B.len bt_len ha hg h1
theorem natsL_at {l : List Nat} {k : Nat} (h : k < l.length) : atI (l.map natD) (k : Nat) = some (natD (l.getD k 0)) := at_map (by rw [List.getD_eq_getElem?_getD, List.getElem?_eq_getElem h]; rfl)
theorem scClasses : FnScope ["rows", "found", "many", "signs", "number", "sign", "at", "row", "behind"] ["rows"] (defScope (topS 33)) := ⟨rfl, rfl, rfl, by decide +kernel, rfl, by decide +kernel, by decide +kernel⟩
def RClasses (G : GC) : Rel G := fun ps r => ∃ (w : Nat) (R : Rows) (n : Nat) (f : List Nat), RowsOk w R ∧ w ≤ 100 ∧ R.length ≤ 1000 ∧ Cls R n (List.replicate R.length 0) 0 f ∧ ps = [dat (rowsL R)] ∧ r = dat (.list (f.map natD))
theorem fn_classes (B : Bs G) (F : FunT G 33 "classes_of" ["rows"]) : FnD G 1 "classes_of" ["rows"] (RClasses G) := by
  refine mk_def (k := 0) F scClasses (fun pvs r ⟨_, _, _, _, _, _, _, _, h, _⟩ => by rw [h]; rfl) fun pvs r ⟨w, R, n, f, hR, hw, hRl, hc, h1, h2⟩ f' cd A outer s' H E hr => ?_
  subst h1 h2
  refine s_cons (s1_tup2 1 2 (am2 (b := .Constant _ _ _) (EvD.cast (e_bin (b_repL (n := R.length) hRl) (e_lstN (ds := [natD 0]) (a_cons e_int a_nil)) (EvD.cI (e_lenL B (e_var 0)) (by rw [List.length_map]))) (show _ = PyData.list ((List.replicate R.length 0).map natD) by rw [List.map_replicate])) (fun p ρ1 _ => e_int (i := 0))) ?_)
  rintro ps ρ1 ⟨p, ρ2, q, ⟨rfl, rfl⟩, ⟨rfl, rfl⟩, rfl⟩
  refine ⟨_, _, rfl, ?_⟩
  refine s_cons (s1_while (fun m ρ => ∃ (found : List Nat) (many : Nat) (s3 s4 s5 : Option (PV G)), Cls R m found many f ∧ found.length = R.length ∧ ρ = ⟨[some (dat (rowsL R)), some (dat (.list (found.map natD))), some (dat (natD many)), s3, s4, s5, none, none, none], []⟩) ⟨n, _, 0, none, none, none, hc, List.length_replicate, rfl⟩ ?_)
  rintro m ρ1 ⟨found, many, s3, s4, s5, hm, hfl, rfl⟩
  refine ⟨true, t_val e_bl, fun _ => ?_, fun h => nomatch h⟩
  have len : (signsOf R found).length = R.length := by unfold signsOf; rw [List.length_map, List.length_range]
  -- signs
  refine s_cons (s1_lc 3 (lcP (own := [("at", 6), ("row", 7)]) 6 7 ((signsOf R found).map signD) (ItD.cast (i_enum B.enumerate (e_var 0)) (enumQ_eq _)) (blk_body (by decide +kernel)) ?_ ?_ fun s H C' cl fp k q g hq hg => ?_) ?_)
  · rw [enumQ_len, List.length_map, List.length_map, len]
  · rw [enumQ_len, List.length_map]; omega
  · obtain ⟨d, hd, rfl⟩ := enumQ_get hq
    obtain ⟨r0, hr0, rfl⟩ := map_get hd
    obtain ⟨sg, hsg, rfl⟩ := map_get hg
    have hk : k < R.length := (List.getElem?_eq_some_iff.mp hr0).1
    obtain ⟨e1, e2, e3⟩ := hR.row hk
    rw [e1] at hr0
    cases hr0
    have esg : sg = signOf R found k := by
      unfold signsOf at hsg
      rw [List.getElem?_map, List.getElem?_range hk] at hsg
      exact (Option.some.inj hsg).symm
    subst esg
    refine e_tup (ds := [natD (found.getD k 0), .tuple (((rowAt R k).map (Option.map fun j => found.getD j 0)).map optD)]) (a_cons (e_ix (x_lst (natsL_at (by omega))) (e_var 1) (e_var 6)) (a_cons (e_tuple B (LcR.ev <| lcN (own := [("behind", 8)]) (ds := (rowAt R k).map optD) 8 _ (i_lst (e_var 7)) (blk_blk (by decide +kernel)) (by simp) (by rw [List.length_map]; omega) fun s H C' cl fp k2 d g hd hg => ?_)) a_nil))
    obtain ⟨bh, hbh, rfl⟩ := map_get hd
    obtain ⟨gh, hgh, rfl⟩ := map_get hg
    rw [List.getElem?_map, hbh] at hgh
    have hgh := Option.some.inj hgh
    subst hgh
    cases bh with
    | none => exact e_if (t := true) (t_cmp c_isN (e_var 8) e_non) (fun _ => e_non) (fun h => nomatch h)
    | some x =>
      have hx := e3 x (List.mem_of_getElem? hbh)
      exact e_if (t := false) (t_cmp c_isN (e_var 8) e_non) (fun h => nomatch h) fun _ => e_ix (x_lst (natsL_at (by omega))) (e_var 1) (e_var 8)
  -- number
  refine s_cons (s1_setM 4 (em_ownD0 true) ?_)
  rintro p ρ1 ⟨b, rfl, rfl⟩
  refine s_cons (s1_forN (ds := (signsOf R found).map signD) 5 (i_lst (e_var 3))
    (fun k ρ => ∃ s5, ρ = ⟨[some (dat (rowsL R)), some (dat (.list (found.map natD))), some (dat (natD many)), some (dat (.list ((signsOf R found).map signD))), some (refP b), s5, none, none, none], [(b, .dct true (placeD signD (visit [] (((signsOf R found).take k).map some))))]⟩) ⟨s5, by simp [visit, placeD]⟩ ?_ ?_)
  · rintro k d ρ1 hd ⟨s5, rfl⟩
    obtain ⟨sg, hsg, rfl⟩ := map_get hd
    have hv : visit [] (((signsOf R found).take (k + 1)).map some) = visit (visit [] (((signsOf R found).take k).map some)) [some sg] := by
      rw [List.map_take, List.map_take]
      exact visit_snoc [] _ k (some sg) (by rw [List.getElem?_map, hsg]; rfl)
    have vl : (visit [] (((signsOf R found).take k).map some)).length ≤ 1000 := by
      have h1 : (visit [] (((signsOf R found).take k).map some)).length ≤ ((signsOf R found).take k).length := nodup_le _ (visit_nodup List.nodup_nil) fun x hx => by
        rcases visit_mem.mp hx with h | h
        · cases h
        · obtain ⟨y, hy, e⟩ := List.mem_map.mp h
          cases e
          exact hy
      have h2 := List.length_take_le k (signsOf R found)
      have h3 : ((signsOf R found).take k).length ≤ (signsOf R found).length := by rw [List.length_take]; omega
      omega
    generalize visit [] (((signsOf R found).take k).map some) = cu at *
    have dg := dget_place signD_inj cu sg
    have V1 := view1D (G := G) (sl := [some (dat (rowsL R)), some (dat (.list (found.map natD))), some (dat (natD many)), some (dat (.list ((signsOf R found).map signD))), some (refP b), some (dat (signD sg)), none, none, none]) (b := b) (t := true) (kvs := placeD signD cu) 4 rfl
    refine s_cons (s1_setd 0 (keyS sg) (e_var 4) (e_var 5) (e_own V1 (EvD.cI (e_lenD B (e_var 4)) (show _ = ((cu.length : Nat) : Int) by rw [place_len]))) rfl (by rw [place_len]; omega) (fun hs => s_nil ⟨some (dat (signD sg)), ?_⟩) fun hs => s_nil ⟨some (dat (signD sg)), ?_⟩)
    · rw [dg] at hs
      have hx : sg ∈ cu := by
        by_cases hx : sg ∈ cu
        · exact hx
        · rw [if_neg hx] at hs; cases hs
      have e : visit cu [some sg] = cu := if_pos hx
      rw [hv, e]
      rfl
    · rw [dg] at hs
      have hx : sg ∉ cu := fun hx => by rw [if_pos hx] at hs; cases hs
      have e : visit cu [some sg] = cu ++ [sg] := if_neg hx
      rw [hv, e, placeD_snoc]
      rfl
  · rintro ρ1 ⟨s5, rfl⟩
    have tk : (signsOf R found).take ((signsOf R found).map signD).length = signsOf R found := by rw [List.length_map, List.take_length]
    rw [tk]
    show StD _ ⟨_, [(b, .dct true (placeD signD (uniq (signsOf R found))))]⟩ _ _
    refine st_frz Part.all (view1D (G := G) (sl := [some (dat (rowsL R)), some (dat (.list (found.map natD))), some (dat (natD many)), some (dat (.list ((signsOf R found).map signD))), some (refP b), s5, none, none, none]) (b := b) (t := true) (kvs := placeD signD (uniq (signsOf R found))) 4 rfl) ?_
    refine s_cons (s1_set 1 (LcR.ev <| lcN (own := [("sign", 5)]) (ds := (signsOf R found).map signD) 5 ((regroup R found).map natD) (i_lst (e_var 3)) (blk_body (by decide +kernel)) (by simp [regroup]) (by rw [List.length_map]; omega) fun s H C' cl fp k d g hd hg => ?_) ?_)
    · obtain ⟨sg, hsg, rfl⟩ := map_get hd
      obtain ⟨c, hcc, rfl⟩ := map_get hg
      unfold regroup at hcc
      rw [List.getElem?_map, hsg] at hcc
      have hcc := Option.some.inj hcc
      subst hcc
      have dg := dget_place signD_inj (uniq (signsOf R found)) sg
      rw [if_pos (uniq_mem.mpr (List.mem_of_getElem? hsg))] at dg
      exact e_ix (x_dct (keyS sg) dg) (e_var 4) (e_var 5)
    have elen : ((placeD signD (uniq (signsOf R found))).length : Int) = ((groups R found : Nat) : Int) := by rw [place_len]; rfl
    have ge := groups_le R found
    refine s_cons (s1_if (t := decide (groups R found = many)) (EvT.cast (t_cmp c_eqI (EvD.cI (e_lenD B (e_var 4)) elen) (e_var 2)) (decide_eq_decide.mpr (by omega))) (fun ht => ?_) fun hf => s_nil ?_)
    · have ht : groups R found = many := of_decide_eq_true ht
      refine s_cons (s1_ret (e_var 1) ?_)
      cases hm with
      | done _ => rfl
      | step h _ => exact absurd ht h
    · have hf : groups R found ≠ many := of_decide_eq_false hf
      cases hm with
      | done h => exact absurd h hf
      | @step n _ _ _ _ h =>
        refine s_cons (s1_set 2 (EvD.cI (e_lenD B (e_var 4)) elen) (s_nil ⟨n, by omega, regroup R found, groups R found, _, _, _, h, regroup_len R found, rfl⟩))
end
end MR
/-! T10: least rows; many of. -/
namespace MR
open PySem PySem.Spec PyProof.Rows L2
theorem some_mem {α : Type} {l : List α} {x : α} : some x ∈ l.map some ↔ x ∈ l := by
  constructor
  · intro h
    obtain ⟨y, hy, e⟩ := List.mem_map.mp h
    cases e
    exact hy
  · exact fun h => List.mem_map.mpr ⟨x, h, rfl⟩
section
variable {G : GC} {L : LC G} {ρ : Rho G} {pos : Pos} {e : Expr}
theorem scLeast : FnScope ["rows", "classes", "first", "at", "name", "joined", "row", "behind"] ["rows"] (defScope (topS 34)) := ⟨rfl, rfl, rfl, by decide +kernel, rfl, by decide +kernel, by decide +kernel⟩
def RLeast (G : GC) : Rel G := fun ps r => ∃ (w : Nat) (R out : Rows), RowsOk w R ∧ w ≤ 100 ∧ R.length ≤ 1000 ∧ Least R out ∧ ps = [dat (rowsL R)] ∧ r = dat (rowsT out)
theorem fn_least (B : Bs G) (F : FunT G 34 "least_rows" ["rows"]) (D1 : FnD G 1 "classes_of" ["rows"] (RClasses G)) (D2 : FnD G 1 "renumbered" ["rows"] (RRenumbered G)) : FnD G 2 "least_rows" ["rows"] (RLeast G) := by
  refine mk_def (k := 1) F scLeast (fun pvs r ⟨_, _, _, _, _, _, _, h, _⟩ => by rw [h]; rfl) fun pvs r ⟨w, R, out, hR, hw, hRl, ⟨n, f, hc, o, hb, ho⟩, h1, h2⟩ f' cd A outer s' H E hr => ?_
  subst h1 h2 ho
  obtain ⟨g, hg⟩ := hc.form
  have fl : f.length = R.length := by rw [hg]; exact regroup_len R g
  have Jok : RowsOk w (joinedOf R f) := by rw [hg]; exact joined_ok hR g
  have Jl : (joinedOf R f).length ≤ R.length := by rw [hg]; exact joined_len g
  have ol : o.length ≤ R.length := Nat.le_trans (hb.short Jok) Jl
  have ul : (uniq f).length ≤ R.length := by
    rw [← fl]
    exact nodup_le _ (uniq_nodup f) fun x hx => uniq_mem.mp hx
  have fm : ∀ c, c < (uniq f).length → c ∈ f := fun c h => by
    rw [hg] at h ⊢
    exact regroup_mem h
  -- classes, first
  refine s_cons (s1_tup2 1 2 (am2 (e_call D1 (Nat.le_refl _) (a_cons (e_var 0) a_nil) ⟨w, R, n, f, hR, hw, hRl, hc, rfl, rfl⟩) (fun p ρ1 _ => em_ownD0 false)) ?_)
  rintro ps ρ1 ⟨p, ρ2, q, ⟨rfl, rfl⟩, ⟨b, rfl, rfl⟩, rfl⟩
  refine ⟨_, _, rfl, ?_⟩
  refine s_cons (s1_forP (prs := enumQ (f.map natD)) 3 4 (ItD.cast (i_enum B.enumerate (e_var 1)) (enumQ_eq _))
    (fun k ρ => ∃ s3 s4, ρ = ⟨[some (dat (rowsL R)), some (dat (.list (f.map natD))), some (refP b), s3, s4, none, none, none], [(b, .dct false (mapKV natD (fun x => natD (ix f x)) (visit [] ((f.take k).map some))))]⟩) ⟨none, none, rfl⟩ ?_ ?_)
  · rintro k q ρ1 hq ⟨s3, s4, rfl⟩
    obtain ⟨d, hd, rfl⟩ := enumQ_get hq
    obtain ⟨c, hcc, rfl⟩ := map_get hd
    have hv : visit [] ((f.take (k + 1)).map some) = visit (visit [] ((f.take k).map some)) [some c] := by
      rw [List.map_take, List.map_take]
      exact visit_snoc [] _ k (some c) (by rw [List.getElem?_map, hcc]; rfl)
    have mem : ∀ x, x ∈ visit [] ((f.take k).map some) ↔ x ∈ f.take k := fun x => by
      rw [visit_mem, some_mem]
      simp
    have hk : k < f.length := (List.getElem?_eq_some_iff.mp hcc).1
    have vl : (visit [] ((f.take k).map some)).length ≤ 1000 := by
      have h1 : (visit [] ((f.take k).map some)).length ≤ (f.take k).length := nodup_le _ (visit_nodup List.nodup_nil) fun x hx => (mem x).mp hx
      have h3 : (f.take k).length ≤ f.length := by rw [List.length_take]; omega
      omega
    have dg := dget_map natD_inj (fun x => natD (ix f x)) (visit [] ((f.take k).map some)) c
    refine s_cons (s1_setd 0 (keyI c) (e_var 2) (e_var 4) (e_var 3) rfl (by rw [mapKV_len]; omega) (fun hs => s_nil ⟨some (dat (.int (k : Nat))), some (dat (natD c)), ?_⟩) fun hs => s_nil ⟨some (dat (.int (k : Nat))), some (dat (natD c)), ?_⟩)
    · rw [dg] at hs
      have hx : c ∈ visit [] ((f.take k).map some) := by
        by_cases hx : c ∈ visit [] ((f.take k).map some)
        · exact hx
        · rw [if_neg hx] at hs; cases hs
      have e : visit (visit [] ((f.take k).map some)) [some c] = visit [] ((f.take k).map some) := if_pos hx
      rw [hv, e]
      rfl
    · rw [dg] at hs
      have hx : c ∉ visit [] ((f.take k).map some) := fun hx => by rw [if_pos hx] at hs; cases hs
      have e : visit (visit [] ((f.take k).map some)) [some c] = visit [] ((f.take k).map some) ++ [c] := if_neg hx
      have ek : ix f c = k := by
        have hn : c ∉ f.take k := fun h => hx ((mem c).mpr h)
        have e1 : f.take (k + 1) = f.take k ++ [c] := by rw [List.take_add_one, hcc]; rfl
        have e2 := ix_new hn
        rw [← e1] at e2
        rw [← ix_pre (List.take_prefix (k + 1) f) (by rw [e1]; simp), e2, List.length_take]
        omega
      rw [hv, e]
      unfold mapKV
      rw [List.map_append]
      show _ = (⟨_, [(b, Cont.dct false (_ ++ [(natD c, natD (ix f c))]))]⟩ : Rho G)
      rw [ek]
      rfl
  · rintro ρ1 ⟨s3, s4, rfl⟩
    have tk : f.take (enumQ (G := G) (f.map natD)).length = f := by rw [enumQ_len, List.length_map, List.take_length]
    rw [tk]
    show StD _ ⟨_, [(b, .dct false (mapKV natD (fun x => natD (ix f x)) (uniq f)))]⟩ _ _
    refine st_frz Part.all (view1D (G := G) (sl := [some (dat (rowsL R)), some (dat (.list (f.map natD))), some (refP b), s3, s4, none, none, none]) (b := b) (t := false) (kvs := mapKV natD (fun x => natD (ix f x)) (uniq f)) 2 rfl) ?_
    refine s_cons (s1_setM 5 (em_ownL (ds := []) a_nil) ?_)
    rintro p ρ1 ⟨a, rfl, rfl⟩
    refine s_cons (s1_forN (ds := rngD (uniq f).length) 4 (i_rngM B.range (by omega) (EvD.cI (e_lenD B (e_var 2)) (show _ = (((uniq f).length : Nat) : Int) by rw [mapKV_len])))
      (fun k ρ => ∃ s4 s6, ρ = ⟨[some (dat (rowsL R)), some (dat (.list (f.map natD))), some (dctP false (mapKV natD (fun x => natD (ix f x)) (uniq f))), s3, s4, some (refP a), s6, none], [(a, .lst (((joinedOf R f).take k).map rowL))]⟩) ⟨s4, none, rfl⟩ ?_ ?_)
    · rintro k d ρ1 hd ⟨s4, s6, rfl⟩
      obtain ⟨hk, rfl⟩ := rngD_get hd
      have hm := fm k hk
      have il := ix_lt hm
      obtain ⟨e1, e2, e3⟩ := hR.row (s := ix f k) (by omega)
      have dg := dget_map natD_inj (fun x => natD (ix f x)) (uniq f) k
      rw [if_pos (uniq_mem.mpr hm)] at dg
      refine s_cons (s1_set 6 (e_ix (x_lst (at_map (f := rowL) e1)) (e_var 0) (e_ix (x_dct (keyI k) dg) (e_var 2) (e_var 4))) ?_)
      refine s_cons (s1_append 0 (d := rowL ((rowAt R (ix f k)).map (Option.map fun j => f.getD j 0))) (e_var 5) rfl (LcR.ev <| lcN (own := [("behind", 7)]) (ds := (rowAt R (ix f k)).map optD) 7 _ (i_lst (e_var 6)) (blk_body (by decide +kernel)) (by simp) (by rw [List.length_map]; omega) fun s H C' cl fp k2 d g hd hg => ?_) (by rw [List.length_map, List.length_take]; omega) (s_nil ⟨some (dat (.int (k : Nat))), some (dat (rowL (rowAt R (ix f k)))), ?_⟩))
      · obtain ⟨bh, hbh, rfl⟩ := map_get hd
        obtain ⟨gh, hgh, rfl⟩ := map_get hg
        rw [List.getElem?_map, hbh] at hgh
        have hgh := Option.some.inj hgh
        subst hgh
        cases bh with
        | none => exact e_if (t := true) (t_cmp c_isN (e_var 7) e_non) (fun _ => e_non) (fun h => nomatch h)
        | some x =>
          have hx := e3 x (List.mem_of_getElem? hbh)
          exact e_if (t := false) (t_cmp c_isN (e_var 7) e_non) (fun h => nomatch h) fun _ => e_ix (x_lst (natsL_at (by omega))) (e_var 1) (e_var 7)
      · have ej : (joinedOf R f)[k]? = some ((rowAt R (ix f k)).map (Option.map fun j => f.getD j 0)) := by
          unfold joinedOf
          rw [List.getElem?_map, List.getElem?_range hk]
          rfl
        have e : (joinedOf R f).take (k + 1) = (joinedOf R f).take k ++ [(rowAt R (ix f k)).map (Option.map fun j => f.getD j 0)] := by rw [List.take_add_one, ej]; rfl
        rw [e, List.map_append]
        rfl
    · rintro ρ1 ⟨s4, s6, rfl⟩
      have jl : (joinedOf R f).length = (uniq f).length := by unfold joinedOf; rw [List.length_map, List.length_range]
      have tk : (joinedOf R f).take (rngD (uniq f).length).length = joinedOf R f := by rw [rngD_len, ← jl, List.take_length]
      rw [tk]
      refine st_frz Part.all (view1L (G := G) (sl := [some (dat (rowsL R)), some (dat (.list (f.map natD))), some (dctP false (mapKV natD (fun x => natD (ix f x)) (uniq f))), s3, s4, some (refP a), s6, none]) (a := a) (ds := (joinedOf R f).map rowL) 5 rfl) ?_
      exact s_cons (s1_ret (e_call D2 (Nat.le_refl _) (a_cons (e_var 5) a_nil) ⟨w, joinedOf R f, _, Jok, hw, by omega, ⟨o, by omega, hb, rfl⟩, rfl, rfl⟩) rfl)
/-! many_of -/
theorem scMany : FnScope ["watchers", "found", "rows"] ["watchers"] (defScope (topS 37)) := ⟨rfl, rfl, rfl, by decide +kernel, rfl, by decide +kernel, by decide +kernel⟩
def prodLen (W : List Rows) : Nat := (W.map List.length).foldl (· * ·) 1
def RMany (G : GC) : Rel G := fun ps r => ∃ W : List Rows, (∀ k, (W.take k).map List.length |>.foldl (· * ·) 1 |> (· ≤ 1000)) ∧ (∀ R ∈ W, R.length ≤ 1000) ∧ ps = [dat (.list (W.map rowsT))] ∧ r = dat (natD (prodLen W))
theorem fn_many (B : Bs G) (F : FunT G 37 "many_of" ["watchers"]) : FnD G 1 "many_of" ["watchers"] (RMany G) := by
  refine mk_def (k := 0) F scMany (fun pvs r ⟨_, _, _, h, _⟩ => by rw [h]; rfl) fun pvs r ⟨W, hW, hl, h1, h2⟩ f' cd A outer s' H E hr => ?_
  subst h1 h2
  refine s_cons (s1_set 1 (e_int (i := 1)) ?_)
  refine s_cons (s1_forN (ds := W.map rowsT) 2 (i_lst (e_var 0)) (fun k ρ => ∃ s2, ρ = ⟨[some (dat (.list (W.map rowsT))), some (dat (natD (prodLen (W.take k)))), s2], []⟩) ⟨none, rfl⟩ ?_ ?_)
  · rintro k d ρ1 hd ⟨s2, rfl⟩
    obtain ⟨R, hR, rfl⟩ := map_get hd
    have e : W.take (k + 1) = W.take k ++ [R] := by rw [List.take_add_one, hR]; rfl
    have ep : prodLen (W.take (k + 1)) = prodLen (W.take k) * R.length := by
      unfold prodLen
      rw [e, List.map_append, List.foldl_append]
      rfl
    have b1 : prodLen (W.take k) ≤ 1000 := hW k
    have b2 := hl R (List.mem_of_getElem? hR)
    refine s_cons (s1_set 1 (EvD.cI (e_bin (b_mul ?_) (e_var 1) (e_lenT B (e_var 2))) (show _ = ((prodLen (W.take (k + 1)) : Nat) : Int) by rw [ep, List.length_map]; simp)) (s_nil ⟨some (dat (rowsT R)), rfl⟩))
    rw [List.length_map]
    exact .inl ⟨by omega, by omega⟩
  · rintro ρ1 ⟨s2, rfl⟩
    have tk : W.take (W.map rowsT).length = W := by rw [List.length_map, List.take_length]
    rw [tk]
    exact s_cons (s1_ret (e_var 1) rfl)
end
end MR
/-! T11: machine_by. -/
namespace MR
open PySem PySem.Spec PyProof.Rows L2
/-- a kind of states: told as data that can be keys -/
structure StK (σ : Type) where
  enc : σ → PyData
  t : Bool
  inj : ∀ x y, nk (enc x) = nk (enc y) → x = y
  key : ∀ x, KeyOk t (enc x)
  notN : ∀ x, isN (enc x) = false
def StK.opt {σ : Type} (K : StK σ) : Option σ → PyData
  | none => .none
  | some x => K.enc x
section
variable {G : GC} {L : LC G} {ρ : Rho G} {pos : Pos} {e : Expr} {σ : Type} [DecidableEq σ]
/-- what the step promises -/
def RMStep (G : GC) (K : StK σ) (bs : List PyData) (succ : σ → List (Option σ)) (ok : σ → Prop) : Rel G := fun ps r => ∃ (s : σ) (i : Nat) (b : PyData) (x : Option σ), ok s ∧ bs[i]? = some b ∧ (succ s)[i]? = some x ∧ ps = [dat (K.enc s), dat (natD i), dat b] ∧ r = dat (K.opt x)
theorem scMachine : FnScope ["beats", "begin", "step", "order", "number", "rows", "row", "at", "beat", "behind"] ["beats", "begin", "step"] (defScope (topS 35)) := ⟨rfl, rfl, rfl, by decide +kernel, rfl, by decide +kernel, by decide +kernel⟩
theorem machine_body {k : Nat} (B : Bs G) (D : FnD G 2 "least_rows" ["rows"] (RLeast G)) (hk : 2 ≤ k) (K : StK σ) (bs : List PyData) (succ : σ → List (Option σ)) (b0 : σ) (o : List σ) (out : Rows) (w : Nat) (hw : bs.length = w) (w100 : w ≤ 100) (hs : ∀ s, (succ s).length = w)
    (ol : o.length ≤ 1000) (hb : Bfs succ [b0] 0 o) (hR : RowsOk w (tabOf succ o)) (hout : Least (tabOf succ o) out)
    {g : Addr} {cd : Value} {A : Around} {outer : List Env} {s : Shared} {H : Hp} {E : XK} {nd : _} {hr : Room k (A.deeper (envOfC "machine_by" (defScope (topS 35)) s.heap.objs.size g cd))} (f : Addr) (cap : Cap G)
    (LI : LamIn (bodyL G k ["beats", "begin", "step", "order", "number", "rows", "row", "at", "beat", "behind"] "machine_by" (topS 35) g cd A outer s H E nd hr) f cap (RMStep G K bs succ (fun s => s ∈ o))) :
    StD (bodyL G k ["beats", "begin", "step", "order", "number", "rows", "row", "at", "beat", "behind"] "machine_by" (topS 35) g cd A outer s H E nd hr) ⟨startS ["beats", "begin", "step", "order", "number", "rows", "row", "at", "beat", "behind"] [dat (.list bs), dat (K.enc b0), stepP f cap], []⟩ (defBody (topS 35))
      { nx := fun _ => False, rt := fun p _ => p = dat (rowsT out) } := by
  have ond := hb.nodup (by simp)
  refine s_cons (s1_par3M 3 4 5 (am3 (Pb := fun p ρ1 => NewC ρ1 (.dct K.t [(K.enc b0, natD 0)])) (em_ownL (ds := [K.enc b0]) (a_cons (e_var 1) a_nil)) (fun p ρ1 h => by
    obtain ⟨a, rfl, rfl⟩ := h
    exact em_ownD1 (dk := K.enc b0) (dv := natD 0) K.t (K.key b0) (fun _ => e_var 1) (fun _ => e_int)) (fun p ρ1 q ρ2 _ _ => em_ownL (ds := []) a_nil)) ?_)
  rintro ps ρ1 ⟨p, ρ2, q, ρ3, r, ⟨a, rfl, rfl⟩, ⟨b, rfl, rfl⟩, ⟨c, rfl, rfl⟩, rfl⟩
  refine ⟨_, _, _, rfl, ?_⟩
  have view3 : ∀ (cur : List σ) (rs : List PyData) (s6 s7 s8 s9 : Option (PV G)), View [some (dat (.list bs)), some (dat (K.enc b0)), some (stepP f cap), some (refP a), some (refP b), some (refP c), s6, s7, s8, s9] [(c, .lst rs), (b, .dct K.t (placeD K.enc cur)), (a, .lst (cur.map K.enc))]
      (([some (dat (.list bs)), some (dat (K.enc b0)), some (stepP f cap), some (dat (.list (cur.map K.enc))), some (dctP K.t (placeD K.enc cur)), some (dat (.list rs)), s6, s7, s8, s9] : List (Option (PV G)))) := fun cur rs s6 s7 s8 s9 =>
    ((View.refl.set 3 rfl (imp_lst (by simp))).set 4 rfl (imp_dct (by simp))).set 5 rfl (imp_lst (by simp))
  -- the search
  refine s_cons (s1_while (fun m ρ => ∃ (cur : List σ) (n : Nat) (s6 s7 s8 s9 : Option (PV G)), Bfs succ cur n o ∧ m = o.length + 1 - n ∧ ρ = ⟨[some (dat (.list bs)), some (dat (K.enc b0)), some (stepP f cap), some (refP a), some (refP b), some (refP c), s6, s7, s8, s9],
    [(c, .lst (((tabOf succ o).take n).map rowL)), (b, .dct K.t (placeD K.enc cur)), (a, .lst (cur.map K.enc))]⟩) ⟨_, [b0], 0, none, none, none, none, hb, rfl, rfl⟩ ?_)
  rintro m ρ1 ⟨cur, n, s6, s7, s8, s9, hc, rfl, rfl⟩
  have cl : cur.length ≤ 1000 := Nat.le_trans hc.pre.1.length_le ol
  have tl : ((tabOf succ o).take n).length = n := by
    rw [List.length_take]
    have : (tabOf succ o).length = o.length := by unfold tabOf; rw [List.length_map]
    have := hc.pre.2
    omega
  have V0 := view3 cur (((tabOf succ o).take n).map rowL) s6 s7 s8 s9
  refine ⟨decide (n < cur.length), t_own V0 (EvT.cast (t_cmp c_lt (e_lenL B (e_var 5)) (e_lenL B (e_var 3))) (by rw [List.length_map, List.length_map, tl]; exact decide_eq_decide.mpr (by omega))), fun ht => ?_, fun hf => ?_⟩
  · have hn : n < cur.length := of_decide_eq_true ht
    rcases hc.inv with ⟨h1, _⟩ | ⟨s0, hs0, hc2⟩
    · omega
    have s0o : s0 ∈ o := hc.pre.1.subset (List.mem_of_getElem? hs0)
    refine s_cons (s1_setM 6 (em_ownL (ds := []) a_nil) ?_)
    rintro p ρ1 ⟨d, rfl, rfl⟩
    have viewG : ∀ (rw0 : List PyData) (kvs : List (PyData × PyData)) (ds : List PyData) (s7 s8 s9 : Option (PV G)), View [some (dat (.list bs)), some (dat (K.enc b0)), some (stepP f cap), some (refP a), some (refP b), some (refP c), some (refP d), s7, s8, s9] [(d, .lst rw0), (c, .lst (((tabOf succ o).take n).map rowL)), (b, .dct K.t kvs), (a, .lst ds)]
        (([some (dat (.list bs)), some (dat (K.enc b0)), some (stepP f cap), some (dat (.list ds)), some (dctP K.t kvs), some (dat (.list (((tabOf succ o).take n).map rowL))), some (dat (.list rw0)), s7, s8, s9] : List (Option (PV G)))) := fun rw0 kvs ds s7 s8 s9 =>
      (((View.refl.set 3 rfl (imp_lst (by simp))).set 4 rfl (imp_dct (by simp))).set 5 rfl (imp_lst (by simp))).set 6 rfl (imp_lst (by simp))
    have view4 : ∀ (cu : List σ) (rw0 : List PyData) (s7 s8 s9 : Option (PV G)), View [some (dat (.list bs)), some (dat (K.enc b0)), some (stepP f cap), some (refP a), some (refP b), some (refP c), some (refP d), s7, s8, s9] [(d, .lst rw0), (c, .lst (((tabOf succ o).take n).map rowL)), (b, .dct K.t (placeD K.enc cu)), (a, .lst (cu.map K.enc))]
        (([some (dat (.list bs)), some (dat (K.enc b0)), some (stepP f cap), some (dat (.list (cu.map K.enc))), some (dctP K.t (placeD K.enc cu)), some (dat (.list (((tabOf succ o).take n).map rowL))), some (dat (.list rw0)), s7, s8, s9] : List (Option (PV G)))) := fun cu rw0 s7 s8 s9 =>
      (((View.refl.set 3 rfl (imp_lst (by simp))).set 4 rfl (imp_dct (by simp))).set 5 rfl (imp_lst (by simp))).set 6 rfl (imp_lst (by simp))
    refine s_cons (s1_forP (prs := enumQ bs) 7 8 (ItD.cast (i_enum B.enumerate (e_var 0)) (enumQ_eq _))
      (fun k ρ => ∃ s7 s8 s9, ρ = ⟨[some (dat (.list bs)), some (dat (K.enc b0)), some (stepP f cap), some (refP a), some (refP b), some (refP c), some (refP d), s7, s8, s9],
        [(d, .lst ((toRow o ((succ s0).take k)).map optD)), (c, .lst (((tabOf succ o).take n).map rowL)), (b, .dct K.t (placeD K.enc (visit cur ((succ s0).take k)))), (a, .lst ((visit cur ((succ s0).take k)).map K.enc))]⟩) ⟨s7, s8, s9, rfl⟩ ?_ ?_)
    · rintro k q ρ1 hq ⟨s7, s8, s9, rfl⟩
      obtain ⟨bt, hbt, rfl⟩ := enumQ_get hq
      have hk' : k < w := by rw [← hw]; exact (List.getElem?_eq_some_iff.mp hbt).1
      obtain ⟨x, hx⟩ : ∃ x, (succ s0)[k]? = some x := ⟨_, List.getElem?_eq_getElem (by rw [hs]; exact hk')⟩
      have hv := visit_snoc cur (succ s0) k x hx
      have hr' : toRow o ((succ s0).take (k + 1)) = toRow o ((succ s0).take k) ++ [x.map (ix o)] := by
        unfold toRow
        rw [List.take_add_one, hx]
        simp
      have pf0 : visit cur ((succ s0).take (k + 1)) <+: o := by
        have h1 : visit cur ((succ s0).take (k + 1)) <+: visit cur (succ s0) := by
          conv => rhs; rw [← List.take_append_drop (k + 1) (succ s0), visit_app]
          exact visit_pre _ _
        exact h1.trans hc2.pre.1
      have pf : visit cur ((succ s0).take k) <+: o := by
        rw [hv] at pf0
        exact (visit_pre _ _).trans pf0
      rw [hv] at pf0
      have vl : (visit cur ((succ s0).take k)).length ≤ 1000 := Nat.le_trans pf.length_le ol
      have c0 : (visit cur ((succ s0).take k))[n]? = some s0 := pre_get (visit_pre _ _) hs0
      have rl : (toRow o ((succ s0).take k)).length ≤ 100 := by
        unfold toRow
        rw [List.length_map, List.length_take, hs]
        omega
      rw [hr', hv]
      generalize visit cur ((succ s0).take k) = cu at *
      generalize toRow o ((succ s0).take k) = rw0 at *
      refine s_cons (s1_set 9 (p := dat (K.opt x)) (e_step 2 LI rfl (a_cons (e_own (view4 cu (rw0.map optD) _ _ _) (d := K.enc s0) (e_ix (x_lst (i := (n : Nat)) (at_map (f := K.enc) c0)) (e_var 3) (EvD.cI (e_lenL B (e_var 5)) (by rw [List.length_map, tl]))) (K.key s0).1) (a_cons (e_var 7) (a_cons (e_var 8) a_nil))) ⟨s0, k, bt, x, s0o, hbt, hx, rfl, rfl⟩) ?_)
      cases x with
      | none =>
        refine s_cons (s1_if (t := false) (t_w (w_and (t := false) (u := false) (t_cmp c_notN (e_var 9) e_non) fun h => nomatch h)) (fun h => nomatch h) fun _ => s_nil ?_)
        refine s_cons (s1_append 0 (e_var 6) rfl (e_own (view4 cu (rw0.map optD) _ _ _) (d := optD none) (e_if (t := true) (t_cmp c_isN (e_var 9) e_non) (fun _ => e_non) (fun h => nomatch h))) (by rw [List.length_map]; omega) (s_nil ⟨some (dat (natD k)), some (dat bt), some (dat (K.opt none)), ?_⟩))
        rw [show (rw0 ++ [Option.map (ix o) none]).map optD = rw0.map optD ++ [optD none] by rw [List.map_append]; rfl]
        rfl
      | some x =>
        have dg := dget_place K.inj cu x
        have dg2 : ∀ cu2, cu2 <+: o → x ∈ cu2 → dget (placeD K.enc cu2) (K.enc x) = some (natD (ix o x)) := fun cu2 p m => by
          rw [dget_place K.inj, if_pos m, ix_pre p m]
          rfl
        by_cases hx : x ∈ cu
        · rw [if_pos hx] at dg
          refine s_cons (s1_if (t := false) (t_own (view4 cu (rw0.map optD) _ _ _) (EvT.cast (t_w (w_and (t_cmp c_notN (e_var 9) e_non) fun _ => w_and1 (t_cmp (c_ninD (K.key x)) (e_var 9) (e_var 4)))) (by rw [dg]; show (!isN (K.enc x) && _) = _; rw [K.notN]; rfl))) (fun h => nomatch h) fun _ => s_nil ?_)
          refine s_cons (s1_append 0 (e_var 6) rfl (e_own (view4 cu (rw0.map optD) _ _ _) (d := optD (some (ix o x))) (e_if (t := false) (EvT.cast (t_cmp c_isN (e_var 9) e_non) (K.notN x)) (fun h => nomatch h) fun _ => e_ix (x_dct (K.key x) (dg2 cu pf hx)) (e_var 4) (e_var 9))) (by rw [List.length_map]; omega) (s_nil ⟨some (dat (natD k)), some (dat bt), some (dat (K.opt (some x))), ?_⟩))
          have e : visit cu [some x] = cu := if_pos hx
          rw [e, show (rw0 ++ [Option.map (ix o) (some x)]).map optD = rw0.map optD ++ [optD (some (ix o x))] by rw [List.map_append]; rfl]
          rfl
        · rw [if_neg hx] at dg
          have e : visit cu [some x] = cu ++ [x] := if_neg hx
          rw [e] at pf0
          refine s_cons (s1_if (t := true) (t_own (view4 cu (rw0.map optD) _ _ _) (EvT.cast (t_w (w_and (t_cmp c_notN (e_var 9) e_non) fun _ => w_and1 (t_cmp (c_ninD (K.key x)) (e_var 9) (e_var 4)))) (by rw [dg]; show (!isN (K.enc x) && _) = _; rw [K.notN]; rfl))) (fun _ => ?_) (fun h => nomatch h))
          refine s_cons (s1_dput 2 (K.key x) (e_own (view4 cu (rw0.map optD) _ _ _) (EvD.cI (e_lenL B (e_var 3)) (show _ = ((cu.length : Nat) : Int) by rw [List.length_map]))) (e_var 4) (e_var 9) rfl (by rw [place_len]; omega) ?_)
          refine s_cons (s1_append 3 (e_var 3) rfl (e_own (viewG (rw0.map optD) (dput (placeD K.enc cu) (K.enc x) (.int (cu.length : Nat))) (cu.map K.enc) _ _ _) (e_var 9) (K.key x).1) (by rw [List.length_map]; omega) (s_nil ?_))
          have eow : ([(d, .lst (rw0.map optD)), (c, .lst (((tabOf succ o).take n).map rowL)), (b, .dct K.t (placeD K.enc (cu ++ [x]))), (a, .lst ((cu ++ [x]).map K.enc))] : List (Addr × Cont G)) = [(d, .lst (rw0.map optD)), (c, .lst (((tabOf succ o).take n).map rowL)), (b, .dct K.t (dput (placeD K.enc cu) (K.enc x) (.int (cu.length : Nat)))), (a, .lst (cu.map K.enc ++ [K.enc x]))] := by
            rw [placeD_snoc, List.map_append, dput_new dg]
            rfl
          show StD _ ⟨_, [(d, .lst (rw0.map optD)), (c, .lst (((tabOf succ o).take n).map rowL)), (b, .dct K.t (dput (placeD K.enc cu) (K.enc x) (.int (cu.length : Nat)))), (a, .lst (cu.map K.enc ++ [K.enc x]))]⟩ _ _
          rw [← eow]
          refine s_cons (s1_append 0 (e_var 6) rfl (e_own (view4 (cu ++ [x]) (rw0.map optD) _ _ _) (d := optD (some (ix o x))) (e_if (t := false) (EvT.cast (t_cmp c_isN (e_var 9) e_non) (K.notN x)) (fun h => nomatch h) fun _ => e_ix (x_dct (K.key x) (dg2 (cu ++ [x]) pf0 (by simp))) (e_var 4) (e_var 9))) (by rw [List.length_map]; omega) (s_nil ⟨some (dat (natD k)), some (dat bt), some (dat (K.opt (some x))), ?_⟩))
          rw [e, show (rw0 ++ [Option.map (ix o) (some x)]).map optD = rw0.map optD ++ [optD (some (ix o x))] by rw [List.map_append]; rfl]
          rfl
    · rintro ρ1 ⟨s7, s8, s9, rfl⟩
      have tk : (succ s0).take (enumQ (G := G) bs).length = succ s0 := by rw [enumQ_len, hw, ← hs s0, List.take_length]
      rw [tk]
      have nl : n + 1 ≤ (tabOf succ o).length := by
        have h1 := hc2.pre.2
        have h2 : (tabOf succ o).length = o.length := by unfold tabOf; rw [List.length_map]
        have h3 := hc2.pre.1.length_le
        omega
      refine st_frz Part.first (View.refl.set 6 rfl (imp_lst (ds := (toRow o (succ s0)).map optD) (by simp))) ?_
      refine s_cons (s1_append 0 (e_var 5) rfl (e_var 6) (by rw [List.length_map, tl]; omega) (s_nil ⟨o.length + 1 - (n + 1), by have := hc2.pre.2; omega, visit cur (succ s0), n + 1, some (dat (rowL (toRow o (succ s0)))), s7, s8, s9, hc2, rfl, ?_⟩))
      have e0 : (tabOf succ o)[n]? = some (toRow o (succ s0)) := by
        unfold tabOf
        rw [List.getElem?_map, pre_get hc.pre.1 hs0]
        rfl
      rw [List.take_add_one, e0, List.map_append]
      rfl
  · have hn : ¬ n < cur.length := of_decide_eq_false hf
    rcases hc.inv with ⟨_, e⟩ | ⟨s0, hs0, _⟩
    · subst e
      have tk : (tabOf succ cur).take n = tabOf succ cur := by
        apply List.take_of_length_le
        unfold tabOf
        rw [List.length_map]
        omega
      rw [tk]
      rw [tk] at V0
      refine st_frz Part.all V0 ?_
      exact s_cons (s1_ret (e_call D hk (a_cons (e_var 5) a_nil) ⟨w, tabOf succ cur, out, hR, w100, by unfold tabOf; rw [List.length_map]; exact ol, hout, rfl, rfl⟩) rfl)
    · have := (List.getElem?_eq_some_iff.mp hs0).1
      omega
end
end MR
/-! T12: watcher_by. -/
namespace MR
open PySem PySem.Spec PyProof.Rows L2
/-- a def of the text whose code object is known: it makes lambdas -/
structure FunL (G : GC) (i : Nat) (x : Str) (ps : List Str) (cc tt : Addr) : Prop where
  ex : ∃ (f : Addr) (oc : Value) (od : Option Addr) (dV kV doc pm : Value) (an : Option Addr) (ct : Value) (osl : Array (Option Value)), G.mg x = some (.ref f) ∧ PySem.W.keepIn G.K (.ref f) = true ∧
    G.K.lookup f = some ⟨oc, od, .func (PySem.W.fnOf x x (defArgs (topS i)) (defBody (topS i)) (defScope (topS i)) dV kV doc pm an (.ref cc) ct), osl⟩ ∧ PySem.W.codeIn G.K (.ref cc) x = true ∧ Binds G.K (PySem.W.fnOf x x (defArgs (topS i)) (defBody (topS i)) (defScope (topS i)) dV kV doc pm an (.ref cc) ct) ps []
  tab : LamX.TabB G.base G.mg cc tt
  mem : (tt, x ++ ".<locals>." ++ "<lambda>") ∈ G.T
  uniq : ∀ p ∈ G.T, p.1 = tt → p.2 = x ++ ".<locals>." ++ "<lambda>"
section
variable {G : GC}
theorem mk_defL {k i : Nat} {x : Str} {N ps : List Str} {R : Rel G} {cc tt : Addr} (F : FunL G i x ps cc tt) (S : FnScope N ps (defScope (topS i))) (hR : ∀ pvs r, R pvs r → pvs.length = ps.length)
    (body : ∀ (pvs : List (PV G)) (r : PV G), R pvs r → ∀ (f : Addr) (A : Around) (outer : List Env) (s : Shared) (H : Hp) (E : XK) (hr : Room k (A.deeper (envOfC x (defScope (topS i)) s.heap.objs.size f (.ref cc)))),
      StD (bodyL G k N x (topS i) f (.ref cc) A outer s H E S.nd hr) ⟨startS N pvs, []⟩ (defBody (topS i)) { nx := fun _ => ∀ B, r.p B .non, rt := fun p _ => p = r }) : FnD G (k + 1) x ps R := by
  obtain ⟨f, oc, od, dV, kV, doc, pm, an, ct, osl, hm, hk, lk, hcd, hb⟩ := F.ex
  refine ⟨f, _, hm, hk, hb, fn_of lk hcd S (fun vs H Q E ⟨_, B, pvs, r, _, hr, hv, _⟩ => by rw [pvs_len hv]; exact hR _ _ hr) fun A outer s H vs Q E hr h => ?_⟩
  obtain ⟨ht, B, pvs, r, hB, hrel, hv, kk⟩ := h
  have lp : ps.length ≤ N.length := by have q := congrArg List.length S.pre; rw [List.length_take] at q; omega
  suffices z : ∃ t, PSs (cxOf CX0 G.P G.w G.K G.mg G.base N x (defScope (topS i)) f (.ref cc) A outer s H E).nox (defBody (topS i)) t ∧ t { nx := fun _ H' => Q .non H', rt := Q } (L2.start N vs) H by
    obtain ⟨t, h, q⟩ := z
    exact ⟨t, h.nox, q⟩
  refine ⟨_, WSs.pss _ _, body pvs r hrel f A outer s H E hr H B B (L2.start N vs) H _ ⟨Ext.refl _, hB, Ext.refl _, fun a _ h => h, ht, fun i p e => start_get hv e, (fun a c m => absurd m (by simp)), List.nodup_nil, ?_⟩ ⟨fun ρ h B' σ' H' E' => ?_, fun p ρ h v B' σ' H' E' y => ?_, fun _ h => h.elim, fun _ h => h.elim⟩⟩
  · show (startS N pvs).length = (L2.start N vs).length
    rw [startS_len N pvs (by rw [hR _ _ hrel]; exact lp)]
    unfold L2.start
    rw [List.length_append, List.length_map, List.length_replicate, pvs_len hv, hR _ _ hrel]
    omega
  · exact kk _ B' H' E'.ah E'.b0 E'.bh E'.tabs E'.av (h B')
  · subst h
    exact kk v B' H' E'.ah E'.b0 E'.bh E'.tabs E'.av y
end
def natK : StK Nat := ⟨natD, false, natD_inj, keyI, fun _ => rfl⟩
theorem natK_opt (x : Option Nat) : natK.opt x = optD x := by cases x <;> rfl
def succS (l : Lt) (sen : Sen) (s : Nat) : List (Option Nat) := l.beats.map fun b => sen.step b s
/-- the least table of a sentence -/
def Watch (l : Lt) (sen : Sen) (out : Rows) : Prop := ∃ o, o.length ≤ 1000 ∧ Bfs (succS l sen) [0] 0 o ∧ RowsOk l.beats.length (tabOf (succS l sen) o) ∧ Least (tabOf (succS l sen) o) out
section
variable {G : GC} {L : LC G} {ρ : Rho G} {pos : Pos} {e : Expr}
def RWatch (G : GC) : Rel G := fun ps r => ∃ (l : Lt) (sen : Sen) (out : Rows), l.Ok ∧ sen.Ok l ∧ Watch l sen out ∧ ps = [dat l.enc, dat sen.enc] ∧ r = dat (rowsT out)
theorem scWatch : FnScope ["letters", "sentence"] ["letters", "sentence"] (defScope (topS 36)) := ⟨rfl, rfl, rfl, by decide +kernel, rfl, by decide +kernel, by decide +kernel⟩
def lamParts : List Stmt → Option (Expr × Expr × Arguments × Expr × Scope)
  | [.Return (some (.Call _ [a, b, .Lambda p e sc _] _ _)) _] => some (a, b, p, e, sc)
  | _ => none
theorem beats_len (l : Lt) : l.beats.length = l.ins.length * l.outs.length := by
  unfold Lt.beats
  generalize l.ins = is
  induction is with
  | nil => simp
  | cons x is ih => rw [List.flatMap_cons, List.length_append, ih, List.length_map, List.length_cons, Nat.succ_mul, Nat.add_comm]
theorem beats_9 {l : Lt} (h : l.Ok) : l.beats.length ≤ 9 := by
  rw [beats_len]
  exact Nat.mul_le_mul h.i3 h.o3
theorem beats_le {l : Lt} (h : l.Ok) : l.beats.length ≤ 100 := Nat.le_trans (beats_9 h) (by decide)
theorem fn_watcher {cc tt : Addr} (B : Bs G) (F : FunL G 36 "watcher_by" ["letters", "sentence"] cc tt) (FM : FunT G 35 "machine_by" ["beats", "begin", "step"]) (D : FnD G 2 "least_rows" ["rows"] (RLeast G))
    (D1 : FnD G 1 "beats_of" ["letters"] (RBeats G)) (D2 : FnD G 6 "step_by" ["sentence", "state", "beat"] (RStep G fun _ => True)) : FnD G 9 "watcher_by" ["letters", "sentence"] (RWatch G) := by
  refine mk_defL (k := 8) F scWatch (fun pvs r ⟨_, _, _, _, _, _, h, _⟩ => by rw [h]; rfl) fun pvs r ⟨l, sen, out, hl, hsen, ⟨o, ol, hb, hR, hout⟩, h1, h2⟩ f A outer s H E hr => ?_
  subst h1 h2
  obtain ⟨g, fd, hm, Fg, hbd⟩ := FM.ex
  refine s_cons (s1_ret (e_lamcall (p := dat (beatsD l)) (q := dat (natD 0)) (pc := dat sen.enc) (y := "sentence") (jv := 1) (N := ["state", "at", "beat", "sentence"]) (ps := ["state", "at", "beat"]) (k := 7) (j := 6)
    (RS := RMStep G natK (l.beats.map beatD) (succS l sen) (fun s => s ∈ o)) (Nat.le_refl _) (Nat.le_refl _) hm Fg hbd scMachine rfl F.tab rfl F.mem F.uniq rfl (NdefX.nscope_by (by decide +kernel)) (fun q cl pm cv ctv us h => match us, h with | [_, _, _], _ => rfl)
    ?_ (by decide +kernel) rfl rfl body_cells (e_call D1 (show 1 ≤ 8 by decide) (a_cons (e_var 0) a_nil) ⟨l, hl, rfl, rfl⟩) e_int ?_ ?_ ?_) rfl)
  · intro y hy e
    have h : ∀ y ∈ [(("state" : Str), NameKind.local), ("at", NameKind.local), ("beat", NameKind.local), ("sentence", NameKind.free), ("step_by", NameKind.globalImplicit)], y.2 = NameKind.free → (defScope (topS 36)).names.lookup y.1 = some NameKind.cell ∨ (defScope (topS 36)).names.lookup y.1 = some NameKind.free := by decide +kernel
    exact h y hy e
  · rintro pvs r ⟨_, _, _, _, _, _, _, h, _⟩
    rw [h]
    rfl
  · rintro f c' cl pvs r ⟨s, i, b, x, hs, hbi, hx, h1, h2⟩ A outer s' H E hr
    subst h1 h2
    obtain ⟨bt, hbt, rfl⟩ := map_get hbi
    have ex : x = sen.step bt s := by
      unfold succS at hx
      rw [List.getElem?_map, hbt] at hx
      exact (Option.some.inj hx).symm
    subst ex
    rw [natK_opt]
    exact e_call D2 (Nat.le_refl _) (a_cons (e_var 3) (a_cons (e_var 0) (a_cons (e_var 2) a_nil))) ⟨l, sen, s, bt, hsen, True.intro, rfl, rfl⟩
  · intro f cap cd A outer s H E hr LI
    exact machine_body B D (show 2 ≤ 7 by decide) natK (l.beats.map beatD) (succS l sen) 0 o out l.beats.length (List.length_map _) (beats_le hl) (fun s => by unfold succS; rw [List.length_map]) ol hb hR hout f cap LI
end
end MR
/-! T13: joined_rows, together_by. -/
namespace MR
open PySem PySem.Spec PyProof.Rows L2
theorem Bfs.all {σ : Type} [DecidableEq σ] {succ : σ → List (Option σ)} (P : σ → Prop) (hs : ∀ s, P s → ∀ x, some x ∈ succ s → P x) {o : List σ} {n : Nat} {f : List σ} (b : Bfs succ o n f) : (∀ x ∈ o, P x) → ∀ x ∈ f, P x := by
  induction b with
  | done => exact fun h => h
  | step e _ ih =>
    intro ho
    refine ih fun x hx => ?_
    rcases visit_mem.mp hx with hx | hx
    · exact ho x hx
    · exact hs _ (ho _ (List.mem_of_getElem? e)) x hx
theorem keyables_ints : ∀ l : List Nat, keyables (l.map fun k => PyData.int (k : Nat)) = true
  | [] => rfl
  | _ :: l => by rw [List.map_cons]; show (true && _) = true; rw [keyables_ints l]; rfl
theorem nks_ints_inj : ∀ (l m : List Nat), nks (l.map fun k => PyData.int (k : Nat)) = nks (m.map fun k => PyData.int (k : Nat)) → l = m
  | [], [], _ => rfl
  | [], _ :: _, h => by cases h
  | _ :: _, [], h => by cases h
  | x :: l, y :: m, h => by
    have h : NestedKey.num (x : Int) :: nks (l.map fun k => PyData.int (k : Nat)) = NestedKey.num (y : Int) :: nks (m.map fun k => PyData.int (k : Nat)) := h
    injection h with h1 h2
    rw [nks_ints_inj l m h2, Int.ofNat.inj (NestedKey.num.inj h1)]
theorem nks_ints (l : List Nat) : nks (l.map fun k => PyData.int (k : Nat)) = l.map fun (k : Nat) => NestedKey.num (k : Int) := by
  induction l with
  | nil => rfl
  | cons x l ih => rw [List.map_cons]; show NestedKey.num (x : Int) :: _ = _; rw [ih]; rfl
theorem ints_depthAll (l : List Nat) : NestedKey.depthAll (nks (l.map fun k => PyData.int (k : Nat))) ≤ 1 := by
  induction l with
  | nil => decide
  | cons x l ih =>
    rw [List.map_cons]
    show max (NestedKey.depth (.num x)) (NestedKey.depthAll (nks (l.map fun k => PyData.int (k : Nat)))) ≤ 1
    exact Nat.max_le.mpr ⟨Nat.zero_le 1, ih⟩
theorem ints_depth (l : List Nat) : (nk (intsT l)).depth ≤ 8 := by
  show NestedKey.depthAll (nks (l.map fun k => PyData.int (k : Nat))) + 1 ≤ 8
  exact Nat.le_trans (Nat.succ_le_succ (ints_depthAll l)) (by decide)
theorem intsK_key (x : List Nat) : KeyOk true (intsT x) := ⟨show keyables _ = true from keyables_ints x, fun (h : true = false) => Bool.noConfusion h, fun _ => ⟨⟨_, rfl⟩, ints_depth x⟩⟩
def intsK : StK (List Nat) := ⟨intsT, true, fun x y h => nks_ints_inj x y (NestedKey.tup.inj h), intsK_key, fun _ => rfl⟩
theorem intsK_opt (x : Option (List Nat)) : intsK.opt x = optT x := by cases x <;> rfl
/-- the joined steps -/
def succJ (W : List Rows) (w : Nat) (s : List Nat) : List (Option (List Nat)) := (List.range w).map (prodStep W s)
def StOk (W : List Rows) (s : List Nat) : Prop := s.length = W.length ∧ ∀ (i : Nat) R x, W[i]? = some R → s[i]? = some x → x < R.length
def zerosOf (W : List Rows) : List Nat := List.replicate W.length 0
theorem stOk_zero {w : Nat} {W : List Rows} (h : ∀ R ∈ W, RowsOk w R) : StOk W (zerosOf W) := ⟨List.length_replicate, fun i R x hR hx => by
  unfold zerosOf at hx
  rw [List.getElem?_replicate] at hx
  split at hx
  · cases hx
    exact (h R (List.mem_of_getElem? hR)).pos
  · cases hx⟩
theorem stOk_step {w : Nat} {W : List Rows} (h : ∀ R ∈ W, RowsOk w R) {s t : List Nat} (hs : StOk W s) (ht : some t ∈ succJ W w s) : StOk W t := by
  unfold succJ at ht
  obtain ⟨i, hi, e⟩ := List.mem_map.mp ht
  unfold prodStep at e
  split at e
  · rename_i ha
    have e := Option.some.inj e
    have fl : (foundOf W i s).length = W.length := by unfold foundOf; rw [List.length_map, List.length_zip, hs.1, Nat.min_self]
    refine ⟨by rw [← e, List.length_map, fl], fun j R x hR hx => ?_⟩
    rw [← e, List.getElem?_map] at hx
    obtain ⟨u, hu⟩ : ∃ u, s[j]? = some u := by
      have : j < s.length := by rw [hs.1]; exact (List.getElem?_eq_some_iff.mp hR).1
      exact ⟨_, List.getElem?_eq_getElem this⟩
    have hf : (foundOf W i s)[j]? = some ((rowAt R u).getD i none) := by
      unfold foundOf
      rw [List.getElem?_map, (List.getElem?_zip_eq_some (z := (R, u))).mpr ⟨hR, hu⟩]
      rfl
    rw [hf] at hx
    have ok := h R (List.mem_of_getElem? hR)
    have hlt := hs.2 j R u hR hu
    have hso := List.all_eq_true.mp ha _ (List.mem_of_getElem? hf)
    obtain ⟨e1, e2, e3⟩ := ok.row hlt
    cases hq : (rowAt R u).getD i none with
    | none => rw [hq] at hso; cases hso
    | some y =>
      rw [hq] at hx
      cases hx
      refine e3 _ ?_
      rw [List.getD_eq_getElem?_getD] at hq
      cases hq2 : (rowAt R u)[i]? with
      | none => rw [hq2] at hq; cases hq
      | some z => rw [hq2] at hq; cases hq; exact List.mem_of_getElem? hq2
  · cases e
/-- the least table of tables side by side -/
def Joined (w : Nat) (W : List Rows) (out : Rows) : Prop := ∃ o, o.length ≤ 1000 ∧ Bfs (succJ W w) [zerosOf W] 0 o ∧ RowsOk w (tabOf (succJ W w) o) ∧ Least (tabOf (succJ W w) o) out
section
variable {G : GC} {L : LC G} {ρ : Rho G} {pos : Pos} {e : Expr}
def RJoined (G : GC) : Rel G := fun ps r => ∃ (l : Lt) (W : List Rows) (out : Rows), l.Ok ∧ (∀ R ∈ W, RowsOk l.beats.length R) ∧ W.length ≤ 100 ∧ Joined l.beats.length W out ∧ ps = [dat l.enc, dat (.list (W.map rowsT))] ∧ r = dat (rowsT out)
theorem scJoined : FnScope ["letters", "watchers", "begin", "rows"] ["letters", "watchers"] (defScope (topS 38)) := ⟨rfl, rfl, rfl, by decide +kernel, rfl, by decide +kernel, by decide +kernel⟩
theorem fn_joined {cc tt : Addr} (B : Bs G) (F : FunL G 38 "joined_rows" ["letters", "watchers"] cc tt) (FM : FunT G 35 "machine_by" ["beats", "begin", "step"]) (D : FnD G 2 "least_rows" ["rows"] (RLeast G))
    (D1 : FnD G 1 "beats_of" ["letters"] (RBeats G)) (D2 : FnD G 1 "step_rows" ["watchers", "states", "at"] (RStepRows G)) : FnD G 5 "joined_rows" ["letters", "watchers"] (RJoined G) := by
  refine mk_defL (k := 4) F scJoined (fun pvs r ⟨_, _, _, _, _, _, _, h, _⟩ => by rw [h]; rfl) fun pvs r ⟨l, W, out, hl, hW, W100, ⟨o, ol, hb, hR, hout⟩, h1, h2⟩ f A outer s H E hr => ?_
  subst h1 h2
  obtain ⟨g, fd, hm, Fg, hbd⟩ := FM.ex
  have ok : ∀ x ∈ o, StOk W x := hb.all (StOk W) (fun s hs x hx => stOk_step hW hs hx) fun x hx => by
    rw [List.mem_singleton.mp hx]
    exact stOk_zero hW
  refine s_cons (s1_set (p := dat (intsT (zerosOf W))) 2 (e_tuple B (LcR.ev <| lcN (own := [("rows", 3)]) 3 ((zerosOf W).map fun k => PyData.int (k : Nat)) (i_lst (e_var 1)) (blk_body (by decide +kernel)) (by rw [List.length_map, List.length_map]; exact List.length_replicate) (by rw [List.length_map]; omega) fun s H C' cl fp k d g hd hg => ?_)) ?_)
  · obtain ⟨z, hz, rfl⟩ := map_get hg
    unfold zerosOf at hz
    rw [List.getElem?_replicate] at hz
    split at hz
    · cases hz
      exact e_int
    · cases hz
  refine s_cons (s1_ret (e_lamcall (p := dat (beatsD l)) (q := dat (intsT (zerosOf W))) (pc := dat (.list (W.map rowsT))) (y := "watchers") (jv := 1) (N := ["states", "at", "beat", "watchers"]) (ps := ["states", "at", "beat"]) (k := 3) (j := 1)
    (RS := RMStep G intsK (l.beats.map beatD) (succJ W l.beats.length) (fun s => s ∈ o)) (Nat.le_refl _) (show 1 + 1 ≤ 3 by decide) hm Fg hbd scMachine rfl F.tab rfl F.mem F.uniq rfl (NdefX.nscope_by (by decide +kernel)) (fun q cl pm cv ctv us h => match us, h with | [_, _, _], _ => rfl)
    ?_ (by decide +kernel) rfl rfl body_cells (e_call D1 (show 1 ≤ 4 by decide) (a_cons (e_var 0) a_nil) ⟨l, hl, rfl, rfl⟩) (e_var 2) ?_ ?_ ?_) rfl)
  · intro y hy e
    have h : ∀ y ∈ [(("states" : Str), NameKind.local), ("at", NameKind.local), ("beat", NameKind.local), ("watchers", NameKind.free), ("step_rows", NameKind.globalImplicit)], y.2 = NameKind.free → (defScope (topS 38)).names.lookup y.1 = some NameKind.cell ∨ (defScope (topS 38)).names.lookup y.1 = some NameKind.free := by decide +kernel
    exact h y hy e
  · rintro pvs r ⟨_, _, _, _, _, _, _, h, _⟩
    rw [h]
    rfl
  · rintro f c' cl pvs r ⟨s, i, b, x, hs, hbi, hx, h1, h2⟩ A outer s' H E hr
    subst h1 h2
    have hi : i < l.beats.length := by
      have := (List.getElem?_eq_some_iff.mp hbi).1
      rwa [List.length_map] at this
    have ex : x = prodStep W s i := by
      unfold succJ at hx
      rw [List.getElem?_map, List.getElem?_range hi] at hx
      exact (Option.some.inj hx).symm
    subst ex
    rw [intsK_opt]
    exact e_call D2 (Nat.le_refl _) (a_cons (e_var 3) (a_cons (e_var 0) (a_cons (e_var 1) a_nil))) ⟨l.beats.length, W, s, i, hW, (ok s hs).1, W100, (ok s hs).2, hi, rfl, rfl⟩
  · intro f cap cd A outer s H E hr LI
    exact machine_body B D (show 2 ≤ 3 by decide) intsK (l.beats.map beatD) (succJ W l.beats.length) (zerosOf W) o out l.beats.length (List.length_map _) (beats_le hl) (fun s => by unfold succJ; rw [List.length_map, List.length_range]) ol hb hR hout f cap LI
end
end MR
/-! M2: tables are well formed. -/
namespace MR
open PySem
theorem tab_ok {σ : Type} [DecidableEq σ] {succ : σ → List (Option σ)} {b : σ} {o : List σ} {w : Nat} (hb : Bfs succ [b] 0 o) (hs : ∀ s ∈ o, (succ s).length = w) : RowsOk w (tabOf succ o) := by
  have len : (tabOf succ o).length = o.length := by unfold tabOf; rw [List.length_map]
  refine ⟨?_, ?_, ?_⟩
  · rw [len]
    have := hb.pre.1.length_le
    simpa using this
  · intro r hr
    unfold tabOf at hr
    obtain ⟨s, h, rfl⟩ := List.mem_map.mp hr
    unfold toRow
    rw [List.length_map]
    exact hs s h
  · intro r hr k hk
    rw [len]
    unfold tabOf at hr
    obtain ⟨s, h, rfl⟩ := List.mem_map.mp hr
    unfold toRow at hk
    obtain ⟨x, hx, e⟩ := List.mem_map.mp hk
    cases x with
    | none => cases e
    | some y =>
      cases e
      exact ix_lt (hb.mem s h y hx)
theorem Renum.ok {w : Nat} {R out : Rows} (hR : RowsOk w R) (h : Renum R out) : RowsOk w out := by
  obtain ⟨o, hb, rfl⟩ := h
  refine tab_ok hb fun s hs => ?_
  have : s < R.length := hb.lt hR (fun x hx => by rw [List.mem_singleton.mp hx]; exact hR.pos) s hs
  exact (hR.row this).2.1
theorem Least.ok {w : Nat} {R out : Rows} (hR : RowsOk w R) (h : Least R out) : RowsOk w out := by
  obtain ⟨n, f, hc, hr⟩ := h
  obtain ⟨g, rfl⟩ := hc.form
  exact hr.ok (joined_ok hR g)
end MR
/-! T14: together_by, range_rows. -/
namespace MR
open PySem PySem.Spec PyProof.Rows L2
theorem Watch.ok {l : Lt} {s : Sen} {out : Rows} (h : Watch l s out) : RowsOk l.beats.length out := by
  obtain ⟨o, _, _, hR, hL⟩ := h
  exact hL.ok hR
theorem Joined.ok {w : Nat} {W : List Rows} {out : Rows} (h : Joined w W out) : RowsOk w out := by
  obtain ⟨o, _, _, hR, hL⟩ := h
  exact hL.ok hR
/-- the least tables of sentences -/
def Watches (l : Lt) (ss : List Sen) (W : List Rows) : Prop := W.length = ss.length ∧ ∀ (i : Nat) s R, ss[i]? = some s → W[i]? = some R → Watch l s R
theorem Watches.ok {l : Lt} {ss : List Sen} {W : List Rows} (h : Watches l ss W) : ∀ R ∈ W, RowsOk l.beats.length R := fun R hR => by
  obtain ⟨i, hi⟩ := List.getElem?_of_mem hR
  have : i < ss.length := by rw [← h.1]; exact (List.getElem?_eq_some_iff.mp hi).1
  exact (h.2 i _ R (List.getElem?_eq_getElem this) hi).ok
/-- the table of sentences together -/
def Together (l : Lt) (ss : List Sen) (out : Rows) : Prop := ∃ W, Watches l ss W ∧ Joined l.beats.length W out
theorem Together.ok {l : Lt} {ss : List Sen} {out : Rows} (h : Together l ss out) : RowsOk l.beats.length out := by
  obtain ⟨W, _, h⟩ := h
  exact h.ok
section
variable {G : GC} {L : LC G} {ρ : Rho G} {pos : Pos} {e : Expr}
def RTogether (G : GC) : Rel G := fun ps r => ∃ (l : Lt) (ss : List Sen) (out : Rows) (d : PyData), l.Ok ∧ (∀ s ∈ ss, s.Ok l) ∧ ss.length ≤ 100 ∧ Together l ss out ∧ (d = .list (ss.map Sen.enc) ∨ d = .tuple (ss.map Sen.enc)) ∧ ps = [dat l.enc, dat d] ∧ r = dat (rowsT out)
theorem scTogether : FnScope ["letters", "sentences", "sentence"] ["letters", "sentences"] (defScope (topS 39)) := ⟨rfl, rfl, rfl, by decide +kernel, rfl, by decide +kernel, by decide +kernel⟩
theorem fn_together (F : FunT G 39 "together_by" ["letters", "sentences"]) (D1 : FnD G 9 "watcher_by" ["letters", "sentence"] (RWatch G)) (D2 : FnD G 5 "joined_rows" ["letters", "watchers"] (RJoined G)) : FnD G 10 "together_by" ["letters", "sentences"] (RTogether G) := by
  refine mk_def (k := 9) F scTogether (fun pvs r ⟨_, _, _, _, _, _, _, _, _, h, _⟩ => by rw [h]; rfl) fun pvs r ⟨l, ss, out, d, hl, hss, s100, ⟨W, hW, hj⟩, hd, h1, h2⟩ f cd A outer s H E hr => ?_
  subst h1 h2
  refine s_cons (s1_ret (e_call D2 (show 5 ≤ 9 by decide) (a_cons (e_var 0) (a_cons (p := dat (.list (W.map rowsT))) (LcR.ev <| lcN (own := [("sentence", 2)]) (ds := ss.map Sen.enc) 2 (W.map rowsT) ?_ (blk_body (by decide +kernel)) (by rw [List.length_map, List.length_map]; exact hW.1) (by rw [List.length_map]; omega) fun s H C' cl fp k d g hd hg => ?_) a_nil)) ⟨l, W, out, hl, hW.ok, by rw [hW.1]; exact s100, hj, rfl, rfl⟩) rfl)
  · rcases hd with rfl | rfl
    · exact i_lst (e_var 1)
    · exact i_tup (e_var 1)
  · obtain ⟨sn, hsn, rfl⟩ := map_get hd
    obtain ⟨R, hR, rfl⟩ := map_get hg
    exact e_call D1 (Nat.le_refl _) (a_cons (e_var 0) (a_cons (e_var 2) a_nil)) ⟨l, sn, R, hl, hss sn (List.mem_of_getElem? hsn), hW.2 k sn R hsn hR, rfl, rfl⟩
def stdD (l : Lt) (range : List Sen) (cl : PyData) : PyData := .tuple [l.enc, .tuple (range.map Sen.enc), cl]
def RRange (G : GC) : Rel G := fun ps r => ∃ (l : Lt) (range : List Sen) (cl : PyData) (out : Rows), l.Ok ∧ (∀ s ∈ range, s.Ok l) ∧ range.length ≤ 100 ∧ Together l range out ∧ ps = [dat (stdD l range cl)] ∧ r = dat (rowsT out)
theorem scRange : FnScope ["standard"] ["standard"] (defScope (topS 56)) := ⟨rfl, rfl, rfl, by decide +kernel, rfl, by decide +kernel, by decide +kernel⟩
theorem fn_range_rows (F : FunT G 56 "range_rows" ["standard"]) (D : FnD G 10 "together_by" ["letters", "sentences"] (RTogether G)) : FnD G 11 "range_rows" ["standard"] (RRange G) := by
  refine mk_def (k := 10) F scRange (fun pvs r ⟨_, _, _, _, _, _, _, _, h, _⟩ => by rw [h]; rfl) fun pvs r ⟨l, range, cl, out, hl, hr1, h100, ht, h1, h2⟩ f cd A outer s H E hr => ?_
  subst h1 h2
  exact s_cons (s1_ret (e_call D (Nat.le_refl _) (a_cons (e_ix (x_tup at0) (e_var 0) e_int) (a_cons (e_ix (x_tup at1) (e_var 0) e_int) a_nil)) ⟨l, range, out, .tuple (range.map Sen.enc), hl, hr1, h100, ht, .inr rfl, rfl, rfl⟩) rfl)
end
end MR
/-! T15: standards and claims are looked at. -/
namespace MR
open PySem PySem.Spec PyProof.Rows L2
structure Cla where
  num : Nat
  opt : Str
  sen : Sen
def Cla.enc (c : Cla) : PyData := .tuple [.int (c.num : Nat), .str c.opt, c.sen.enc]
structure Cla.Ok (l : Lt) (c : Cla) : Prop where
  n1 : 1 ≤ c.num
  n99 : c.num ≤ 99
  o : c.opt = "" ∨ wordB c.opt = true
  s : c.sen.Ok l
structure RangeOk (l : Lt) (range : List Sen) : Prop where
  n3 : range.length ≤ 3
  ok : ∀ s ∈ range, s.Ok l
  plain : ∀ s ∈ range, s.plain = true
  many : ∃ W, Watches l range W ∧ prodLen W ≤ 4
structure ClausesOk (l : Lt) (cl : List Cla) : Prop where
  n1 : 1 ≤ cl.length
  n8 : cl.length ≤ 8
  ok : ∀ c ∈ cl, c.Ok l
  rise : riseI (cl.map fun c => (c.num : Int))
  many : ∃ W, Watches l (cl.map Cla.sen) W ∧ prodLen W ≤ 60
structure Std where
  l : Lt
  range : List Sen
  cl : List Cla
def Std.enc (S : Std) : PyData := stdD S.l S.range (.tuple (S.cl.map Cla.enc))
structure Std.Ok (S : Std) : Prop where
  l : S.l.Ok
  r : RangeOk S.l S.range
  c : ClausesOk S.l S.cl
structure ClaimsOk (cs : List Str) : Prop where
  n : cs.length ≤ 1000
  w : ∀ x ∈ cs, wordB x = true
  rise : riseS cs
theorem foldl_mul (l : List Nat) (a : Nat) : l.foldl (· * ·) a = a * l.foldl (· * ·) 1 := by
  induction l generalizing a with
  | nil => simp
  | cons x l ih => rw [List.foldl_cons, List.foldl_cons, ih, ih (1 * x), Nat.one_mul, Nat.mul_assoc]
theorem prodLen_cons (R : Rows) (W : List Rows) : prodLen (R :: W) = R.length * prodLen W := by
  unfold prodLen
  rw [List.map_cons, List.foldl_cons, foldl_mul, Nat.one_mul]
theorem prod_pos : ∀ {W : List Rows}, (∀ R ∈ W, 1 ≤ R.length) → 1 ≤ prodLen W
  | [], _ => Nat.le_refl _
  | R :: W, h => by
    rw [prodLen_cons]
    exact Nat.mul_le_mul (h R List.mem_cons_self) (prod_pos fun R hR => h R (List.mem_cons_of_mem _ hR))
theorem prod_take : ∀ {W : List Rows}, (∀ R ∈ W, 1 ≤ R.length) → ∀ k, prodLen (W.take k) ≤ prodLen W
  | [], _, k => by simp
  | R :: W, h, 0 => prod_pos h
  | R :: W, h, k + 1 => by
    rw [List.take_succ_cons, prodLen_cons, prodLen_cons]
    exact Nat.mul_le_mul_left _ (prod_take (fun R hR => h R (List.mem_cons_of_mem _ hR)) k)
theorem prod_mem : ∀ {W : List Rows}, (∀ R ∈ W, 1 ≤ R.length) → ∀ R ∈ W, R.length ≤ prodLen W
  | R :: W, h, x, hx => by
    rw [prodLen_cons]
    rcases List.mem_cons.mp hx with rfl | hx
    · exact Nat.le_mul_of_pos_right _ (prod_pos fun R hR => h R (List.mem_cons_of_mem _ hR))
    · exact Nat.le_trans (prod_mem (fun R hR => h R (List.mem_cons_of_mem _ hR)) x hx) (Nat.le_mul_of_pos_left _ (h R List.mem_cons_self))
section
variable {G : GC} {L : LC G} {ρ : Rho G} {pos : Pos} {e : Expr}
theorem rmany {w : Nat} {W : List Rows} (h : ∀ R ∈ W, RowsOk w R) (hp : prodLen W ≤ 1000) : RMany G [dat (.list (W.map rowsT))] (dat (natD (prodLen W))) :=
  have h1 : ∀ R ∈ W, 1 ≤ R.length := fun R hR => (h R hR).pos
  ⟨W, fun k => Nat.le_trans (prod_take h1 k) hp, fun R hR => Nat.le_trans (prod_mem h1 R hR) hp, rfl, rfl⟩
/-! is_range -/
theorem scIsRange : FnScope ["letters", "thing", "one"] ["letters", "thing"] (defScope (topS 46)) := ⟨rfl, rfl, rfl, by decide +kernel, rfl, by decide +kernel, by decide +kernel⟩
def RIsRange (G : GC) : Rel G := fun ps r => ∃ (l : Lt) (range : List Sen), l.Ok ∧ RangeOk l range ∧ ps = [dat l.enc, dat (.tuple (range.map Sen.enc))] ∧ r = dat (.bool true)
theorem fn_is_range (B : Bs G) (C : Cs G) (F : FunT G 46 "is_range" ["letters", "thing"]) (D1 : FnD G 5 "is_sentence_by" ["letters", "thing"] (RSentence G)) (D2 : FnD G 5 "is_of_ins" ["sentence"] (ROfIns G)) (D3 : FnD G 9 "watcher_by" ["letters", "sentence"] (RWatch G)) (D4 : FnD G 1 "many_of" ["watchers"] (RMany G)) :
    FnD G 10 "is_range" ["letters", "thing"] (RIsRange G) := by
  refine mk_def (k := 9) F scIsRange (fun pvs r ⟨_, _, _, _, h, _⟩ => by rw [h]; rfl) fun pvs r ⟨l, range, hl, hr0, h1, h2⟩ f cd A outer s H E hr => ?_
  subst h1 h2
  obtain ⟨W, hW, hp⟩ := hr0.many
  have n3 := hr0.n3
  refine s_cons (s1_if (EvT.cast (t_w (w_or (t_not (t_val (e_isT B (e_var 1)))) fun _ => w_or1 (t_cmp c_gt (e_lenT B (e_var 1)) (e_cint C.range)))) (show (!true || _) = false by rw [List.length_map]; exact decide_eq_false (by omega))) (fun h => nomatch h) fun _ => s_nil ?_)
  refine s_cons (s1_if (t := false) (EvT.cast (t_not (t_val (e_allT B (n := range.length) (LcR.ev <| lcN (own := [("one", 2)]) (ds := range.map Sen.enc) 2 _ (i_tup (e_var 1)) (blk_body (by decide +kernel)) (by simp) (by simp; omega) fun s H C' ce fp k d g hd hg => ?_)))) rfl) (fun h => nomatch h) fun _ => s_nil ?_)
  · obtain rfl := rep_get hg
    obtain ⟨sn, hsn, rfl⟩ := map_get hd
    have m := List.mem_of_getElem? hsn
    exact EvD.cast (e_and (e_call D1 (show 5 ≤ 9 by decide) (a_cons (e_var 0) (a_cons (e_var 2) a_nil)) ⟨l, sn, hl, hr0.ok sn m, rfl, rfl⟩) fun _ => e_one (e_call D2 (show 5 ≤ 9 by decide) (a_cons (e_var 2) a_nil) ⟨l, sn, hr0.ok sn m, rfl, rfl⟩)) (by rw [hr0.plain sn m]; rfl)
  · refine s_cons (s1_ret (EvD.cB (e_cmp c_le (e_call D4 (show 1 ≤ 9 by decide) (a_cons (p := dat (.list (W.map rowsT))) (LcR.ev <| lcN (own := [("one", 2)]) (ds := range.map Sen.enc) 2 (W.map rowsT) (i_tup (e_var 1)) (blk_body (by decide +kernel)) (by simp [hW.1]) (by simp; omega) fun s H C' ce fp k d g hd hg => ?_) a_nil) (rmany hW.ok (by omega))) (e_cint C.rstandings)) (decide_eq_true (by omega))) rfl)
    obtain ⟨sn, hsn, rfl⟩ := map_get hd
    obtain ⟨R, hR, rfl⟩ := map_get hg
    exact e_call D3 (Nat.le_refl _) (a_cons (e_var 0) (a_cons (e_var 2) a_nil)) ⟨l, sn, R, hl, hr0.ok sn (List.mem_of_getElem? hsn), hW.2 k sn R hsn hR, rfl, rfl⟩
/-! is_clause -/
theorem scIsClause : FnScope ["letters", "thing"] ["letters", "thing"] (defScope (topS 47)) := ⟨rfl, rfl, rfl, by decide +kernel, rfl, by decide +kernel, by decide +kernel⟩
def RIsClause (G : GC) : Rel G := fun ps r => ∃ (l : Lt) (c : Cla), l.Ok ∧ c.Ok l ∧ ps = [dat l.enc, dat c.enc] ∧ r = dat (.bool true)
theorem fn_is_clause (B : Bs G) (C : Cs G) (F : FunT G 47 "is_clause" ["letters", "thing"]) (D1 : FnD G 5 "is_sentence_by" ["letters", "thing"] (RSentence G)) (D2 : FnD G 2 "is_within" ["thing", "least", "most"] (RIsWithin G)) (D3 : FnD G 1 "is_word" ["thing"] (RIsWord G)) :
    FnD G 6 "is_clause" ["letters", "thing"] (RIsClause G) := by
  refine mk_def (k := 5) F scIsClause (fun pvs r ⟨_, _, _, _, h, _⟩ => by rw [h]; rfl) fun pvs r ⟨l, c, hl, hc, h1, h2⟩ f cd A outer s H E hr => ?_
  subst h1 h2
  have n1 := hc.n1
  have n99 := hc.n99
  refine s_cons (s1_if (EvT.cast (t_w (w_or (t_not (t_val (e_isT B (e_var 1)))) fun _ => w_or (t_cmp c_neI (e_lenT B (e_var 1)) e_int) fun _ => w_or1 (t_not (t_val (e_call D2 (show 2 ≤ 5 by decide) (a_cons (e_ix (x_tup at0) (e_var 1) e_int) (a_cons e_int (a_cons (e_cint C.clause) a_nil))) ⟨(c.num : Nat), 1, 99, rfl, rfl⟩))))) (show (!true || (!decide ((([PyData.int (c.num : Nat), .str c.opt, c.sen.enc].length : Nat) : Int) = 3) || !(_ && _))) = false by rw [decide_eq_true (show (1 : Int) ≤ (c.num : Nat) by omega), decide_eq_true (show ((c.num : Nat) : Int) ≤ 99 by omega)]; rfl)) (fun h => nomatch h) fun _ => s_nil ?_)
  have hw : (!true || (!decide (c.opt = "") && !true)) = false := by cases decide (c.opt = "") <;> rfl
  refine s_cons (s1_if (t := false) (EvT.cast (t_w (w_or (t_not (t_val (e_isS B (e_ix (x_tup at1) (e_var 1) e_int)))) fun _ => w_or1 (t_w (w_and (u := false) (t_cmp c_neS (e_ix (x_tup at1) (e_var 1) e_int) e_str) fun hne => w_and1 (t_not (t_val (e_call D3 (show 1 ≤ 5 by decide) (a_cons (e_ix (x_tup at1) (e_var 1) e_int) a_nil) ⟨c.opt, ?_, rfl, rfl⟩))))))) (by rw [Bool.and_false]; rfl)) (fun h => nomatch h) fun _ => s_nil ?_)
  · rcases hc.o with h | h
    · rw [h] at hne
      exact absurd hne (by decide +kernel)
    · exact h
  · exact s_cons (s1_ret (e_call D1 (Nat.le_refl _) (a_cons (e_var 0) (a_cons (e_ix (x_tup at2) (e_var 1) e_int) a_nil)) ⟨l, c.sen, hl, hc.s, rfl, rfl⟩) rfl)
/-! are_clauses -/
theorem scAreClauses : FnScope ["letters", "thing", "one"] ["letters", "thing"] (defScope (topS 48)) := ⟨rfl, rfl, rfl, by decide +kernel, rfl, by decide +kernel, by decide +kernel⟩
def RAreClauses (G : GC) : Rel G := fun ps r => ∃ (l : Lt) (cl : List Cla), l.Ok ∧ ClausesOk l cl ∧ ps = [dat l.enc, dat (.tuple (cl.map Cla.enc))] ∧ r = dat (.bool true)
theorem fn_are_clauses (B : Bs G) (C : Cs G) (F : FunT G 48 "are_clauses" ["letters", "thing"]) (D1 : FnD G 6 "is_clause" ["letters", "thing"] (RIsClause G)) (D2 : FnD G 1 "rises" ["row"] (RRises G)) (D3 : FnD G 9 "watcher_by" ["letters", "sentence"] (RWatch G)) (D4 : FnD G 1 "many_of" ["watchers"] (RMany G)) :
    FnD G 10 "are_clauses" ["letters", "thing"] (RAreClauses G) := by
  refine mk_def (k := 9) F scAreClauses (fun pvs r ⟨_, _, _, _, h, _⟩ => by rw [h]; rfl) fun pvs r ⟨l, cl, hl, hc, h1, h2⟩ f cd A outer s H E hr => ?_
  subst h1 h2
  obtain ⟨W, hW, hp⟩ := hc.many
  have n1 := hc.n1
  have n8 := hc.n8
  have lenW : W.length = cl.length := by rw [hW.1, List.length_map]
  refine s_cons (s1_if (EvT.cast (t_w (w_or (t_not (t_val (e_isT B (e_var 1)))) fun _ => w_or1 (t_not (t_chain c_le c_le e_int (e_lenT B (e_var 1)) fun _ => e_cint C.clauses)))) (show (!true || !(decide (_ ≤ _) && decide (_ ≤ _))) = false by rw [List.length_map, decide_eq_true (show (1 : Int) ≤ (cl.length : Nat) by omega), decide_eq_true (show ((cl.length : Nat) : Int) ≤ 8 by omega)]; rfl)) (fun h => nomatch h) fun _ => s_nil ?_)
  refine s_cons (s1_if (t := false) (EvT.cast (t_w (w_or (t_not (t_val (e_allT B (n := cl.length) (LcR.ev <| lcN (own := [("one", 2)]) (ds := cl.map Cla.enc) 2 _ (i_tup (e_var 1)) (blk_body (by decide +kernel)) (by simp) (by simp; omega) fun s H C' ce fp k d g hd hg => ?_)))) fun _ => w_or1 (t_not (t_val (e_call D2 (show 1 ≤ 9 by decide) (a_cons (p := dat (.list ((cl.map fun c => (c.num : Int)).map PyData.int))) (LcR.ev <| lcN (own := [("one", 2)]) (ds := cl.map Cla.enc) 2 _ (i_tup (e_var 1)) (blk_body (by decide +kernel)) (by simp) (by simp; omega) fun s H C' ce fp k d g hd hg => ?_) a_nil) ⟨.inl ⟨_, by rw [List.length_map]; omega, hc.rise, rfl⟩, rfl⟩))))) rfl) (fun h => nomatch h) fun _ => s_nil ?_)
  · obtain rfl := rep_get hg
    obtain ⟨c, hcc, rfl⟩ := map_get hd
    exact e_call D1 (show 6 ≤ 9 by decide) (a_cons (e_var 0) (a_cons (e_var 2) a_nil)) ⟨l, c, hl, hc.ok c (List.mem_of_getElem? hcc), rfl, rfl⟩
  · obtain ⟨c, hcc, rfl⟩ := map_get hd
    obtain ⟨i, hi, rfl⟩ := map_get hg
    obtain ⟨c2, hc2, rfl⟩ : ∃ c2, cl[k]? = some c2 ∧ i = (c2.num : Int) := by
      rw [List.getElem?_map, hcc] at hi
      exact ⟨c, hcc, (Option.some.inj hi).symm⟩
    rw [hcc] at hc2
    cases hc2
    exact e_ix (x_tup at0) (e_var 2) e_int
  · refine s_cons (s1_ret (EvD.cB (e_cmp c_le (e_call D4 (show 1 ≤ 9 by decide) (a_cons (p := dat (.list (W.map rowsT))) (LcR.ev <| lcN (own := [("one", 2)]) (ds := cl.map Cla.enc) 2 (W.map rowsT) (i_tup (e_var 1)) (blk_body (by decide +kernel)) (by simp [lenW]) (by simp; omega) fun s H C' ce fp k d g hd hg => ?_) a_nil) (rmany hW.ok (by omega))) (e_cint C.standings)) (decide_eq_true (by omega))) rfl)
    obtain ⟨c, hcc, rfl⟩ := map_get hd
    obtain ⟨R, hR, rfl⟩ := map_get hg
    exact e_call D3 (Nat.le_refl _) (a_cons (e_var 0) (a_cons (e_ix (x_tup at2) (e_var 2) e_int) a_nil)) ⟨l, c.sen, R, hl, (hc.ok c (List.mem_of_getElem? hcc)).s, hW.2 k c.sen R (by rw [List.getElem?_map, hcc]; rfl) hR, rfl, rfl⟩
/-! is_standard, are_claims -/
theorem scIsStandard : FnScope ["thing"] ["thing"] (defScope (topS 49)) := ⟨rfl, rfl, rfl, by decide +kernel, rfl, by decide +kernel, by decide +kernel⟩
def RIsStandard (G : GC) : Rel G := fun ps r => ∃ S : Std, S.Ok ∧ ps = [dat S.enc] ∧ r = dat (.bool true)
theorem fn_is_standard (B : Bs G) (F : FunT G 49 "is_standard" ["thing"]) (D1 : FnD G 3 "is_letters" ["thing"] (RIsLetters G)) (D2 : FnD G 10 "is_range" ["letters", "thing"] (RIsRange G)) (D3 : FnD G 10 "are_clauses" ["letters", "thing"] (RAreClauses G)) : FnD G 11 "is_standard" ["thing"] (RIsStandard G) := by
  refine mk_def (k := 10) F scIsStandard (fun pvs r ⟨_, _, h, _⟩ => by rw [h]; rfl) fun pvs r ⟨S, hS, h1, h2⟩ f cd A outer s H E hr => ?_
  subst h1 h2
  refine s_cons (s1_if (t := false) (EvT.cast (t_w (w_or (t_not (t_val (e_isT B (e_var 0)))) fun _ => w_or (t_cmp c_neI (e_lenT B (e_var 0)) e_int) fun _ => w_or1 (t_not (t_val (e_call D1 (show 3 ≤ 10 by decide) (a_cons (e_ix (x_tup at0) (e_var 0) e_int) a_nil) ⟨S.l, hS.l, rfl, rfl⟩))))) rfl) (fun h => nomatch h) fun _ => s_nil ?_)
  exact s_cons (s1_ret (e_and (e_call D2 (Nat.le_refl _) (a_cons (e_ix (x_tup at0) (e_var 0) e_int) (a_cons (e_ix (x_tup at1) (e_var 0) e_int) a_nil)) ⟨S.l, S.range, hS.l, hS.r, rfl, rfl⟩) fun _ => e_one (e_call D3 (Nat.le_refl _) (a_cons (e_ix (x_tup at0) (e_var 0) e_int) (a_cons (e_ix (x_tup at2) (e_var 0) e_int) a_nil)) ⟨S.l, S.cl, hS.l, hS.c, rfl, rfl⟩)) rfl)
theorem scAreClaims : FnScope ["thing", "one"] ["thing"] (defScope (topS 50)) := ⟨rfl, rfl, rfl, by decide +kernel, rfl, by decide +kernel, by decide +kernel⟩
def RAreClaims (G : GC) : Rel G := fun ps r => ∃ cs : List Str, ClaimsOk cs ∧ ps = [dat (strsD cs)] ∧ r = dat (.bool true)
theorem fn_are_claims (B : Bs G) (F : FunT G 50 "are_claims" ["thing"]) (D1 : FnD G 1 "is_word" ["thing"] (RIsWord G)) (D2 : FnD G 1 "rises" ["row"] (RRises G)) : FnD G 2 "are_claims" ["thing"] (RAreClaims G) := by
  refine mk_def (k := 1) F scAreClaims (fun pvs r ⟨_, _, h, _⟩ => by rw [h]; rfl) fun pvs r ⟨cs, hc, h1, h2⟩ f cd A outer s H E hr => ?_
  subst h1 h2
  have n := hc.n
  refine s_cons (s1_ret (e_and (e_isT B (e_var 0)) fun _ => e_and (e_allT B (n := cs.length) (LcR.ev <| lcN (own := [("one", 1)]) (ds := cs.map PyData.str) 1 _ (i_tup (e_var 0)) (blk_body (by decide +kernel)) (by simp) (by simp; omega) fun s H C' ce fp k d g hd hg => ?_)) fun _ => e_one (e_call D2 (Nat.le_refl _) (a_cons (e_var 0) a_nil) ⟨.inr ⟨cs, n, hc.rise, rfl⟩, rfl⟩)) rfl)
  obtain rfl := rep_get hg
  obtain ⟨x, hx, rfl⟩ := map_get hd
  exact e_call D1 (Nat.le_refl _) (a_cons (e_var 1) a_nil) ⟨x, hc.w x (List.mem_of_getElem? hx), rfl, rfl⟩
end
end MR
/-! T16: what is needed, what binds. -/
namespace MR
open PySem PySem.Spec PyProof.Rows L2
section
variable {G : GC} {L : LC G} {ρ : Rho G} {pos : Pos} {e : Expr} {tg iter elt c : Expr} {own : List (Str × Nat)} {scope : Scope} {p : PV G}
def triD (q : PyData × PyData × PyData) : PyData := .tuple [q.1, q.2.1, q.2.2]
/-- the slots i, j, m take the k-th triple -/
def putT (i j m : Nat) (ts : List (PyData × PyData × PyData)) (k : Nat) (l : List (Option (PV G))) : List (Option (PV G)) := match ts[k]? with
  | some q => ((l.set i (some (dat q.1))).set j (some (dat q.2.1))).set m (some (dat q.2.2))
  | none => l
theorem putT_eq {i j m : Nat} {ts : List (PyData × PyData × PyData)} {k : Nat} {l : List (Option (PV G))} {q : PyData × PyData × PyData} (h : ts[k]? = some q) : putT i j m ts k l = ((l.set i (some (dat q.1))).set j (some (dat q.2.1))).set m (some (dat q.2.2)) := by unfold putT; rw [h]
theorem g_threeN (i j m : Nat) {x y z : Str} {px py pz pt : Pos} {kk : Nat} {ts : List (PyData × PyData × PyData)} {k : Nat} (hp : ((ts.map triD).map (dat (G := G)))[k]? = some p) (hi : L.X.N[i]? = some x) (hj : L.X.N[j]? = some y) (hm : L.X.N[m]? = some z) (hx : Loc L.X.env.scope x) (hy : Loc L.X.env.scope y) (hz : Loc L.X.env.scope z) (hfx : L.X.fn x = true ∨ L.X.env.scope.names.lookup x = some .local) (hfy : L.X.fn y = true ∨ L.X.env.scope.names.lookup y = some .local) (hfz : L.X.fn z = true ∨ L.X.env.scope.names.lookup z = some .local) :
    TgD L (.Tuple [.Name x px, .Name y py, .Name z pz] kk pt) p [i, j, m] (putT i j m ts k) := by
  obtain ⟨d, h1, rfl⟩ := dats_get hp
  obtain ⟨q, hq, rfl⟩ := map_get h1
  have e : putT (G := G) i j m ts k = fun l => ((l.set i (some (dat q.1))).set j (some (dat q.2.1))).set m (some (dat q.2.2)) := by funext l; exact putT_eq hq
  rw [e]
  exact TgD.dat (ds := [q.1, q.2.1, q.2.2]) (g_three i j m hi hj hm hx hy hz hfx hfy hfz)
/-- [elt for x, y, z in iter if c] -/
theorem lcTIf (i j m : Nat) {x y z : Str} {px py pz pt : Pos} {kk : Nat} {ts : List (PyData × PyData × PyData)} (gs : List (Option PyData)) (hi : ItD L ρ (.Tuple [.Name x px, .Name y py, .Name z pz] kk pt) iter ((ts.map triD).map dat)) (ok : BlkOk L.X.N L.X.env.scope scope own) (hl : gs.length = ts.length) (hsz : ts.length ≤ 100000)
    (ht : ∀ s H C cl fp (k : Nat) q g, ts[k]? = some q → gs[k]? = some g → EvT (L.blk s H scope C cl fp) ⟨(((wipeS ρ.sl (own.map (·.2))).set i (some (dat q.1))).set j (some (dat q.2.1))).set m (some (dat q.2.2)), ρ.ow⟩ c g.isSome)
    (he : ∀ s H C cl fp (k : Nat) q g, ts[k]? = some q → gs[k]? = some (some g) → EvD (L.blk s H scope C cl fp) ⟨(((wipeS ρ.sl (own.map (·.2))).set i (some (dat q.1))).set j (some (dat q.2.1))).set m (some (dat q.2.2)), ρ.ow⟩ elt (dat g)) (hin : ∀ a ∈ [i, j, m], a ∈ own.map (·.2) := by decide) (hN : L.X.N[i]? = some x := by rfl) (hM : L.X.N[j]? = some y := by rfl) (hO : L.X.N[m]? = some z := by rfl)
    (hx : Loc (relabel scope L.X.env) x := by first | exact Or.inl rfl | exact Or.inr rfl) (hy : Loc (relabel scope L.X.env) y := by first | exact Or.inl rfl | exact Or.inr rfl) (hz : Loc (relabel scope L.X.env) z := by first | exact Or.inl rfl | exact Or.inr rfl) (hf : (relabel scope L.X.env).names.lookup x = some .local := by rfl) (hfy : (relabel scope L.X.env).names.lookup y = some .local := by rfl) (hfz : (relabel scope L.X.env).names.lookup z = some .local := by rfl)
    (hfs : ∀ x, foldedSetIterable iter L.X.env x = pure x := by intro _; rfl) : LcR L ρ own scope [c] elt (.Tuple [.Name x px, .Name y py, .Name z pz] kk pt) iter (gs.filterMap id) :=
  lcRIf (is := [i, j, m]) (putT i j m ts) gs hi ok (by rw [List.length_map, List.length_map]; exact hl) (by rw [List.length_map, List.length_map]; exact hsz) hin
    (fun L' hL' k p hp => by obtain ⟨s, H, C, cl, fp, rfl⟩ := hL'; exact g_threeN i j m hp hN hM hO hx hy hz (.inr hf) (.inr hfy) (.inr hfz))
    (fun L' hL' k p g hp hg => by
      obtain ⟨s, H, C, cl, fp, rfl⟩ := hL'
      obtain ⟨d, h1, rfl⟩ := dats_get hp
      obtain ⟨q, hq, rfl⟩ := map_get h1
      rw [putT_eq hq]
      exact ht s H C cl fp k q g hq hg)
    (fun L' hL' k p g hp hg => by
      obtain ⟨s, H, C, cl, fp, rfl⟩ := hL'
      obtain ⟨d, h1, rfl⟩ := dats_get hp
      obtain ⟨q, hq, rfl⟩ := map_get h1
      rw [putT_eq hq]
      exact he s H C cl fp k q g hq hg) hfs
end
/-- does the clause bind -/
def Cla.binds (cs : List Str) (c : Cla) : Bool := decide (c.opt = "") || decide (c.opt ∈ cs)
def sensOf (cl : List Cla) (cs : List Str) : List Sen := (cl.filter (Cla.binds cs)).map Cla.sen
def numsOf (cl : List Cla) (cs : List Str) : List Nat := (cl.filter (Cla.binds cs)).map Cla.num
def Cla.tri (c : Cla) : PyData × PyData × PyData := (.int (c.num : Nat), .str c.opt, c.sen.enc)
theorem filter_map_if {α β : Type} (p : α → Bool) (f : α → β) (l : List α) : (l.map fun c => if p c then some (f c) else none).filterMap id = (l.filter p).map f := by
  induction l with
  | nil => rfl
  | cons x l ih =>
    rw [List.map_cons, List.filter_cons]
    cases p x
    · simpa using ih
    · simpa using ih
section
variable {G : GC} {L : LC G} {ρ : Rho G} {pos : Pos} {e : Expr}
theorem flat_strs (cs : List Str) : (cs.map PyData.str).all flatD = true := by
  rw [List.all_map]
  exact List.all_eq_true.mpr fun x _ => rfl
theorem scNeedS : FnScope ["thing"] ["thing"] (defScope (topS 51)) := ⟨rfl, rfl, rfl, by decide +kernel, rfl, by decide +kernel, by decide +kernel⟩
def RNeedS (G : GC) : Rel G := fun ps r => ∃ S : Std, S.Ok ∧ ps = [dat S.enc] ∧ r = dat .none
theorem fn_need_s (F : FunT G 51 "need_standard" ["thing"]) (D : FnD G 11 "is_standard" ["thing"] (RIsStandard G)) : FnD G 12 "need_standard" ["thing"] (RNeedS G) := by
  refine mk_def (k := 11) F scNeedS (fun pvs r ⟨_, _, h, _⟩ => by rw [h]; rfl) fun pvs r ⟨S, hS, h1, h2⟩ f cd A outer s H E hr => ?_
  subst h1 h2
  exact s_cons (s1_if (t := false) (t_not (t_val (e_call D (Nat.le_refl _) (a_cons (e_var 0) a_nil) ⟨S, hS, rfl, rfl⟩))) (fun h => nomatch h) fun _ => s_nil (s_nil fun B => .non))
theorem scNeedC : FnScope ["thing"] ["thing"] (defScope (topS 52)) := ⟨rfl, rfl, rfl, by decide +kernel, rfl, by decide +kernel, by decide +kernel⟩
def RNeedC (G : GC) : Rel G := fun ps r => ∃ cs : List Str, ClaimsOk cs ∧ ps = [dat (strsD cs)] ∧ r = dat .none
theorem fn_need_c (F : FunT G 52 "need_claims" ["thing"]) (D : FnD G 2 "are_claims" ["thing"] (RAreClaims G)) : FnD G 3 "need_claims" ["thing"] (RNeedC G) := by
  refine mk_def (k := 2) F scNeedC (fun pvs r ⟨_, _, h, _⟩ => by rw [h]; rfl) fun pvs r ⟨cs, hc, h1, h2⟩ f cd A outer s H E hr => ?_
  subst h1 h2
  exact s_cons (s1_if (t := false) (t_not (t_val (e_call D (Nat.le_refl _) (a_cons (e_var 0) a_nil) ⟨cs, hc, rfl, rfl⟩))) (fun h => nomatch h) fun _ => s_nil (s_nil fun B => .non))
theorem scNeedCd : FnScope ["standard", "claims"] ["standard", "claims"] (defScope (topS 53)) := ⟨rfl, rfl, rfl, by decide +kernel, rfl, by decide +kernel, by decide +kernel⟩
def RNeedCd (G : GC) : Rel G := fun ps r => ∃ (S : Std) (cs : List Str), S.Ok ∧ ClaimsOk cs ∧ ps = [dat S.enc, dat (strsD cs)] ∧ r = dat .none
theorem s1_drop {Po : Post G} {p : PV G} (he : EvD L ρ e p) (k : Po.nx ρ) (hs : swapsWith e none pos.line L.X.env = pure false := by rfl) : S1D L ρ (.Expr e pos) Po := s1_exprM he (fun p' ρ1 w => by rw [w.2]; exact k) hs
theorem fn_need_cd (F : FunT G 53 "need_claimed" ["standard", "claims"]) (D1 : FnD G 12 "need_standard" ["thing"] (RNeedS G)) (D2 : FnD G 3 "need_claims" ["thing"] (RNeedC G)) : FnD G 13 "need_claimed" ["standard", "claims"] (RNeedCd G) := by
  refine mk_def (k := 12) F scNeedCd (fun pvs r ⟨_, _, _, _, h, _⟩ => by rw [h]; rfl) fun pvs r ⟨S, cs, hS, hc, h1, h2⟩ f cd A outer s H E hr => ?_
  subst h1 h2
  exact s_cons (s1_drop (e_call D1 (Nat.le_refl _) (a_cons (e_var 0) a_nil) ⟨S, hS, rfl, rfl⟩) (s_cons (s1_drop (e_call D2 (show 3 ≤ 12 by decide) (a_cons (e_var 1) a_nil) ⟨cs, hc, rfl, rfl⟩) (s_nil fun B => .non))))
/-! binding_by, sentences_by -/
theorem scBinding : FnScope ["standard", "claims", "number", "option", "sentence"] ["standard", "claims"] (defScope (topS 54)) := ⟨rfl, rfl, rfl, by decide +kernel, rfl, by decide +kernel, by decide +kernel⟩
theorem scSentences : FnScope ["standard", "claims", "number", "option", "sentence"] ["standard", "claims"] (defScope (topS 55)) := ⟨rfl, rfl, rfl, by decide +kernel, rfl, by decide +kernel, by decide +kernel⟩
def RBinding (G : GC) : Rel G := fun ps r => ∃ (l : Lt) (range : List Sen) (cl : List Cla) (cs : List Str), cl.length ≤ 1000 ∧ ps = [dat (stdD l range (.tuple (cl.map Cla.enc))), dat (strsD cs)] ∧ r = dat (intsT (numsOf cl cs))
def RSentences (G : GC) : Rel G := fun ps r => ∃ (l : Lt) (range : List Sen) (cl : List Cla) (cs : List Str), cl.length ≤ 1000 ∧ ps = [dat (stdD l range (.tuple (cl.map Cla.enc))), dat (strsD cs)] ∧ r = dat (.list ((sensOf cl cs).map Sen.enc))
theorem fn_sentences (F : FunT G 55 "sentences_by" ["standard", "claims"]) : FnD G 1 "sentences_by" ["standard", "claims"] (RSentences G) := by
  refine mk_def (k := 0) F scSentences (fun pvs r ⟨_, _, _, _, _, h, _⟩ => by rw [h]; rfl) fun pvs r ⟨l, range, cl, cs, hn, h1, h2⟩ f cd A outer s H E hr => ?_
  subst h1 h2
  refine s_cons (s1_ret (LcR.ev <| LcR.cast (lcTIf (own := [("number", 2), ("option", 3), ("sentence", 4)]) (ts := cl.map Cla.tri) 2 3 4 (cl.map fun c => if c.binds cs then some c.sen.enc else none) ?_ (blk_body (by decide +kernel)) (by simp) (by rw [List.length_map]; omega) (fun s H C' ce fp k q g hq hg => ?_) (fun s H C' ce fp k q g hq hg => ?_)) (by rw [filter_map_if, sensOf, List.map_map]; rfl)) rfl)
  · have e : (cl.map Cla.tri).map triD = cl.map Cla.enc := by rw [List.map_map]; rfl
    rw [e]
    exact i_tup (e_ix (x_tup at2) (e_var 0) e_int)
  · obtain ⟨c, hc, rfl⟩ := map_get hq
    obtain ⟨c2, hc2, rfl⟩ := map_get hg
    rw [hc] at hc2
    cases hc2
    exact EvT.cast (t_w (w_or (t_cmp c_eqS (e_var 3) e_str) fun _ => w_or1 (t_cmp (c_inT rfl (flat_strs cs)) (e_var 3) (e_var 1)))) (by show (decide (c.opt = "") || inD (.str c.opt) (cs.map PyData.str)) = _; rw [inD_str]; show Cla.binds cs c = Option.isSome (if Cla.binds cs c then _ else _); cases Cla.binds cs c <;> rfl)
  · obtain ⟨c, hc, rfl⟩ := map_get hq
    obtain ⟨c2, hc2, h⟩ := map_get hg
    rw [hc] at hc2
    cases hc2
    split at h
    · cases h
      exact e_var 4
    · cases h
theorem fn_binding (B : Bs G) (F : FunT G 54 "binding_by" ["standard", "claims"]) : FnD G 1 "binding_by" ["standard", "claims"] (RBinding G) := by
  refine mk_def (k := 0) F scBinding (fun pvs r ⟨_, _, _, _, _, h, _⟩ => by rw [h]; rfl) fun pvs r ⟨l, range, cl, cs, hn, h1, h2⟩ f cd A outer s H E hr => ?_
  subst h1 h2
  refine s_cons (s1_ret (e_tuple B (LcR.ev <| LcR.cast (lcTIf (own := [("number", 2), ("option", 3), ("sentence", 4)]) (ts := cl.map Cla.tri) 2 3 4 (cl.map fun c => if c.binds cs then some (.int (c.num : Nat)) else none) ?_ (blk_body (by decide +kernel)) (by simp) (by rw [List.length_map]; omega) (fun s H C' ce fp k q g hq hg => ?_) (fun s H C' ce fp k q g hq hg => ?_)) (by rw [filter_map_if, numsOf, List.map_map]; rfl))) rfl)
  · have e : (cl.map Cla.tri).map triD = cl.map Cla.enc := by rw [List.map_map]; rfl
    rw [e]
    exact i_tup (e_ix (x_tup at2) (e_var 0) e_int)
  · obtain ⟨c, hc, rfl⟩ := map_get hq
    obtain ⟨c2, hc2, rfl⟩ := map_get hg
    rw [hc] at hc2
    cases hc2
    exact EvT.cast (t_w (w_or (t_cmp c_eqS (e_var 3) e_str) fun _ => w_or1 (t_cmp (c_inT rfl (flat_strs cs)) (e_var 3) (e_var 1)))) (by show (decide (c.opt = "") || inD (.str c.opt) (cs.map PyData.str)) = _; rw [inD_str]; show Cla.binds cs c = Option.isSome (if Cla.binds cs c then _ else _); cases Cla.binds cs c <;> rfl)
  · obtain ⟨c, hc, rfl⟩ := map_get hq
    obtain ⟨c2, hc2, h⟩ := map_get hg
    rw [hc] at hc2
    cases hc2
    split at h
    · cases h
      exact e_var 2
    · cases h
end
end MR
/-! M3: the searches end. -/
namespace MR
open PySem
section
variable {σ τ : Type} [DecidableEq σ] [DecidableEq τ]
theorem bfs_ex {succ : σ → List (Option σ)} (U : List σ) (cl : ∀ s ∈ U, ∀ x, some x ∈ succ s → x ∈ U) : ∀ (m : Nat) (o : List σ) (n : Nat), U.length - n ≤ m → o.Nodup → (∀ x ∈ o, x ∈ U) → n ≤ o.length → ∃ f, Bfs succ o n f ∧ f.length ≤ U.length := by
  intro m
  induction m with
  | zero =>
    intro o n hm nd hU hn
    have hl := nodup_le U nd hU
    have e : n = o.length := by omega
    subst e
    exact ⟨o, .done, hl⟩
  | succ m ih =>
    intro o n hm nd hU hn
    have hl := nodup_le U nd hU
    by_cases e : n = o.length
    · subst e
      exact ⟨o, .done, hl⟩
    · have hlt : n < o.length := by omega
      obtain ⟨f, hf, hfl⟩ := ih (visit o (succ o[n])) (n + 1) (by omega) (visit_nodup nd) (fun x hx => by
        rcases visit_mem.mp hx with hx | hx
        · exact hU x hx
        · exact cl _ (hU _ (List.getElem_mem hlt)) x hx) (Nat.le_trans hlt (visit_pre _ _).length_le)
      exact ⟨f, .step (List.getElem?_eq_getElem hlt) hf, hfl⟩
/-- a search over a closed stock ends -/
theorem bfs_ends {succ : σ → List (Option σ)} (U : List σ) (cl : ∀ s ∈ U, ∀ x, some x ∈ succ s → x ∈ U) (b : σ) (hb : b ∈ U) : ∃ f, Bfs succ [b] 0 f ∧ f.length ≤ U.length :=
  bfs_ex U cl _ [b] 0 (Nat.le_refl _) (by simp) (fun x hx => by rw [List.mem_singleton.mp hx]; exact hb) (Nat.zero_le _)
/-- it has one end alone -/
theorem Bfs.det {succ : σ → List (Option σ)} {o : List σ} {n : Nat} {f g : List σ} (h : Bfs succ o n f) : Bfs succ o n g → f = g := by
  induction h with
  | done =>
    intro h
    cases h with
    | done => rfl
    | step e _ => exact absurd (List.getElem?_eq_some_iff.mp e).1 (Nat.lt_irrefl _)
  | step e _ ih =>
    intro h
    cases h with
    | done => exact absurd (List.getElem?_eq_some_iff.mp e).1 (Nat.lt_irrefl _)
    | step e2 h2 =>
      rw [e] at e2
      cases e2
      exact ih h2
theorem uniq_map_le (g : σ → τ) (l : List σ) : (uniq (l.map g)).length ≤ (uniq l).length := by
  have h : (uniq (l.map g)).length ≤ ((uniq l).map g).length := nodup_le _ (uniq_nodup _) fun x hx => by
    obtain ⟨y, hy, rfl⟩ := List.mem_map.mp (uniq_mem.mp hx)
    exact List.mem_map.mpr ⟨y, uniq_mem.mpr hy, rfl⟩
  rwa [List.length_map] at h
end
theorem signs_fst {R : Rows} {g : List Nat} (h : g.length = R.length) : (signsOf R g).map (·.1) = g := by
  refine List.ext_getElem (by unfold signsOf; rw [List.length_map, List.length_map, List.length_range, h]) fun i h1 h2 => ?_
  rw [List.getElem_map]
  unfold signsOf
  rw [List.getElem_map, List.getElem_range]
  show g.getD i 0 = _
  rw [List.getD_eq_getElem?_getD, List.getElem?_eq_getElem h2]
  rfl
theorem groups_ge {R : Rows} {g : List Nat} (h : g.length = R.length) : (uniq g).length ≤ groups R g := by
  have := uniq_map_le (fun q : Nat × List (Option Nat) => q.1) (signsOf R g)
  rw [signs_fst h] at this
  exact this
theorem cls_ex (R : Rows) : ∀ (m : Nat) (found : List Nat) (many : Nat), R.length - many ≤ m → found.length = R.length → many ≤ (uniq found).length → ∃ f, Cls R m found many f := by
  intro m
  induction m with
  | zero =>
    intro found many hm hl hu
    have h1 := groups_ge hl
    have h2 := groups_le R found
    exact ⟨_, .done (by omega)⟩
  | succ m ih =>
    intro found many hm hl hu
    have h1 := groups_ge hl
    have h2 := groups_le R found
    by_cases e : groups R found = many
    · exact ⟨_, .done e⟩
    · obtain ⟨f, hf⟩ := ih (regroup R found) (groups R found) (by omega) (regroup_len _ _) (by rw [regroup_uniq, List.length_range]; exact Nat.le_refl _)
      exact ⟨f, .step e hf⟩
theorem Cls.det {R : Rows} {n : Nat} {found : List Nat} {many : Nat} {f : List Nat} (h : Cls R n found many f) : ∀ {m : Nat} {g : List Nat}, Cls R m found many g → f = g := by
  induction h with
  | done e =>
    intro m g h
    cases h with
    | done _ => rfl
    | step e2 _ => exact absurd e e2
  | step e _ ih =>
    intro m g h
    cases h with
    | done e2 => exact absurd e2 e
    | step _ h2 => exact ih h2
/-- every table has a least one -/
theorem least_ex {w : Nat} {R : Rows} (hR : RowsOk w R) : ∃ out, Least R out ∧ out.length ≤ R.length := by
  obtain ⟨f, hf⟩ := cls_ex R R.length (List.replicate R.length 0) 0 (by omega) (by simp) (Nat.zero_le _)
  obtain ⟨g, rfl⟩ := hf.form
  have J := joined_ok hR g
  obtain ⟨o, ho, hol⟩ := bfs_ends (succ := rowAt (joinedOf R (regroup R g))) (List.range (joinedOf R (regroup R g)).length) (fun s hs x hx => List.mem_range.mpr ((J.row (List.mem_range.mp hs)).2.2 x hx)) 0 (List.mem_range.mpr J.pos)
  refine ⟨_, ⟨_, _, hf, o, ho, rfl⟩, ?_⟩
  have h1 := joined_len (R := R) g
  rw [List.length_range] at hol
  unfold tabOf
  rw [List.length_map]
  omega
theorem Least.det {R a b : Rows} (h : Least R a) (h2 : Least R b) : a = b := by
  obtain ⟨n, f, hc, o, hb, rfl⟩ := h
  obtain ⟨m, g, hc2, o2, hb2, rfl⟩ := h2
  have := hc.det hc2
  subst this
  rw [hb.det hb2]
theorem Least.len {w : Nat} {R a : Rows} (hR : RowsOk w R) (h : Least R a) : a.length ≤ R.length := by
  obtain ⟨b, hb, hl⟩ := least_ex hR
  rw [h.det hb]
  exact hl
end MR
/-! M4: the tables of sentences: they exist, one alone, how long. -/
namespace MR
open PySem
theorem beats_pos {l : Lt} (h : l.Ok) : 1 ≤ l.beats.length := by
  rw [beats_len]
  exact Nat.mul_le_mul h.i1 h.o1
theorem Sen.size_pos (s : Sen) : 1 ≤ s.size := by cases s <;> simp [Sen.size]
theorem Sen.size_7 {l : Lt} {s : Sen} (h : s.Ok l) : s.size ≤ 7 := by
  have h1 := h.k1
  have h6 := h.k6
  cases s <;> simp [Sen.size, Sen.num] at * <;> omega
theorem watch_ex {l : Lt} {s : Sen} (h : s.Ok l) : ∃ out, Watch l s out ∧ out.length ≤ s.size := by
  have sp := s.size_pos
  obtain ⟨o, ho, hol⟩ := bfs_ends (succ := succS l s) (List.range s.size) (fun i hi x hx => by
    unfold succS at hx
    obtain ⟨b, _, e⟩ := List.mem_map.mp hx
    exact List.mem_range.mpr (Sen.step_lt h (List.mem_range.mp hi) e)) 0 (List.mem_range.mpr sp)
  rw [List.length_range] at hol
  have h7 := Sen.size_7 h
  have ok : RowsOk l.beats.length (tabOf (succS l s) o) := tab_ok ho fun i _ => by unfold succS; rw [List.length_map]
  obtain ⟨out, hL, hl⟩ := least_ex ok
  have e : (tabOf (succS l s) o).length = o.length := by unfold tabOf; rw [List.length_map]
  exact ⟨out, ⟨o, by omega, ho, ok, hL⟩, by omega⟩
theorem Watch.det {l : Lt} {s : Sen} {a b : Rows} (h : Watch l s a) (h2 : Watch l s b) : a = b := by
  obtain ⟨o, _, hb, _, hL⟩ := h
  obtain ⟨o2, _, hb2, _, hL2⟩ := h2
  have := hb.det hb2
  subst this
  exact hL.det hL2
theorem Watch.len {l : Lt} {s : Sen} {a : Rows} (hs : s.Ok l) (h : Watch l s a) : a.length ≤ s.size := by
  obtain ⟨b, hb, hl⟩ := watch_ex hs
  rw [h.det hb]
  exact hl
theorem watches_ex {l : Lt} : ∀ {ss : List Sen}, (∀ s ∈ ss, s.Ok l) → ∃ W, Watches l ss W
  | [], _ => ⟨[], rfl, fun i s R h => by simp at h⟩
  | s :: ss, h => by
    obtain ⟨R, hR, _⟩ := watch_ex (h s List.mem_cons_self)
    obtain ⟨W, hW1, hW2⟩ := watches_ex (ss := ss) fun s hs => h s (List.mem_cons_of_mem _ hs)
    refine ⟨R :: W, by rw [List.length_cons, List.length_cons, hW1], fun i s' R' h1 h2 => ?_⟩
    cases i with
    | zero =>
      cases h1
      cases h2
      exact hR
    | succ i => exact hW2 i s' R' h1 h2
theorem Watches.det {l : Lt} {ss : List Sen} {V W : List Rows} (h : Watches l ss V) (h2 : Watches l ss W) : V = W := by
  refine List.ext_getElem? fun i => ?_
  by_cases hi : i < ss.length
  · have hv : i < V.length := by rw [h.1]; exact hi
    have hw : i < W.length := by rw [h2.1]; exact hi
    rw [List.getElem?_eq_getElem hv, List.getElem?_eq_getElem hw]
    exact congrArg some ((h.2 i _ _ (List.getElem?_eq_getElem hi) (List.getElem?_eq_getElem hv)).det (h2.2 i _ _ (List.getElem?_eq_getElem hi) (List.getElem?_eq_getElem hw)))
  · have hv : V.length ≤ i := by rw [h.1]; omega
    have hw : W.length ≤ i := by rw [h2.1]; omega
    rw [List.getElem?_eq_none hv, List.getElem?_eq_none hw]
/-- every standing of tables side by side -/
def allT : List Rows → List (List Nat)
  | [] => [[]]
  | R :: W => (List.range R.length).flatMap fun k => (allT W).map (k :: ·)
theorem allT_len : ∀ W : List Rows, (allT W).length = prodLen W
  | [] => rfl
  | R :: W => by
    rw [prodLen_cons, ← allT_len W]
    show ((List.range R.length).flatMap fun k => (allT W).map (k :: ·)).length = _
    generalize allT W = A
    have h : ∀ ks : List Nat, (ks.flatMap fun k => A.map (k :: ·)).length = ks.length * A.length := fun ks => by
      induction ks with
      | nil => simp
      | cons k ks ih => rw [List.flatMap_cons, List.length_append, ih, List.length_map, List.length_cons, Nat.succ_mul, Nat.add_comm]
    rw [h, List.length_range]
theorem allT_mem : ∀ {W : List Rows} {s : List Nat}, s ∈ allT W ↔ StOk W s
  | [], s => by
    constructor
    · intro h
      have : s = [] := by simpa [allT] using h
      subst this
      exact ⟨rfl, fun i R x h => by simp at h⟩
    · rintro ⟨h, _⟩
      have : s = [] := List.length_eq_zero_iff.mp h
      subst this
      simp [allT]
  | R :: W, s => by
    unfold allT
    rw [List.mem_flatMap]
    constructor
    · rintro ⟨k, hk, hs⟩
      obtain ⟨t, ht, rfl⟩ := List.mem_map.mp hs
      have ⟨h1, h2⟩ := allT_mem.mp ht
      refine ⟨by rw [List.length_cons, List.length_cons, h1], fun i R' x hR hx => ?_⟩
      cases i with
      | zero =>
        cases hR
        cases hx
        exact List.mem_range.mp hk
      | succ i => exact h2 i R' x hR hx
    · rintro ⟨h1, h2⟩
      cases s with
      | nil => cases h1
      | cons k t =>
        refine ⟨k, List.mem_range.mpr (h2 0 R k rfl rfl), List.mem_map.mpr ⟨t, allT_mem.mpr ⟨by simpa using h1, fun i R' x hR hx => h2 (i + 1) R' x hR hx⟩, rfl⟩⟩
theorem joined_ex {w : Nat} {W : List Rows} (h : ∀ R ∈ W, RowsOk w R) (hp : prodLen W ≤ 1000) : ∃ out, Joined w W out ∧ out.length ≤ prodLen W := by
  obtain ⟨o, ho, hol⟩ := bfs_ends (succ := succJ W w) (allT W) (fun s hs x hx => allT_mem.mpr (stOk_step h (allT_mem.mp hs) hx)) (zerosOf W) (allT_mem.mpr (stOk_zero h))
  rw [allT_len] at hol
  have ok : RowsOk w (tabOf (succJ W w) o) := tab_ok ho fun i _ => by unfold succJ; rw [List.length_map, List.length_range]
  obtain ⟨out, hL, hl⟩ := least_ex ok
  have e : (tabOf (succJ W w) o).length = o.length := by unfold tabOf; rw [List.length_map]
  exact ⟨out, ⟨o, by omega, ho, ok, hL⟩, by omega⟩
theorem Joined.det {w : Nat} {W : List Rows} {a b : Rows} (h : Joined w W a) (h2 : Joined w W b) : a = b := by
  obtain ⟨o, _, hb, _, hL⟩ := h
  obtain ⟨o2, _, hb2, _, hL2⟩ := h2
  have := hb.det hb2
  subst this
  exact hL.det hL2
theorem Together.det {l : Lt} {ss : List Sen} {a b : Rows} (h : Together l ss a) (h2 : Together l ss b) : a = b := by
  obtain ⟨W, hW, hj⟩ := h
  obtain ⟨V, hV, hj2⟩ := h2
  have := hW.det hV
  subst this
  exact hj.det hj2
theorem together_ex {l : Lt} {ss : List Sen} {W : List Rows} (hW : Watches l ss W) (hp : prodLen W ≤ 1000) : ∃ out, Together l ss out ∧ out.length ≤ prodLen W := by
  obtain ⟨out, hj, hl⟩ := joined_ex hW.ok hp
  exact ⟨out, ⟨W, hW, hj⟩, hl⟩
end MR
/-! T17: a game's methods that read. -/
namespace MR
open PySem PySem.Spec PyProof.Rows L2
/-- where a method of the class stands -/
structure MethT (G : GC) (C : Addr) (j : Nat) (m : Str) (ps : List Str) : Prop where
  ex : ∃ f fd, Meth G.K C m f ∧ Fun G.K m ("Game." ++ m) (methS j) f fd ∧ Binds G.K fd ps []
/-- what the class is -/
structure GameT (G : GC) (C : Addr) : Prop where
  cls : L2.Cls G.K C
  letters : NoAttr G.K C "letters"
  limits : NoAttr G.K C "limits"
  rows : NoAttr G.K C "rows"
  lost : NoAttr G.K C "lost"
section
variable {G : GC} {C : Addr}
theorem mk_meth {k j : Nat} {m : Str} {N ps : List Str} {R : Rel G} (F : MethT G C j m ps) (S : FnScope N ps (defScope (methS j))) (hR : ∀ pvs r, R pvs r → pvs.length = ps.length)
    (body : ∀ (pvs : List (PV G)) (r : PV G), R pvs r → ∀ (f : Addr) (cd : Value) (A : Around) (outer : List Env) (s : Shared) (H : Hp) (E : XK) (hr : Room k (A.deeper (envOfC ("Game." ++ m) (defScope (methS j)) s.heap.objs.size f cd))),
      StD (bodyL G k N ("Game." ++ m) (methS j) f cd A outer s H E S.nd hr) ⟨startS N pvs, []⟩ (defBody (methS j)) { nx := fun _ => ∀ B, r.p B .non, rt := fun p _ => p = r }) : MtD G (k + 1) C m ps R := by
  obtain ⟨f, fd, h1, h2, h3⟩ := F.ex
  exact ⟨f, fd, h1, h3, fnOk_mk h2 S hR body⟩
end
/-- a game: letters, limits, rows -/
structure Gm where
  l : Lt
  lim : Rows
  rows : Rows
structure Gm.Ok (g : Gm) : Prop where
  l : g.l.Ok
  lim : RowsOk g.l.beats.length g.lim
  rows : RowsOk g.l.beats.length g.rows
  n1 : g.lim.length ≤ 1000
  n2 : g.rows.length ≤ 1000
abbrev Pair := Nat × Nat
def pairD (p : Pair) : PyData := .tuple [.int (p.1 : Nat), .int (p.2 : Nat)]
def optP : Option Pair → PyData
  | none => .none
  | some p => pairD p
def Gm.outs (g : Gm) : Nat := g.l.outs.length
def Gm.ins (g : Gm) : Nat := g.l.ins.length
/-- the pair stands in the tables -/
def Gm.In (g : Gm) (p : Pair) : Prop := p.1 < g.lim.length ∧ p.2 < g.rows.length
def Gm.at_ (g : Gm) (given told : Nat) : Nat := given * g.outs + told
def Gm.asked (g : Gm) (p : Pair) (given : Nat) : Option Nat := (rowAt g.lim p.1).getD (g.at_ given 0) none
def Gm.state (g : Gm) (p : Pair) (given told : Nat) : Option Nat := (rowAt g.rows p.2).getD (g.at_ given told) none
section
variable {G : GC} {L : LC G} {ρ : Rho G} {pos : Pos} {e : Expr} {C : Addr}
abbrev gmF (g : Gm) (q : PV G) : List (Str × PV G) := [("letters", dat g.l.enc), ("limits", dat (rowsT g.lim)), ("rows", dat (rowsT g.rows)), ("lost", q)]
abbrev gmP (C : Addr) (g : Gm) (q : PV G) : PV G := insP C (gmF g q)
theorem e_outs (B : Bs G) (K : GameT G C) {g : Gm} {q : PV G} {p1 p2 p3 p4 : Pos} {v : Nat} (ho : EvD L ρ e (gmP C g q)) (hb : attributeBase e "letters" L.X.env (eval e L.X.env) = eval e L.X.env := by rfl) : EvD L ρ (.Attribute e "letters" p1) (dat g.l.enc) := e_fld K.cls K.letters ho rfl hb
theorem Gm.w {g : Gm} : g.l.beats.length = g.ins * g.outs := beats_len g.l
theorem Gm.at_lt {g : Gm} {given told : Nat} (h1 : given < g.ins) (h2 : told < g.outs) : g.at_ given told < g.l.beats.length := by
  rw [Gm.w]
  unfold Gm.at_
  have : (given + 1) * g.outs ≤ g.ins * g.outs := Nat.mul_le_mul_right _ h1
  rw [Nat.succ_mul] at this
  omega
/-! at -/
theorem scAt : FnScope ["self", "given", "told"] ["self", "given", "told"] (defScope (methS 1)) := ⟨rfl, rfl, rfl, by decide +kernel, rfl, by decide +kernel, by decide +kernel⟩
def RAt (G : GC) (C : Addr) : Rel G := fun ps r => ∃ (g : Gm) (q : PV G) (given told : Nat), g.Ok ∧ given ≤ 100 ∧ told ≤ 100 ∧ ps = [gmP C g q, dat (natD given), dat (natD told)] ∧ r = dat (natD (g.at_ given told))
theorem fn_at (B : Bs G) (K : GameT G C) (F : MethT G C 1 "at" ["self", "given", "told"]) : MtD G 1 C "at" ["self", "given", "told"] (RAt G C) := by
  refine mk_meth (k := 0) F scAt (fun pvs r ⟨_, _, _, _, _, _, _, h, _⟩ => by rw [h]; rfl) fun pvs r ⟨g, q, given, told, hg, b1, b2, h1, h2⟩ f cd A outer s H E hr => ?_
  subst h1 h2
  have o3 := hg.l.o3
  exact s_cons (s1_ret (EvD.cI (e_bin b_add (e_bin (b_mul (i := ((given : Nat) : Int)) (.inl ⟨by omega, by omega⟩)) (e_var 1) (e_lenT B (e_ix (x_tup at1) (e_fld K.cls K.letters (e_var 0) rfl) e_int))) (e_var 2)) (show _ = ((g.at_ given told : Nat) : Int) by unfold Gm.at_ Gm.outs; rw [List.length_map]; simp)) rfl)
/-! asked -/
theorem scAsked : FnScope ["self", "pair", "given"] ["self", "pair", "given"] (defScope (methS 2)) := ⟨rfl, rfl, rfl, by decide +kernel, rfl, by decide +kernel, by decide +kernel⟩
def RAsked (G : GC) (C : Addr) : Rel G := fun ps r => ∃ (g : Gm) (q : PV G) (p : Pair) (given : Nat), g.Ok ∧ g.In p ∧ given < g.ins ∧ ps = [gmP C g q, dat (pairD p), dat (natD given)] ∧ r = dat (optD (g.asked p given))
theorem fn_asked (B : Bs G) (K : GameT G C) (F : MethT G C 2 "asked" ["self", "pair", "given"]) (D : MtD G 1 C "at" ["self", "given", "told"] (RAt G C)) : MtD G 2 C "asked" ["self", "pair", "given"] (RAsked G C) := by
  refine mk_meth (k := 1) F scAsked (fun pvs r ⟨_, _, _, _, _, _, _, h, _⟩ => by rw [h]; rfl) fun pvs r ⟨g, q, p, given, hg, hp, hgi, h1, h2⟩ f cd A outer s H E hr => ?_
  subst h1 h2
  have i3 : g.ins ≤ 3 := hg.l.i3
  have op : 0 < g.outs := hg.l.o1
  obtain ⟨e1, e2, _⟩ := hg.lim.row hp.1
  have hlt := Gm.at_lt hgi op
  have e3 : (rowAt g.lim p.1)[g.at_ given 0]? = some (g.asked p given) := by
    unfold Gm.asked
    rw [List.getD_eq_getElem?_getD, List.getElem?_eq_getElem (by omega)]
    rfl
  exact s_cons (s1_ret (e_ix (x_tup (at_map (f := optD) e3)) (e_ix (x_tup (at_map (f := rowT) e1)) (e_fld K.cls K.limits (e_var 0) rfl) (e_ix (x_tup at0) (e_var 1) e_int)) (e_meth K.cls D (Nat.le_refl _) (e_var 0) rfl (a_cons (e_var 2) (a_cons e_int a_nil)) ⟨g, q, given, 0, hg, by omega, by omega, rfl, rfl⟩)) rfl)
/-! behind -/
def Gm.behind (g : Gm) (p : Pair) (given : Nat) : List (Option Pair) := (List.range g.outs).map fun told => (g.state p given told).map fun s => ((g.asked p given).getD 0, s)
theorem scBehind : FnScope ["self", "pair", "given", "found", "told", "state"] ["self", "pair", "given"] (defScope (methS 3)) := ⟨rfl, rfl, rfl, by decide +kernel, rfl, by decide +kernel, by decide +kernel⟩
def RBehind (G : GC) (C : Addr) : Rel G := fun ps r => ∃ (g : Gm) (q : PV G) (p : Pair) (given a : Nat), g.Ok ∧ g.In p ∧ given < g.ins ∧ g.asked p given = some a ∧ ps = [gmP C g q, dat (pairD p), dat (natD given)] ∧ r = dat (.list ((g.behind p given).map optP))
theorem fn_behind (B : Bs G) (K : GameT G C) (F : MethT G C 3 "behind" ["self", "pair", "given"]) (D1 : MtD G 1 C "at" ["self", "given", "told"] (RAt G C)) (D2 : MtD G 2 C "asked" ["self", "pair", "given"] (RAsked G C)) : MtD G 3 C "behind" ["self", "pair", "given"] (RBehind G C) := by
  refine mk_meth (k := 2) F scBehind (fun pvs r ⟨_, _, _, _, _, _, _, _, _, h, _⟩ => by rw [h]; rfl) fun pvs r ⟨g, q, p, given, a, hg, hp, hgi, ha, h1, h2⟩ f cd A outer s H E hr => ?_
  subst h1 h2
  have i3 : g.ins ≤ 3 := hg.l.i3
  have o3 : g.outs ≤ 3 := hg.l.o3
  obtain ⟨e1, e2, _⟩ := hg.rows.row hp.2
  refine s_cons (s1_setM 3 (em_ownL (ds := []) a_nil) ?_)
  rintro p0 ρ1 ⟨c, rfl, rfl⟩
  refine s_cons (s1_forN (ds := rngD g.outs) 4 (i_rngM B.range (by omega) (EvD.cI (e_lenT B (e_ix (x_tup at1) (e_fld K.cls K.letters (e_var 0) rfl) e_int)) (show _ = ((g.outs : Nat) : Int) by unfold Gm.outs; rw [List.length_map])))
    (fun k ρ => ∃ s4 s5, ρ = ⟨[some (gmP C g q), some (dat (pairD p)), some (dat (natD given)), some (refP c), s4, s5], [(c, .lst (((g.behind p given).take k).map optP))]⟩) ⟨none, none, rfl⟩ ?_ ?_)
  · rintro k d ρ1 hd ⟨s4, s5, rfl⟩
    obtain ⟨hk, rfl⟩ := rngD_get hd
    have hlt := Gm.at_lt hgi hk
    have e3 : (rowAt g.rows p.2)[g.at_ given k]? = some (g.state p given k) := by
      unfold Gm.state
      rw [List.getD_eq_getElem?_getD, List.getElem?_eq_getElem (by omega)]
      rfl
    have eb : (g.behind p given)[k]? = some ((g.state p given k).map fun s => (a, s)) := by
      unfold Gm.behind
      rw [List.getElem?_map, List.getElem?_range hk, ha]
      rfl
    have bl : (g.behind p given).length = g.outs := by unfold Gm.behind; rw [List.length_map, List.length_range]
    have et : ((g.behind p given).take (k + 1)).map optP = ((g.behind p given).take k).map optP ++ [optP ((g.state p given k).map fun s => (a, s))] := by
      rw [List.take_add_one, eb, List.map_append]
      rfl
    refine s_cons (s1_set 5 (e_ix (x_tup (at_map (f := optD) e3)) (e_ix (x_tup (at_map (f := rowT) e1)) (e_fld K.cls K.rows (e_var 0) rfl) (e_ix (x_tup at1) (e_var 1) e_int)) (e_meth K.cls D1 (show 1 ≤ 2 by decide) (e_var 0) rfl (a_cons (e_var 2) (a_cons (e_var 4) a_nil)) ⟨g, q, given, k, hg, by omega, by omega, rfl, rfl⟩)) ?_)
    rw [et]
    generalize g.state p given k = st at *
    cases st with
    | none => exact s_cons (s1_append 0 (d := optP none) (e_var 3) rfl (e_if (t := true) (t_cmp c_isN (e_var 5) e_non) (fun _ => e_non) (fun h => nomatch h)) (by rw [List.length_map, List.length_take]; omega) (s_nil ⟨some (dat (natD k)), some (dat (optD none)), rfl⟩))
    | some st => exact s_cons (s1_append 0 (d := pairD (a, st)) (e_var 3) rfl (e_if (t := false) (t_cmp c_isN (e_var 5) e_non) (fun h => nomatch h) (fun _ => e_tup (ds := [.int (a : Nat), .int (st : Nat)]) (a_cons (EvD.cast (e_meth K.cls D2 (Nat.le_refl _) (e_var 0) rfl (a_cons (e_var 1) (a_cons (e_var 2) a_nil)) ⟨g, q, p, given, hg, hp, hgi, rfl, rfl⟩) (by rw [ha]; rfl)) (a_cons (e_var 5) a_nil)))) (by rw [List.length_map, List.length_take]; omega) (s_nil ⟨some (dat (natD k)), some (dat (optD (some st))), rfl⟩))
  · rintro ρ1 ⟨s4, s5, rfl⟩
    have bl : (g.behind p given).length = g.outs := by unfold Gm.behind; rw [List.length_map, List.length_range]
    rw [rngD_len, ← bl, List.take_length]
    refine st_frz Part.all (View.refl.set 3 rfl (imp_lst (ds := (g.behind p given).map optP) (by simp))) ?_
    exact s_cons (s1_ret (e_var 3) rfl)
/-! ins_at -/
def Gm.insAt (g : Gm) (p : Pair) : List Nat := (List.range g.ins).filter fun given => (g.asked p given).isSome
theorem scInsAt : FnScope ["self", "pair", "given"] ["self", "pair"] (defScope (methS 4)) := ⟨rfl, rfl, rfl, by decide +kernel, rfl, by decide +kernel, by decide +kernel⟩
def RInsAt (G : GC) (C : Addr) : Rel G := fun ps r => ∃ (g : Gm) (q : PV G) (p : Pair), g.Ok ∧ g.In p ∧ ps = [gmP C g q, dat (pairD p)] ∧ r = dat (.list ((g.insAt p).map natD))
theorem fn_ins_at (B : Bs G) (K : GameT G C) (F : MethT G C 4 "ins_at" ["self", "pair"]) (D2 : MtD G 2 C "asked" ["self", "pair", "given"] (RAsked G C)) : MtD G 3 C "ins_at" ["self", "pair"] (RInsAt G C) := by
  refine mk_meth (k := 2) F scInsAt (fun pvs r ⟨_, _, _, _, _, h, _⟩ => by rw [h]; rfl) fun pvs r ⟨g, q, p, hg, hp, h1, h2⟩ f cd A outer s H E hr => ?_
  subst h1 h2
  have i3 : g.ins ≤ 3 := hg.l.i3
  refine s_cons (s1_ret (LcR.ev <| LcR.cast (lcNIf (own := [("given", 2)]) (ds := rngD g.ins) 2 ((List.range g.ins).map fun k => if (g.asked p k).isSome then some (natD k) else none) (i_rngM B.range (by omega) (EvD.cI (e_lenT B (e_ix (x_tup at0) (e_fld K.cls K.letters (e_var 0) rfl) e_int)) (show _ = ((g.ins : Nat) : Int) by unfold Gm.ins; rw [List.length_map]))) (blk_body (by decide +kernel)) (by rw [List.length_map, List.length_range, rngD_len]) (by rw [rngD_len]; omega)
    (fun s H C' ce fp k d x hd hx => ?_) (fun s H C' ce fp k d x hd hx => ?_)) (by rw [filter_map_if]; rfl)) rfl)
  · obtain ⟨hk, rfl⟩ := rngD_get hd
    obtain ⟨k2, hk2, rfl⟩ := map_get hx
    rw [List.getElem?_range hk] at hk2
    cases hk2
    exact EvT.cast (t_cmp c_notN (e_meth K.cls D2 (Nat.le_refl _) (e_var 0) rfl (a_cons (e_var 1) (a_cons (e_var 2) a_nil)) ⟨g, q, p, k, hg, hp, hk, rfl, rfl⟩) e_non) (by cases g.asked p k <;> rfl)
  · obtain ⟨hk, rfl⟩ := rngD_get hd
    obtain ⟨k2, hk2, h⟩ := map_get hx
    rw [List.getElem?_range hk] at hk2
    cases hk2
    split at h
    · cases h
      exact e_var 2
    · cases h
end
end MR
/-! T18: met. -/
namespace MR
open PySem PySem.Spec PyProof.Rows L2
theorem pairD_inj (x y : Pair) (h : nk (pairD x) = nk (pairD y)) : x = y := by
  have h : NestedKey.tup [NestedKey.num (x.1 : Int), NestedKey.num (x.2 : Int)] = NestedKey.tup [NestedKey.num (y.1 : Int), NestedKey.num (y.2 : Int)] := h
  injection h with h
  injection h with h1 h2
  injection h2 with h2 _
  exact Prod.ext (Int.ofNat.inj (NestedKey.num.inj h1)) (Int.ofNat.inj (NestedKey.num.inj h2))
theorem pairD_key (p : Pair) : KeyOk true (pairD p) := ⟨rfl, fun (h : true = false) => Bool.noConfusion h, fun _ => ⟨⟨_, rfl⟩, by show max 0 (max 0 0) + 1 ≤ 8; decide⟩⟩
theorem Gm.In.step {g : Gm} (hg : g.Ok) {p : Pair} (hp : g.In p) {given a : Nat} (hi : given < g.ins) (ha : g.asked p given = some a) {x : Pair} (hx : some x ∈ g.behind p given) : g.In x := by
  have op : 0 < g.outs := hg.l.o1
  unfold Gm.behind at hx
  obtain ⟨told, ht, e⟩ := List.mem_map.mp hx
  have ht := List.mem_range.mp ht
  obtain ⟨_, l2, l3⟩ := hg.lim.row hp.1
  obtain ⟨_, r2, r3⟩ := hg.rows.row hp.2
  cases hs : g.state p given told with
  | none => rw [hs] at e; cases e
  | some s =>
    rw [hs, ha] at e
    cases e
    refine ⟨l3 a ?_, r3 s ?_⟩
    · have hlt := Gm.at_lt hi op
      unfold Gm.asked at ha
      rw [List.getD_eq_getElem?_getD, List.getElem?_eq_getElem (by omega)] at ha
      have ha : (rowAt g.lim p.1)[g.at_ given 0]'(by omega) = some a := ha
      rw [← ha]
      exact List.getElem_mem _
    · have hlt := Gm.at_lt hi ht
      unfold Gm.state at hs
      rw [List.getD_eq_getElem?_getD, List.getElem?_eq_getElem (by omega)] at hs
      have hs : (rowAt g.rows p.2)[g.at_ given told]'(by omega) = some s := hs
      rw [← hs]
      exact List.getElem_mem _
theorem insAt_mem {g : Gm} {p : Pair} {k : Nat} (h : k ∈ g.insAt p) : k < g.ins ∧ ∃ a, g.asked p k = some a := by
  unfold Gm.insAt at h
  obtain ⟨h1, h2⟩ := List.mem_filter.mp h
  exact ⟨List.mem_range.mp h1, Option.isSome_iff_exists.mp h2⟩
/-- everything behind a pair -/
def Gm.succ (g : Gm) (p : Pair) : List (Option Pair) := (g.insAt p).flatMap (g.behind p)
theorem Gm.In.succ {g : Gm} (hg : g.Ok) {p : Pair} (hp : g.In p) {x : Pair} (hx : some x ∈ g.succ p) : g.In x := by
  obtain ⟨k, hk, h⟩ := List.mem_flatMap.mp hx
  obtain ⟨h1, a, ha⟩ := insAt_mem hk
  exact hp.step hg h1 ha h
section
variable {G : GC} {L : LC G} {ρ : Rho G} {pos : Pos} {e : Expr} {C : Addr}
theorem e_tru {j : Nat} : EvD L ρ (.Constant (.bool true) j pos) (dat (.bool true)) := EvD.of fun A B0 B σ H Q E k => WE.of pe_bl (here (v := .bl true) E k (.bl true))
theorem e_begin (Q : Cs G) (hg : Gl L.X "BEGIN" := by rfl) : EvD L ρ (.Name "BEGIN" pos) (dat (pairD (0, 0))) := by
  obtain ⟨v, u, h1, h2, h3⟩ := Q.begin_
  exact e_glob h1 h2 h3 hg
theorem scMet : FnScope ["self", "order", "known", "at", "given", "after"] ["self"] (defScope (methS 5)) := ⟨rfl, rfl, rfl, by decide +kernel, rfl, by decide +kernel, by decide +kernel⟩
def knownD (o : List Pair) : List (PyData × PyData) := mapKV pairD (fun _ => PyData.bool true) o
theorem knownD_snoc (o : List Pair) (x : Pair) : knownD (o ++ [x]) = knownD o ++ [(pairD x, .bool true)] := by unfold knownD mapKV; rw [List.map_append]; rfl
def RMet (G : GC) (C : Addr) : Rel G := fun ps r => ∃ (g : Gm) (q : PV G) (o : List Pair), g.Ok ∧ g.In (0, 0) ∧ Bfs g.succ [(0, 0)] 0 o ∧ o.length ≤ 1000 ∧ ps = [gmP C g q] ∧ r = dat (.list (o.map pairD))
theorem fn_met (B : Bs G) (Q : Cs G) (K : GameT G C) (F : MethT G C 5 "met" ["self"]) (D1 : MtD G 3 C "behind" ["self", "pair", "given"] (RBehind G C)) (D2 : MtD G 3 C "ins_at" ["self", "pair"] (RInsAt G C)) : MtD G 4 C "met" ["self"] (RMet G C) := by
  refine mk_meth (k := 3) F scMet (fun pvs r ⟨_, _, _, _, _, _, _, h, _⟩ => by rw [h]; rfl) fun pvs r ⟨g, q, o, hg, h00, hb, ol, h1, h2⟩ f cd A outer s H E hr => ?_
  subst h1 h2
  have oIn : ∀ x ∈ o, g.In x := hb.all g.In (fun s hs x hx => hs.succ hg hx) fun x hx => by rw [List.mem_singleton.mp hx]; exact h00
  refine s_cons (s1_par3M 1 2 3 (am3 (em_ownL (ds := [pairD (0, 0)]) (a_cons (e_begin Q) a_nil)) (fun p ρ1 h => em_ownD1 (dk := pairD (0, 0)) (dv := .bool true) true (pairD_key _) (fun _ => e_begin Q) (fun _ => e_tru)) (fun p ρ1 q ρ2 _ _ => e_int (i := 0))) ?_)
  rintro ps ρ1 ⟨p, ρ2, q', ρ3, r, ⟨a, rfl, rfl⟩, ⟨b, rfl, rfl⟩, ⟨rfl, rfl⟩, rfl⟩
  refine ⟨_, _, _, rfl, ?_⟩
  have view : ∀ (cur : List Pair) (s3 s4 s5 : Option (PV G)), View [some (gmP C g q), some (refP a), some (refP b), s3, s4, s5] [(b, .dct true (knownD cur)), (a, .lst (cur.map pairD))]
      (([some (gmP C g q), some (dat (.list (cur.map pairD))), some (dctP true (knownD cur)), s3, s4, s5] : List (Option (PV G)))) := fun cur s3 s4 s5 => (View.refl.set 1 rfl (imp_lst (by simp))).set 2 rfl (imp_dct (by simp))
  refine s_cons (s1_while (fun m ρ => ∃ (cur : List Pair) (n : Nat) (s4 s5 : Option (PV G)), Bfs g.succ cur n o ∧ m = o.length + 1 - n ∧ ρ = ⟨[some (gmP C g q), some (refP a), some (refP b), some (dat (natD n)), s4, s5],
    [(b, .dct true (knownD cur)), (a, .lst (cur.map pairD))]⟩) ⟨_, [(0, 0)], 0, none, none, hb, rfl, rfl⟩ ?_)
  rintro m ρ1 ⟨cur, n, s4, s5, hc, rfl, rfl⟩
  have cl : cur.length ≤ 1000 := Nat.le_trans hc.pre.1.length_le ol
  refine ⟨decide (n < cur.length), t_own (view cur _ _ _) (EvT.cast (t_cmp c_lt (e_var 3) (e_lenL B (e_var 1))) (by rw [List.length_map]; exact decide_eq_decide.mpr (by omega))), fun ht => ?_, fun hf => ?_⟩
  · have hn : n < cur.length := of_decide_eq_true ht
    rcases hc.inv with ⟨h1, _⟩ | ⟨p, hp, hc2⟩
    · omega
    have pIn : g.In p := oIn p (hc.pre.1.subset (List.mem_of_getElem? hp))
    have pre1 : ∀ j, visit cur (((g.insAt p).take j).flatMap (g.behind p)) <+: o := fun j => by
      have h1 : visit cur (((g.insAt p).take j).flatMap (g.behind p)) <+: visit cur (g.succ p) := by
        unfold Gm.succ
        conv => rhs; rw [← List.take_append_drop j (g.insAt p), List.flatMap_append, visit_app]
        exact visit_pre _ _
      exact h1.trans hc2.pre.1
    refine s_cons (s1_forN (ds := (g.insAt p).map natD) 4 (i_lst (e_meth K.cls D2 (Nat.le_refl _) (e_var 0) rfl (a_cons (e_own (view cur _ _ _) (e_ix (x_lst (at_map (f := pairD) hp)) (e_var 1) (e_var 3)) rfl) a_nil) ⟨g, q, p, hg, pIn, rfl, rfl⟩))
      (fun j ρ => ∃ s4 s5, ρ = ⟨[some (gmP C g q), some (refP a), some (refP b), some (dat (natD n)), s4, s5], [(b, .dct true (knownD (visit cur (((g.insAt p).take j).flatMap (g.behind p))))), (a, .lst ((visit cur (((g.insAt p).take j).flatMap (g.behind p))).map pairD))]⟩) ⟨s4, s5, rfl⟩ ?_ ?_)
    · rintro j d ρ1 hd ⟨s4, s5, rfl⟩
      obtain ⟨given, hgv, rfl⟩ := map_get hd
      obtain ⟨hgi, av, hav⟩ := insAt_mem (List.mem_of_getElem? hgv)
      have pj := pre1 j
      have pj1 := pre1 (j + 1)
      have ej : ((g.insAt p).take (j + 1)).flatMap (g.behind p) = ((g.insAt p).take j).flatMap (g.behind p) ++ g.behind p given := by
        rw [List.take_add_one, hgv, List.flatMap_append]
        simp
      have c0 : (visit cur (((g.insAt p).take j).flatMap (g.behind p)))[n]? = some p := pre_get (visit_pre _ _) hp
      rw [ej, visit_app] at pj1 ⊢
      generalize visit cur (((g.insAt p).take j).flatMap (g.behind p)) = cu at *
      refine s_cons (s1_forN (ds := (g.behind p given).map optP) 5 (i_lst (e_meth K.cls D1 (Nat.le_refl _) (e_var 0) rfl (a_cons (e_own (view cu _ _ _) (e_ix (x_lst (at_map (f := pairD) c0)) (e_var 1) (e_var 3)) rfl) (a_cons (e_var 4) a_nil)) ⟨g, q, p, given, av, hg, pIn, hgi, hav, rfl, rfl⟩))
        (fun i ρ => ∃ s5, ρ = ⟨[some (gmP C g q), some (refP a), some (refP b), some (dat (natD n)), some (dat (natD given)), s5], [(b, .dct true (knownD (visit cu ((g.behind p given).take i)))), (a, .lst ((visit cu ((g.behind p given).take i)).map pairD))]⟩) ⟨s5, rfl⟩ ?_ ?_)
      · rintro i d ρ1 hd ⟨s5, rfl⟩
        obtain ⟨x, hx, rfl⟩ := map_get hd
        have hv := visit_snoc cu (g.behind p given) i x hx
        have pf : visit cu ((g.behind p given).take i) <+: o := by
          have h1 : visit cu ((g.behind p given).take i) <+: visit cu (g.behind p given) := by
            conv => rhs; rw [← List.take_append_drop i (g.behind p given), visit_app]
            exact visit_pre _ _
          exact h1.trans pj1
        rw [hv]
        have vl : (visit cu ((g.behind p given).take i)).length ≤ 1000 := Nat.le_trans pf.length_le ol
        generalize visit cu ((g.behind p given).take i) = cv at *
        cases x with
        | none =>
          refine s_cons (s1_if (t := false) (t_w (w_and (t := false) (u := false) (t_cmp c_notN (e_var 5) e_non) fun h => nomatch h)) (fun h => nomatch h) fun _ => s_nil (s_nil ⟨some (dat (optP none)), rfl⟩))
        | some x =>
          have dg : dget (knownD cv) (pairD x) = _ := dget_map pairD_inj (fun _ => PyData.bool true) cv x
          by_cases hx : x ∈ cv
          · rw [if_pos hx] at dg
            refine s_cons (s1_if (t := false) (t_own (view cv _ _ _) (EvT.cast (t_w (w_and (t_cmp c_notN (e_var 5) e_non) fun _ => w_and1 (t_cmp (c_ninD (pairD_key x)) (e_var 5) (e_var 2)))) (by rw [dg]; rfl))) (fun h => nomatch h) fun _ => s_nil (s_nil ⟨some (dat (optP (some x))), ?_⟩))
            have e : visit cv [some x] = cv := if_pos hx
            rw [e]
            rfl
          · rw [if_neg hx] at dg
            refine s_cons (s1_if (t := true) (t_own (view cv _ _ _) (EvT.cast (t_w (w_and (t_cmp c_notN (e_var 5) e_non) fun _ => w_and1 (t_cmp (c_ninD (pairD_key x)) (e_var 5) (e_var 2)))) (by rw [dg]; rfl))) (fun _ => ?_) (fun h => nomatch h))
            refine s_cons (s1_dput 0 (pairD_key x) e_tru (e_var 2) (e_var 5) rfl (by unfold knownD; rw [mapKV_len]; omega) ?_)
            refine s_cons (s1_append 1 (e_var 1) rfl (e_var 5) (by rw [List.length_map]; omega) (s_nil (s_nil ⟨some (dat (optP (some x))), ?_⟩)))
            have e : visit cv [some x] = cv ++ [x] := if_neg hx
            rw [e, knownD_snoc, List.map_append, dput_new dg]
            rfl
      · rintro ρ1 ⟨s5, rfl⟩
        rw [List.length_map, List.take_length]
        exact s_nil ⟨_, _, rfl⟩
    · rintro ρ1 ⟨s4, s5, rfl⟩
      rw [List.length_map, List.take_length]
      exact s_cons (s1_set 3 (EvD.cI (e_bin b_add (e_var 3) e_int) (show _ = ((n + 1 : Nat) : Int) by omega)) (s_nil ⟨o.length + 1 - (n + 1), by have := hc2.pre.2; omega, _, n + 1, s4, s5, hc2, rfl, rfl⟩))
  · have hn : ¬ n < cur.length := of_decide_eq_false hf
    rcases hc.inv with ⟨_, e⟩ | ⟨p, hp, _⟩
    · subst e
      refine st_frz Part.all (view _ _ _ _) ?_
      exact s_cons (s1_ret (e_var 1) rfl)
    · have := (List.getElem?_eq_some_iff.mp hp).1
      omega
end
end MR
/-! T19: is_kept, losing_in, kept_beats. -/
namespace MR
open PySem PySem.Spec PyProof.Rows L2
/-- what is lost: pair, (depth, given) -/
abbrev Lost := List (Pair × Pair)
def lostD (ls : Lost) : List (PyData × PyData) := ls.map fun q => (pairD q.1, pairD q.2)
def isLost (ls : Lost) (x : Pair) : Bool := (ls.lookup x).isSome
theorem lost_get (x : Pair) : ∀ ls : Lost, dget (lostD ls) (pairD x) = (ls.lookup x).map pairD
  | [] => rfl
  | (y, v) :: ls => by
    show dget ((pairD y, pairD v) :: lostD ls) (pairD x) = _
    rw [List.lookup_cons]
    by_cases e : y = x
    · subst e
      rw [dget_pos rfl]
      simp
    · rw [dget_neg (fun z => e (pairD_inj _ _ z)), lost_get x ls]
      have : (x == y) = false := by simpa using fun z => e z.symm
      rw [this]
theorem lost_some (x : Pair) (ls : Lost) : (dget (lostD ls) (pairD x)).isSome = isLost ls x := by
  rw [lost_get]
  unfold isLost
  cases ls.lookup x <;> rfl
def keptB (ls : Lost) : Option Pair → Bool
  | none => false
  | some x => !isLost ls x
def lostB (ls : Lost) : Option Pair → Bool
  | none => true
  | some x => isLost ls x
def Gm.losingIn (g : Gm) (ls : Lost) (p : Pair) : Option Nat := (g.insAt p).find? fun given => (g.behind p given).all (lostB ls)
section
variable {G : GC} {L : LC G} {ρ : Rho G} {pos : Pos} {e : Expr} {C : Addr}
theorem scIsKept : FnScope ["self", "pair"] ["self", "pair"] (defScope (methS 9)) := ⟨rfl, rfl, rfl, by decide +kernel, rfl, by decide +kernel, by decide +kernel⟩
def RIsKept (G : GC) (C : Addr) : Rel G := fun ps r => ∃ (g : Gm) (ls : Lost) (x : Option Pair), g.Ok ∧ ps = [gmP C g (dctP true (lostD ls)), dat (optP x)] ∧ r = dat (.bool (keptB ls x))
theorem fn_is_kept (K : GameT G C) (F : MethT G C 9 "is_kept" ["self", "pair"]) : MtD G 1 C "is_kept" ["self", "pair"] (RIsKept G C) := by
  refine mk_meth (k := 0) F scIsKept (fun pvs r ⟨_, _, _, _, h, _⟩ => by rw [h]; rfl) fun pvs r ⟨g, ls, x, hg, h1, h2⟩ f cd A outer s H E hr => ?_
  subst h1 h2
  cases x with
  | none => exact s_cons (s1_ret (EvD.cB (e_and (t := false) (u := true) (e_cmp c_notN (e_var 1) e_non) fun h => nomatch h) rfl) rfl)
  | some x => exact s_cons (s1_ret (EvD.cB (e_and (e_cmp c_notN (e_var 1) e_non) fun _ => e_one (e_cmp (c_ninD (pairD_key x)) (e_var 1) (e_fld K.cls K.lost (e_var 0) rfl))) (by rw [lost_some]; rfl)) rfl)
theorem scLosing : FnScope ["self", "pair", "given", "after"] ["self", "pair"] (defScope (methS 7)) := ⟨rfl, rfl, rfl, by decide +kernel, rfl, by decide +kernel, by decide +kernel⟩
def RLosing (G : GC) (C : Addr) : Rel G := fun ps r => ∃ (g : Gm) (ls : Lost) (p : Pair), g.Ok ∧ g.In p ∧ ps = [gmP C g (dctP true (lostD ls)), dat (pairD p)] ∧ r = dat (optD (g.losingIn ls p))
theorem fn_losing (B : Bs G) (K : GameT G C) (F : MethT G C 7 "losing_in" ["self", "pair"]) (D1 : MtD G 3 C "behind" ["self", "pair", "given"] (RBehind G C)) (D2 : MtD G 3 C "ins_at" ["self", "pair"] (RInsAt G C)) : MtD G 4 C "losing_in" ["self", "pair"] (RLosing G C) := by
  refine mk_meth (k := 3) F scLosing (fun pvs r ⟨_, _, _, _, _, h, _⟩ => by rw [h]; rfl) fun pvs r ⟨g, ls, p, hg, hp, h1, h2⟩ f cd A outer s H E hr => ?_
  subst h1 h2
  have bl : ∀ k, (g.behind p k).length = g.outs := fun k => by unfold Gm.behind; rw [List.length_map, List.length_range]
  have o3 : g.outs ≤ 3 := hg.l.o3
  refine s_cons (s1_forN (ds := (g.insAt p).map natD) 2 (i_lst (e_meth K.cls D2 (Nat.le_refl _) (e_var 0) rfl (a_cons (e_var 1) a_nil) ⟨g, _, p, hg, hp, rfl, rfl⟩))
    (fun j ρ => (∀ k ∈ (g.insAt p).take j, (g.behind p k).all (lostB ls) = false) ∧ ∃ s2, ρ = ⟨[some (gmP C g (dctP true (lostD ls))), some (dat (pairD p)), s2, none], []⟩) ⟨fun k h => by simp at h, none, rfl⟩ ?_ ?_)
  · rintro j d ρ1 hd ⟨hno, s2, rfl⟩
    obtain ⟨given, hgv, rfl⟩ := map_get hd
    obtain ⟨hgi, av, hav⟩ := insAt_mem (List.mem_of_getElem? hgv)
    have bln := bl given
    refine s_cons (s1_if (t := (g.behind p given).all (lostB ls)) (EvT.cast (t_val (e_all B (bs := (g.behind p given).map (lostB ls)) (LcR.ev <| lcN (own := [("after", 3)]) (ds := (g.behind p given).map optP) 3 (((g.behind p given).map (lostB ls)).map PyData.bool) (i_lst (e_meth K.cls D1 (Nat.le_refl _) (e_var 0) rfl (a_cons (e_var 1) (a_cons (e_var 2) a_nil)) ⟨g, _, p, given, av, hg, hp, hgi, hav, rfl, rfl⟩)) (blk_body (by decide +kernel)) (by simp) (by rw [List.length_map]; omega) fun s H C' ce fp k d g' hd' hg' => ?_))) (by rw [List.all_map]; rfl)) (fun ht => ?_) fun hf => s_nil (s_nil ⟨fun k hk => ?_, _, rfl⟩))
    · obtain ⟨x, hx, rfl⟩ := map_get hd'
      obtain ⟨bb, hbb, rfl⟩ := map_get hg'
      obtain ⟨x2, hx2, rfl⟩ := map_get hbb
      rw [hx] at hx2
      cases hx2
      cases x with
      | none => exact EvD.cB (e_or (t := true) (u := true) (e_cmp c_isN (e_var 3) e_non) fun h => nomatch h) rfl
      | some x => exact EvD.cB (e_or (e_cmp c_isN (e_var 3) e_non) fun _ => e_one (e_cmp (c_inD (pairD_key x)) (e_var 3) (e_fld K.cls K.lost (e_var 0) rfl))) (by rw [lost_some]; rfl)
    · refine s_cons (s1_ret (e_var 2) ?_)
      have : g.losingIn ls p = some given := by
        unfold Gm.losingIn
        rw [← List.take_append_drop j (g.insAt p), List.find?_append, List.find?_eq_none.mpr (fun k hk => by rw [hno k hk]; simp)]
        have hj := (List.getElem?_eq_some_iff.mp hgv)
        rw [List.drop_eq_getElem_cons hj.1, hj.2]
        simp [List.find?_cons, ht]
      rw [this]
      rfl
    · rw [List.take_add_one, hgv] at hk
      rcases List.mem_append.mp hk with hk | hk
      · exact hno k hk
      · simp at hk
        rw [hk]
        exact hf
  · rintro ρ1 ⟨hno, s2, rfl⟩
    rw [List.length_map, List.take_length] at hno
    refine s_cons (s1_ret e_non ?_)
    have : g.losingIn ls p = none := List.find?_eq_none.mpr fun k hk => by rw [hno k hk]; simp
    rw [this]
    rfl
end
end MR
/-! T20: kept_beats. -/
namespace MR
open PySem PySem.Spec PyProof.Rows L2
def keptOne (g : Gm) (ls : Lost) (given : Nat) (q : Option Pair × Nat) : Option (Nat × Pair) := match q.1 with
  | none => none
  | some x => if isLost ls x then none else some (g.at_ given q.2, x)
def keptRow (g : Gm) (ls : Lost) (given : Nat) (l : List (Option Pair)) : List (Nat × Pair) := l.zipIdx.filterMap (keptOne g ls given)
theorem keptRow_snoc {g : Gm} {ls : Lost} {given i : Nat} {l : List (Option Pair)} {x : Option Pair} (h : l[i]? = some x) : keptRow g ls given (l.take (i + 1)) = keptRow g ls given (l.take i) ++ (keptOne g ls given (x, i)).toList := by
  have hi := (List.getElem?_eq_some_iff.mp h).1
  unfold keptRow
  rw [List.take_add_one, h, List.zipIdx_append, List.filterMap_append, List.length_take, Nat.min_eq_left (by omega)]
  congr 1
  simp only [Option.toList, List.zipIdx_cons, List.zipIdx_nil, Nat.zero_add, List.filterMap_cons, List.filterMap_nil]
  cases keptOne g ls given (x, i) <;> rfl
def Gm.keptBeats (g : Gm) (ls : Lost) (p : Pair) : List (Nat × Pair) := (g.insAt p).flatMap fun given => keptRow g ls given (g.behind p given)
def kbD (q : Nat × Pair) : PyData := .tuple [natD q.1, pairD q.2]
theorem keptRow_len (g : Gm) (ls : Lost) (given : Nat) (l : List (Option Pair)) : (keptRow g ls given l).length ≤ l.length := by
  unfold keptRow
  refine Nat.le_trans (List.length_filterMap_le _ _) ?_
  rw [List.length_zipIdx]
  exact Nat.le_refl _
section
variable {G : GC} {L : LC G} {ρ : Rho G} {pos : Pos} {e : Expr} {C : Addr}
theorem scKept : FnScope ["self", "pair", "found", "given", "told", "after"] ["self", "pair"] (defScope (methS 6)) := ⟨rfl, rfl, rfl, by decide +kernel, rfl, by decide +kernel, by decide +kernel⟩
def RKept (G : GC) (C : Addr) : Rel G := fun ps r => ∃ (g : Gm) (ls : Lost) (p : Pair), g.Ok ∧ g.In p ∧ ps = [gmP C g (dctP true (lostD ls)), dat (pairD p)] ∧ r = dat (.list ((g.keptBeats ls p).map kbD))
theorem fn_kept (B : Bs G) (K : GameT G C) (F : MethT G C 6 "kept_beats" ["self", "pair"]) (D0 : MtD G 1 C "at" ["self", "given", "told"] (RAt G C)) (D1 : MtD G 3 C "behind" ["self", "pair", "given"] (RBehind G C)) (D2 : MtD G 3 C "ins_at" ["self", "pair"] (RInsAt G C)) (D3 : MtD G 1 C "is_kept" ["self", "pair"] (RIsKept G C)) : MtD G 4 C "kept_beats" ["self", "pair"] (RKept G C) := by
  refine mk_meth (k := 3) F scKept (fun pvs r ⟨_, _, _, _, _, h, _⟩ => by rw [h]; rfl) fun pvs r ⟨g, ls, p, hg, hp, h1, h2⟩ f cd A outer s H E hr => ?_
  subst h1 h2
  have bl : ∀ k, (g.behind p k).length = g.outs := fun k => by unfold Gm.behind; rw [List.length_map, List.length_range]
  have o3 : g.outs ≤ 3 := hg.l.o3
  have i3 : g.ins ≤ 3 := hg.l.i3
  have il : (g.insAt p).length ≤ 3 := by
    unfold Gm.insAt
    refine Nat.le_trans (List.length_filter_le _ _) ?_
    rw [List.length_range]
    exact i3
  have kl : ∀ (is : List Nat), (is.flatMap fun given => keptRow g ls given (g.behind p given)).length ≤ is.length * 3 := fun is => by
    induction is with
    | nil => simp
    | cons k is ih =>
      rw [List.flatMap_cons, List.length_append, List.length_cons, Nat.succ_mul]
      have := keptRow_len g ls k (g.behind p k)
      rw [bl] at this
      omega
  refine s_cons (s1_setM 2 (em_ownL (ds := []) a_nil) ?_)
  rintro p0 ρ1 ⟨c, rfl, rfl⟩
  refine s_cons (s1_forN (ds := (g.insAt p).map natD) 3 (i_lst (e_meth K.cls D2 (Nat.le_refl _) (e_var 0) rfl (a_cons (e_var 1) a_nil) ⟨g, _, p, hg, hp, rfl, rfl⟩))
    (fun j ρ => ∃ s3 s4 s5, ρ = ⟨[some (gmP C g (dctP true (lostD ls))), some (dat (pairD p)), some (refP c), s3, s4, s5], [(c, .lst ((((g.insAt p).take j).flatMap fun given => keptRow g ls given (g.behind p given)).map kbD))]⟩) ⟨none, none, none, rfl⟩ ?_ ?_)
  · rintro j d ρ1 hd ⟨s3, s4, s5, rfl⟩
    obtain ⟨given, hgv, rfl⟩ := map_get hd
    obtain ⟨hgi, av, hav⟩ := insAt_mem (List.mem_of_getElem? hgv)
    have bln := bl given
    have ej : ((g.insAt p).take (j + 1)).flatMap (fun given => keptRow g ls given (g.behind p given)) = (((g.insAt p).take j).flatMap fun given => keptRow g ls given (g.behind p given)) ++ keptRow g ls given (g.behind p given) := by
      rw [List.take_add_one, hgv, List.flatMap_append]
      simp
    have al := kl ((g.insAt p).take j)
    have jl : ((g.insAt p).take j).length ≤ 3 := by rw [List.length_take]; omega
    rw [ej]
    generalize (((g.insAt p).take j).flatMap fun given => keptRow g ls given (g.behind p given)) = acc at *
    refine s_cons (s1_forP (prs := enumQ ((g.behind p given).map optP)) 4 5 (ItD.cast (i_enum B.enumerate (e_meth K.cls D1 (Nat.le_refl _) (e_var 0) rfl (a_cons (e_var 1) (a_cons (e_var 3) a_nil)) ⟨g, _, p, given, av, hg, hp, hgi, hav, rfl, rfl⟩)) (enumQ_eq _))
      (fun i ρ => ∃ s4 s5, ρ = ⟨[some (gmP C g (dctP true (lostD ls))), some (dat (pairD p)), some (refP c), some (dat (natD given)), s4, s5], [(c, .lst ((acc ++ keptRow g ls given ((g.behind p given).take i)).map kbD))]⟩) ⟨s4, s5, by rw [List.take_zero]; show _ = (⟨_, [(c, .lst ((acc ++ []).map kbD))]⟩ : Rho G); rw [List.append_nil]; rfl⟩ ?_ ?_)
    · rintro i q ρ1 hq ⟨s4, s5, rfl⟩
      obtain ⟨bt, hbt, rfl⟩ := enumQ_get hq
      obtain ⟨x, hx, rfl⟩ := map_get hbt
      have hil := (List.getElem?_eq_some_iff.mp hx).1
      have rl := keptRow_len g ls given ((g.behind p given).take i)
      rw [List.length_take] at rl
      rw [keptRow_snoc hx]
      generalize keptRow g ls given ((g.behind p given).take i) = ac at *
      refine s_cons (s1_if (t := keptB ls x) (t_val (e_meth K.cls D3 (show 1 ≤ 3 by decide) (e_var 0) rfl (a_cons (e_var 5) a_nil) ⟨g, ls, x, hg, rfl, rfl⟩)) (fun ht => ?_) fun hf => s_nil (s_nil ⟨some (dat (natD i)), some (dat (optP x)), ?_⟩))
      · cases x with
        | none => cases ht
        | some x =>
          have hk : isLost ls x = false := by simpa [keptB] using ht
          have e1 : keptOne g ls given (some x, i) = some (g.at_ given i, x) := by
            show (if isLost ls x then none else some (g.at_ given i, x)) = _
            rw [hk]
            rfl
          refine s_cons (s1_append 0 (d := kbD (g.at_ given i, x)) (e_var 2) rfl (e_tup (ds := [natD (g.at_ given i), pairD x]) (a_cons (e_meth K.cls D0 (show 1 ≤ 3 by decide) (e_var 0) rfl (a_cons (e_var 3) (a_cons (e_var 4) a_nil)) ⟨g, _, given, i, hg, by omega, by omega, rfl, rfl⟩) (a_cons (e_var 5) a_nil))) (by rw [List.length_map, List.length_append]; omega) (s_nil (s_nil ⟨some (dat (natD i)), some (dat (optP (some x))), ?_⟩)))
          have e2 : (acc ++ (ac ++ [(g.at_ given i, x)])).map kbD = (acc ++ ac).map kbD ++ [kbD (g.at_ given i, x)] := by simp
          rw [e1]
          show _ = (⟨_, [(c, .lst ((acc ++ (ac ++ [(g.at_ given i, x)])).map kbD))]⟩ : Rho G)
          rw [e2]
          rfl
      · have e1 : keptOne g ls given (x, i) = none := by
          cases x with
          | none => rfl
          | some x =>
            have hk : isLost ls x = true := by simpa [keptB] using hf
            show (if isLost ls x then none else some (g.at_ given i, x)) = _
            rw [hk]
            rfl
        rw [e1]
        show _ = (⟨_, [(c, .lst ((acc ++ (ac ++ [])).map kbD))]⟩ : Rho G)
        rw [List.append_nil]
        rfl
    · rintro ρ1 ⟨s4, s5, rfl⟩
      have tk : (g.behind p given).take (enumQ (G := G) ((g.behind p given).map optP)).length = g.behind p given := by rw [enumQ_len, List.length_map, List.take_length]
      rw [tk]
      exact s_nil ⟨_, _, _, rfl⟩
  · rintro ρ1 ⟨s3, s4, s5, rfl⟩
    rw [List.length_map, List.take_length]
    refine st_frz Part.all (View.refl.set 2 rfl (imp_lst (ds := (g.keptBeats ls p).map kbD) (by simp [Gm.keptBeats]))) ?_
    exact s_cons (s1_ret (e_var 2) rfl)
end
end MR
/-! T21: settle. -/
namespace MR
open PySem PySem.Spec PyProof.Rows L2
section
variable {G : GC} {C : Addr}
theorem mk_methM {k j : Nat} {m : Str} {N ps : List Str} {R : RelM G} (F : MethT G C j m ps) (S : FnScope N ps (defScope (methS j))) (hR : ∀ pvs own Pw, R pvs own Pw → pvs.length = ps.length)
    (body : ∀ (pvs : List (PV G)) (own : Own G) (Pw : PV G → Rho G → Prop), R pvs own Pw → ∀ (f : Addr) (cd : Value) (A : Around) (outer : List Env) (s : Shared) (H : Hp) (E : XK) (hr : Room k (A.deeper (envOfC ("Game." ++ m) (defScope (methS j)) s.heap.objs.size f cd))),
      StD (bodyL G k N ("Game." ++ m) (methS j) f cd A outer s H E S.nd hr) ⟨startS N pvs, own⟩ (defBody (methS j)) { nx := fun ρ' => Pw (dat .none) ρ', rt := fun p ρ' => Pw p ρ' }) : MtM G (k + 1) C m ps R := by
  obtain ⟨f, fd, h1, h2, h3⟩ := F.ex
  exact ⟨f, fd, h1, h3, fnOk_mkM h2 S hR body⟩
theorem imp_gm {fz : Own G} {g : Gm} {q q' : PV G} (h : Imp fz q q') : Imp fz (gmP C g q) (gmP C g q') := fun Bv hv v ⟨a, dx, vs, h1, h2, h3⟩ => by
  refine ⟨a, dx, vs, h1, h2, ?_⟩
  match vs, h3 with
  | _, .cons x1 (.cons x2 (.cons x3 (.cons x4 .nil))) => exact .cons x1 (.cons x2 (.cons x3 (.cons ⟨x4.1, h Bv hv _ x4.2⟩ .nil)))
end
/-- what one round adds -/
def roundOf (g : Gm) (ls : Lost) (depth : Nat) (o : List Pair) : Lost := o.filterMap fun p => if isLost ls p then none else (g.losingIn ls p).map fun k => (p, (depth, k))
inductive Settle (g : Gm) (o : List Pair) : Nat → Lost → Lost → Prop
  | done {n : Nat} {ls : Lost} : roundOf g ls (n + 1) o = [] → Settle g o n ls ls
  | step {n : Nat} {ls f : Lost} : roundOf g ls (n + 1) o ≠ [] → Settle g o (n + 1) (ls ++ roundOf g ls (n + 1) o) f → Settle g o n ls f
section
variable {G : GC} {L : LC G} {ρ : Rho G} {pos : Pos} {e : Expr} {C : Addr}
theorem scSettle : FnScope ["self", "pairs", "depth", "is_going", "found", "pair", "given"] ["self"] (defScope (methS 8)) := ⟨rfl, rfl, rfl, by decide +kernel, rfl, by decide +kernel, by decide +kernel⟩
def RSettle (G : GC) (C : Addr) : RelM G := fun ps own Pw => ∃ (g : Gm) (d : Addr) (o : List Pair) (ls : Lost), g.Ok ∧ g.In (0, 0) ∧ Bfs g.succ [(0, 0)] 0 o ∧ o.length ≤ 1000 ∧ ((o.map fun p => (nk (pairD p)).hash G.w).Nodup) ∧ Settle g o 0 [] ls ∧ ps = [gmP C g (refP d)] ∧ own = [(d, .dct true [])] ∧ Pw = fun r ρ' => r = dat .none ∧ ρ'.ow = [(d, .dct true (lostD ls))]
/-- the hashes of the pairs differ -/
def HashOk (w : World) (o : List Pair) : Prop := (o.map fun p => (nk (pairD p)).hash w).Nodup
theorem round_sub (g : Gm) (ls : Lost) (n : Nat) (o : List Pair) : ((roundOf g ls n o).map (·.1)).Sublist o := by
  unfold roundOf
  induction o with
  | nil => exact .slnil
  | cons p o ih =>
    rw [List.filterMap_cons]
    split
    · exact ih.cons _
    · rename_i q hq
      have e : q.1 = p := by
        split at hq
        · cases hq
        · cases hk : g.losingIn ls p with
          | none => rw [hk] at hq; cases hq
          | some k => rw [hk] at hq; cases hq; rfl
      rw [List.map_cons, e]
      exact ih.cons₂ _
theorem look_app (x : Pair) : ∀ (l m : Lost), (l ++ m).lookup x = (l.lookup x).or (m.lookup x)
  | [], m => rfl
  | (y, v) :: l, m => by
    rw [List.cons_append, List.lookup_cons, List.lookup_cons]
    cases x == y
    · exact look_app x l m
    · rfl
theorem look_none {x : Pair} : ∀ {l : Lost}, x ∉ l.map (·.1) → l.lookup x = none
  | [], _ => rfl
  | (y, v) :: l, h => by
    rw [List.lookup_cons]
    have h1 : x ≠ y := fun z => h (by rw [z]; exact List.mem_cons_self)
    have : (x == y) = false := by simpa using h1
    rw [this]
    exact look_none fun z => h (List.mem_cons_of_mem _ z)
theorem lostD_app (l m : Lost) : lostD (l ++ m) = lostD l ++ lostD m := by unfold lostD; rw [List.map_append]
theorem dputs_lost : ∀ (m l : Lost), (m.map (·.1)).Nodup → (∀ q ∈ m, isLost l q.1 = false) → dputs (lostD l) (lostD m) = lostD (l ++ m)
  | [], l, _, _ => by rw [List.append_nil]; rfl
  | q :: m, l, nd, h => by
    have hq := h q List.mem_cons_self
    have nd := List.nodup_cons.mp nd
    have hg : dget (lostD l) (pairD q.1) = none := by
      rw [lost_get]
      unfold isLost at hq
      cases e : l.lookup q.1 with
      | none => rfl
      | some v => rw [e] at hq; cases hq
    show dputs (dput (lostD l) (pairD q.1) (pairD q.2)) (lostD m) = _
    rw [dput_new hg]
    have e1 : lostD l ++ [(pairD q.1, pairD q.2)] = lostD (l ++ [q]) := by rw [lostD_app]; rfl
    rw [e1, dputs_lost m (l ++ [q]) nd.2 fun r hr => ?_]
    · rw [List.append_assoc]
      rfl
    · have h1 := h r (List.mem_cons_of_mem _ hr)
      unfold isLost at h1 ⊢
      rw [look_app]
      have h2 : [q].lookup r.1 = none := look_none (by
        intro z
        have z : r.1 = q.1 := by simpa using z
        exact nd.1 (List.mem_map.mpr ⟨r, hr, z⟩))
      rw [h2]
      cases e : l.lookup r.1 with
      | none => rfl
      | some v => rw [e] at h1; cases h1
theorem round_new {g : Gm} {ls : Lost} {n : Nat} {o : List Pair} {q : Pair × Pair} (h : q ∈ roundOf g ls n o) : isLost ls q.1 = false := by
  unfold roundOf at h
  obtain ⟨p, hp, e⟩ := List.mem_filterMap.mp h
  split at e
  · cases e
  · rename_i hl
    cases hk : g.losingIn ls p with
    | none => rw [hk] at e; cases e
    | some k => rw [hk] at e; cases e; simpa using hl
theorem round_snoc {g : Gm} {ls : Lost} {n k : Nat} {o : List Pair} {p : Pair} (h : o[k]? = some p) : roundOf g ls n (o.take (k + 1)) = roundOf g ls n (o.take k) ++ (if isLost ls p then none else (g.losingIn ls p).map fun i => (p, (n, i))).toList := by
  unfold roundOf
  rw [List.take_add_one, h, List.filterMap_append]
  congr 1
inductive SettleM (g : Gm) (o : List Pair) : Nat → Nat → Lost → Lost → Prop
  | done {n : Nat} {ls : Lost} : roundOf g ls (n + 1) o = [] → SettleM g o 0 n ls ls
  | step {m n : Nat} {ls f : Lost} : roundOf g ls (n + 1) o ≠ [] → SettleM g o m (n + 1) (ls ++ roundOf g ls (n + 1) o) f → SettleM g o (m + 1) n ls f
theorem Settle.rank {g : Gm} {o : List Pair} {n : Nat} {ls f : Lost} (h : Settle g o n ls f) : ∃ m, SettleM g o m n ls f := by
  induction h with
  | done e => exact ⟨0, .done e⟩
  | step e _ ih =>
    obtain ⟨m, h⟩ := ih
    exact ⟨m + 1, .step e h⟩
theorem SettleM.inv {g : Gm} {o : List Pair} {m n : Nat} {ls f : Lost} (h : SettleM g o m n ls f) : (roundOf g ls (n + 1) o = [] ∧ ls = f) ∨ (roundOf g ls (n + 1) o ≠ [] ∧ ∃ m', m = m' + 1 ∧ SettleM g o m' (n + 1) (ls ++ roundOf g ls (n + 1) o) f) := by
  cases h with
  | done e => exact .inl ⟨e, rfl⟩
  | step e h => exact .inr ⟨e, _, rfl, h⟩
theorem round_len (g : Gm) (ls : Lost) (n : Nat) (o : List Pair) : (roundOf g ls n o).length ≤ o.length := List.length_filterMap_le _ _
/-- the keys differ, are met -/
structure LostIn (o : List Pair) (ls : Lost) : Prop where
  nd : (ls.map (·.1)).Nodup
  sub : ∀ x ∈ ls.map (·.1), x ∈ o
theorem LostIn.len {o : List Pair} {ls : Lost} (h : LostIn o ls) : ls.length ≤ o.length := by
  have := nodup_le o h.nd h.sub
  rwa [List.length_map] at this
theorem notLost {ls : Lost} {x : Pair} (h : isLost ls x = false) : x ∉ ls.map (·.1) := by
  intro hm
  induction ls with
  | nil => simp at hm
  | cons q ls ih =>
    obtain ⟨y, v⟩ := q
    unfold isLost at h
    rw [List.lookup_cons] at h
    cases hb : x == y with
    | true => rw [hb] at h; cases h
    | false =>
      rw [hb] at h
      rcases List.mem_cons.mp hm with e | hm
      · have e : x = y := e
        simp [e] at hb
      · exact ih h hm
theorem LostIn.round {g : Gm} {o : List Pair} {ls : Lost} {n : Nat} (ond : o.Nodup) (h : LostIn o ls) : LostIn o (ls ++ roundOf g ls n o) := by
  have sl := round_sub g ls n o
  constructor
  · rw [List.map_append]
    refine List.nodup_append.mpr ⟨h.nd, sl.nodup ond, fun a ha b hb z => ?_⟩
    subst z
    obtain ⟨q, hq, rfl⟩ := List.mem_map.mp hb
    exact notLost (round_new hq) ha
  · intro x hx
    rw [List.map_append] at hx
    rcases List.mem_append.mp hx with hx | hx
    · exact h.sub x hx
    · exact sl.subset hx
theorem fn_settle (B : Bs G) (K : GameT G C) (F : MethT G C 8 "settle" ["self"]) (D1 : MtD G 4 C "met" ["self"] (RMet G C)) (D2 : MtD G 4 C "losing_in" ["self", "pair"] (RLosing G C)) : MtM G 5 C "settle" ["self"] (RSettle G C) := by
  refine mk_methM (k := 4) F scSettle (fun pvs own Pw ⟨_, _, _, _, _, _, _, _, _, _, h, _⟩ => by rw [h]; rfl) fun pvs own Pw ⟨g, d, o, fin, hg, h00, hb, ol, hh, hs, h1, h2, h3⟩ f cd A outer s H E hr => ?_
  subst h1 h2 h3
  have ond : o.Nodup := hb.nodup (by simp)
  have oIn : ∀ x ∈ o, g.In x := hb.all g.In (fun s hs x hx => hs.succ hg hx) fun x hx => by rw [List.mem_singleton.mp hx]; exact h00
  obtain ⟨m0, hm0⟩ := hs.rank
  refine s_cons (s1_par3M 1 2 3 (am3 (e_meth0 K.cls D1 (Nat.le_refl _) (e_var 0) rfl ⟨g, _, o, hg, h00, hb, ol, rfl, rfl⟩) (fun p ρ1 h => e_int (i := 0)) (fun p ρ1 q ρ2 _ _ => e_tru)) ?_)
  rintro ps ρ1 ⟨p, ρ2, q, ρ3, r, ⟨rfl, rfl⟩, ⟨rfl, rfl⟩, ⟨rfl, rfl⟩, rfl⟩
  refine ⟨_, _, _, rfl, ?_⟩
  refine s_cons (s1_while (fun m ρ => ∃ (n : Nat) (ls : Lost) (go : Bool) (s4 s5 s6 : Option (PV G)), LostIn o ls ∧ ((go = true ∧ ∃ m', SettleM g o m' n ls fin ∧ m = m' + 1) ∨ (go = false ∧ ls = fin ∧ m = 0)) ∧
    ρ = ⟨[some (gmP C g (refP d)), some (dat (.list (o.map pairD))), some (dat (natD n)), some (dat (.bool go)), s4, s5, s6], [(d, .dct true (lostD ls))]⟩) ⟨m0 + 1, 0, [], true, none, none, none, ⟨by simp, by simp⟩, .inl ⟨rfl, m0, hm0, rfl⟩, rfl⟩ ?_)
  rintro m ρ1 ⟨n, ls, go, s4, s5, s6, hl, hgo, rfl⟩
  refine ⟨go, t_val (e_var 3), fun ht => ?_, fun hf => ?_⟩
  · subst ht
    rcases hgo with ⟨_, m', hm, rfl⟩ | ⟨h, _⟩
    · have ll := hl.len
      have view1 : ∀ (fs : Lost) (fa : Addr) (s5 s6 : Option (PV G)), View [some (gmP C g (refP d)), some (dat (.list (o.map pairD))), some (dat (natD (n + 1))), some (dat (.bool true)), some (refP fa), s5, s6] [(fa, .dct true (lostD fs)), (d, .dct true (lostD ls))]
          (([some (gmP C g (dctP true (lostD ls))), some (dat (.list (o.map pairD))), some (dat (natD (n + 1))), some (dat (.bool true)), some (refP fa), s5, s6] : List (Option (PV G)))) := fun fs fa s5 s6 => View.refl.set 0 rfl (imp_gm (imp_dct (by simp)))
      refine s_cons (s1_set 2 (EvD.cI (e_bin b_add (e_var 2) e_int) (show _ = ((n + 1 : Nat) : Int) by omega)) ?_)
      refine s_cons (s1_setM 4 (em_ownD0 true) ?_)
      rintro p0 ρ1 ⟨fa, rfl, rfl⟩
      refine s_cons (s1_forN (ds := o.map pairD) 5 (i_lst (e_var 1)) (fun k ρ => ∃ s5 s6, ρ = ⟨[some (gmP C g (refP d)), some (dat (.list (o.map pairD))), some (dat (natD (n + 1))), some (dat (.bool true)), some (refP fa), s5, s6],
        [(fa, .dct true (lostD (roundOf g ls (n + 1) (o.take k)))), (d, .dct true (lostD ls))]⟩) ⟨s5, s6, rfl⟩ ?_ ?_)
      · rintro k dd ρ1 hd ⟨s5, s6, rfl⟩
        obtain ⟨p, hp, rfl⟩ := map_get hd
        have pIn := oIn p (List.mem_of_getElem? hp)
        rw [round_snoc hp]
        have rl := round_len g ls (n + 1) (o.take k)
        rw [List.length_take] at rl
        have rs := (round_sub g ls (n + 1) (o.take k))
        have pn : p ∉ (roundOf g ls (n + 1) (o.take k)).map (·.1) := fun z => by
          have h1 := rs.subset z
          obtain ⟨i, hi⟩ := List.getElem?_of_mem h1
          have hik : i < k := by
            have := (List.getElem?_eq_some_iff.mp hi).1
            rw [List.length_take] at this
            omega
          rw [List.getElem?_take_of_lt hik] at hi
          have := (List.getElem?_inj (List.getElem?_eq_some_iff.mp hi).1 ond).mp (hi.trans hp.symm)
          omega
        generalize roundOf g ls (n + 1) (o.take k) = rd at *
        refine s_cons (s1_set 6 (p := dat (optD (if isLost ls p then none else g.losingIn ls p))) (e_own (view1 rd fa _ _) (EvD.cast (e_if (t := !isLost ls p) (EvT.cast (t_cmp (c_ninD (pairD_key p)) (e_var 5) (e_fld K.cls K.lost (e_var 0) rfl)) (by rw [lost_some])) (fun h => EvD.cast (e_meth K.cls D2 (Nat.le_refl _) (e_var 0) rfl (a_cons (e_var 5) a_nil) ⟨g, ls, p, hg, pIn, rfl, rfl⟩) (by rw [show isLost ls p = false by simpa using h]; rfl)) (fun h => EvD.cast e_non (by rw [show isLost ls p = true by simpa using h]; rfl))) rfl) (keyable_opt _)) ?_)
        have eq1 : (if isLost ls p then none else (g.losingIn ls p).map fun i => (p, (n + 1, i))) = (if isLost ls p then none else g.losingIn ls p).map fun i => (p, (n + 1, i)) := by split <;> rfl
        rw [eq1]
        generalize (if isLost ls p then none else g.losingIn ls p) = gv at *
        cases gv with
        | none =>
          refine s_cons (s1_if (t := false) (t_cmp c_notN (e_var 6) e_non) (fun h => nomatch h) fun _ => s_nil (s_nil ⟨some (dat (pairD p)), some (dat (optD none)), ?_⟩))
          show _ = (⟨_, [(fa, .dct true (lostD (rd ++ []))), (d, .dct true (lostD ls))]⟩ : Rho G)
          rw [List.append_nil]
          rfl
        | some gv =>
          refine s_cons (s1_if (t := true) (t_cmp c_notN (e_var 6) e_non) (fun _ => ?_) (fun h => nomatch h))
          refine s_cons (s1_dput 0 (pairD_key p) (e_tup (ds := [natD (n + 1), natD gv]) (a_cons (e_var 2) (a_cons (e_var 6) a_nil))) (e_var 4) (e_var 5) rfl (by unfold lostD; rw [List.length_map]; omega) (s_nil (s_nil ⟨some (dat (pairD p)), some (dat (optD (some gv))), ?_⟩)))
          have hgn : dget (lostD rd) (pairD p) = none := by rw [lost_get, look_none pn]; rfl
          rw [dput_new hgn]
          show _ = (⟨_, [(fa, .dct true (lostD (rd ++ [(p, (n + 1, gv))]))), (d, .dct true (lostD ls))]⟩ : Rho G)
          rw [lostD_app]
          rfl
      · rintro ρ1 ⟨s5, s6, rfl⟩
        rw [List.length_map, List.take_length]
        have rs := round_sub g ls (n + 1) o
        have rl := round_len g ls (n + 1) o
        have hl2 : LostIn o (ls ++ roundOf g ls (n + 1) o) := hl.round ond
        have inv := hm.inv
        have hnew : ∀ q ∈ roundOf g ls (n + 1) o, isLost ls q.1 = false := fun q hq => round_new hq
        generalize roundOf g ls (n + 1) o = rd at *
        have rnd := rs.nodup ond
        refine st_frz Part.first (View.refl.set 4 rfl (imp_dct (t := true) (kvs := lostD rd) (by simp))) ?_
        have hsub : ((rd.map (·.1)).map fun p => (nk (pairD p)).hash G.w).Nodup := (rs.map _).nodup hh
        refine s_cons (s1_update 0 (more := lostD rd) (e_fld K.cls K.lost (e_var 0) rfl) (e_var 4) rfl (by unfold lostD; rw [List.length_map, List.length_map]; omega) (.inr (by unfold lostD; rw [List.map_map]; rw [List.map_map] at hsub; exact hsub)) ?_)
        refine s_cons (s1_set 3 (EvD.cB (e_cmp c_ne0 (e_var 4) (e_dct0 true)) (t2 := !rd.isEmpty) (by cases rd <;> rfl)) ?_)
        have edp : dputs (lostD ls) (lostD rd) = lostD (ls ++ rd) := dputs_lost rd ls rnd hnew
        refine s_nil ?_
        rcases inv with ⟨e1, e2⟩ | ⟨e1, m2, e2, e3⟩
        · subst e1
          subst e2
          exact ⟨0, by omega, n + 1, ls, false, some (dctP true (lostD [])), s5, s6, hl, .inr ⟨rfl, rfl, rfl⟩, rfl⟩
        · refine ⟨m2 + 1, by omega, n + 1, ls ++ rd, true, some (dctP true (lostD rd)), s5, s6, hl2, .inl ⟨rfl, m2, e3, rfl⟩, ?_⟩
          rw [← edp]
          cases rd with
          | nil => exact absurd rfl e1
          | cons q rd => rfl
    · cases h
  · subst hf
    rcases hgo with ⟨h, _⟩ | ⟨_, rfl, rfl⟩
    · cases h
    · exact s_nil ⟨rfl, rfl⟩
end
end MR
/-! M5: settling ends, in one way; the met pairs. -/
namespace MR
open PySem
theorem settle_ex {g : Gm} {o : List Pair} (ond : o.Nodup) : ∀ (m n : Nat) (ls : Lost), LostIn o ls → o.length - ls.length ≤ m → ∃ f, Settle g o n ls f ∧ LostIn o f := by
  intro m
  induction m with
  | zero =>
    intro n ls h hm
    have h2 := (h.round (g := g) (n := n + 1) ond).len
    have h1 := h.len
    rw [List.length_append] at h2
    have : roundOf g ls (n + 1) o = [] := List.length_eq_zero_iff.mp (by omega)
    exact ⟨ls, .done this, h⟩
  | succ m ih =>
    intro n ls h hm
    by_cases e : roundOf g ls (n + 1) o = []
    · exact ⟨ls, .done e, h⟩
    · have hl : 1 ≤ (roundOf g ls (n + 1) o).length := List.length_pos_iff.mpr e
      obtain ⟨f, hf, hi⟩ := ih (n + 1) (ls ++ roundOf g ls (n + 1) o) (h.round ond) (by rw [List.length_append]; omega)
      exact ⟨f, .step e hf, hi⟩
theorem Settle.det {g : Gm} {o : List Pair} {n : Nat} {ls f f2 : Lost} (h : Settle g o n ls f) : Settle g o n ls f2 → f = f2 := by
  induction h with
  | done e =>
    intro h
    cases h with
    | done _ => rfl
    | step e2 _ => exact absurd e e2
  | step e _ ih =>
    intro h
    cases h with
    | done e2 => exact absurd e2 e
    | step _ h2 => exact ih h2
/-- every pair of the tables -/
def allP (g : Gm) : List Pair := (List.range g.lim.length).flatMap fun a => (List.range g.rows.length).map fun b => (a, b)
theorem allP_mem {g : Gm} {p : Pair} : p ∈ allP g ↔ g.In p := by
  unfold allP Gm.In
  rw [List.mem_flatMap]
  constructor
  · rintro ⟨a, ha, h⟩
    obtain ⟨b, hb, rfl⟩ := List.mem_map.mp h
    exact ⟨List.mem_range.mp ha, List.mem_range.mp hb⟩
  · rintro ⟨h1, h2⟩
    exact ⟨p.1, List.mem_range.mpr h1, List.mem_map.mpr ⟨p.2, List.mem_range.mpr h2, rfl⟩⟩
theorem allP_len (g : Gm) : (allP g).length = g.lim.length * g.rows.length := by
  unfold allP
  have h : ∀ ks : List Nat, (ks.flatMap fun a => (List.range g.rows.length).map fun b => (a, b)).length = ks.length * g.rows.length := fun ks => by
    induction ks with
    | nil => simp
    | cons k ks ih => rw [List.flatMap_cons, List.length_append, ih, List.length_map, List.length_range, List.length_cons, Nat.succ_mul, Nat.add_comm]
  rw [h, List.length_range]
theorem Gm.In.begin_ {g : Gm} (hg : g.Ok) : g.In (0, 0) := ⟨hg.lim.pos, hg.rows.pos⟩
/-- the met pairs -/
theorem met_ex {g : Gm} (hg : g.Ok) : ∃ o, Bfs g.succ [(0, 0)] 0 o ∧ o.length ≤ g.lim.length * g.rows.length ∧ ∀ p ∈ o, g.In p := by
  obtain ⟨o, ho, hl⟩ := bfs_ends (succ := g.succ) (allP g) (fun s hs x hx => allP_mem.mpr ((allP_mem.mp hs).succ hg hx)) (0, 0) (allP_mem.mpr (.begin_ hg))
  rw [allP_len] at hl
  exact ⟨o, ho, hl, ho.all g.In (fun s hs x hx => hs.succ hg hx) fun x hx => by rw [List.mem_singleton.mp hx]; exact .begin_ hg⟩
/-- what is lost in a game -/
def LostOf (g : Gm) (ls : Lost) : Prop := ∃ o, Bfs g.succ [(0, 0)] 0 o ∧ Settle g o 0 [] ls
theorem lostOf_ex {g : Gm} (hg : g.Ok) : ∃ ls, LostOf g ls := by
  obtain ⟨o, ho, _, _⟩ := met_ex hg
  obtain ⟨ls, h, _⟩ := settle_ex (g := g) (ho.nodup (by simp)) o.length 0 [] ⟨by simp, by simp⟩ (by simp)
  exact ⟨ls, o, ho, h⟩
theorem LostOf.det {g : Gm} {a b : Lost} (h : LostOf g a) (h2 : LostOf g b) : a = b := by
  obtain ⟨o, ho, hs⟩ := h
  obtain ⟨o2, ho2, hs2⟩ := h2
  have := ho.det ho2
  subst this
  exact hs.det hs2
end MR
/-! T22: a game is made. -/
namespace MR
open PySem PySem.Spec PyProof.Rows L2
section
variable {G : GC}
/-- the instance at x -/
def insA (C x : Addr) (fs : List (Str × PV G)) : PV G := ⟨fun B v => v = .ref x ∧ (insP C fs).p B v, fun e ⟨h1, h2⟩ => ⟨h1, (insP C fs).mono e h2⟩⟩
theorem imp_insA {fz : Own G} {C x : Addr} {fs : List (Str × PV G)} (h : (x, .ins C fs) ∈ fz) : Imp fz (refP x) (insA C x fs) := fun Bv hv v hp => by
  obtain rfl : v = .ref x := hp
  obtain ⟨o, e, dx, vs, rfl, k⟩ := hv x _ h
  exact ⟨rfl, x, dx, vs, rfl, e, k⟩
theorem e_varA {L : LC G} {ρ : Rho G} {e : Expr} {C x : Addr} {fs : List (Str × PV G)} (h : EvD L ρ e (insA C x fs)) : EvD L ρ e (insP C fs) := EvD.of fun A B0 B σ H Q E k => h.run E fun v B' H' x' E' y => k v B' H' x' E' y.2
end
section
variable {G : GC} {C : Addr}
theorem scInit : FnScope ["self", "standard", "sentences"] ["self", "standard", "sentences"] (defScope (methS 0)) := ⟨rfl, rfl, rfl, by decide +kernel, rfl, by decide +kernel, by decide +kernel⟩
def RInit (G : GC) (C : Addr) : RelM G := fun ps own Pw => ∃ (x : Addr) (l : Lt) (range ss : List Sen) (cl : PyData) (lim rows : Rows) (o : List Pair) (ls : Lost), (Gm.mk l lim rows).Ok ∧ (∀ s ∈ range, s.Ok l) ∧ (∀ s ∈ ss, s.Ok l) ∧ range.length ≤ 100 ∧ ss.length ≤ 100 ∧ Together l range lim ∧ Together l ss rows ∧
  Bfs (Gm.mk l lim rows).succ [(0, 0)] 0 o ∧ o.length ≤ 1000 ∧ ((o.map fun p => (nk (pairD p)).hash G.w).Nodup) ∧ Settle (Gm.mk l lim rows) o 0 [] ls ∧ ps = [refP x, dat (stdD l range cl), dat (.list (ss.map Sen.enc))] ∧ own = [(x, .ins C [])] ∧
  Pw = fun r ρ' => r = dat .none ∧ ∃ d, ρ'.ow = [(d, .dct true (lostD ls))] ∧ ρ'.sl[0]? = some (some (insA C x (gmF ⟨l, lim, rows⟩ (refP d))))
theorem fn_init {f : Addr} {fd : FuncData} (K : GameT G C) (F : Fun G.K "__init__" "Game.__init__" (methS 0) f fd) (D1 : FnD G 11 "range_rows" ["standard"] (RRange G)) (D2 : FnD G 10 "together_by" ["letters", "sentences"] (RTogether G)) (D3 : MtM G 5 C "settle" ["self"] (RSettle G C)) :
    FnOk G.P G.w G.K G.mg G.base CX0 12 f fd ["self", "standard", "sentences"] (spM (RInit G C)) := by
  refine fnOk_mkM (k := 11) F scInit (fun pvs own Pw ⟨_, _, _, _, _, _, _, _, _, _, _, _, _, _, _, _, _, _, _, _, h, _⟩ => by rw [h]; rfl) fun pvs own Pw ⟨x, l, range, ss, cl, lim, rows, o, ls, hg, hr1, hs1, n1, n2, t1, t2, hb, ol, hh, hs, h1, h2, h3⟩ f cd A outer s H E hr => ?_
  subst h1 h2 h3
  refine s_cons (s1_fld 0 (ad := x) (fs := fun _ => []) K.cls K.letters (e_ix (x_tup at0) (e_var 1) e_int) (fun p ρ1 h => ?_))
  obtain ⟨e1, e2⟩ := h
  subst e1 e2
  refine ⟨e_var 0, rfl, rfl, by show 0 < 1000; decide, ?_⟩
  refine s_cons (s1_fld 0 (ad := x) (fs := fun _ => [("letters", dat l.enc)]) K.cls K.limits (e_call D1 (Nat.le_refl _) (a_cons (e_var 1) a_nil) ⟨l, range, cl, lim, hg.l, hr1, n1, t1, rfl, rfl⟩) (fun p ρ1 h => ?_))
  obtain ⟨e1, e2⟩ := h
  subst e1 e2
  refine ⟨e_var 0, rfl, rfl, by show 1 < 1000; decide, ?_⟩
  refine s_cons (s1_fld 0 (ad := x) (fs := fun _ => [("letters", dat l.enc), ("limits", dat (rowsT lim))]) K.cls K.rows (e_call D2 (show 10 ≤ 11 by decide) (a_cons (e_ix (x_tup at0) (e_var 1) e_int) (a_cons (e_var 2) a_nil)) ⟨l, ss, rows, _, hg.l, hs1, n2, t2, .inl rfl, rfl, rfl⟩) (fun p ρ1 h => ?_))
  obtain ⟨e1, e2⟩ := h
  subst e1 e2
  refine ⟨e_var 0, rfl, rfl, by show 2 < 1000; decide, ?_⟩
  refine s_cons (s1_fld 1 (ad := x) (fs := fun _ => [("letters", dat l.enc), ("limits", dat (rowsT lim)), ("rows", dat (rowsT rows))]) K.cls K.lost (em_ownD0 true) (fun p ρ1 h => ?_))
  obtain ⟨d, e1, e2⟩ := h
  subst e1 e2
  refine ⟨e_var 0, rfl, rfl, by show 3 < 1000; decide, ?_⟩
  refine st_frz (fz := [(x, .ins C (gmF ⟨l, lim, rows⟩ (refP d)))]) (ow' := [(d, .dct true [])]) (Part.of (List.Perm.swap _ _ _)) (View.refl.set 0 rfl (imp_insA (C := C) (fs := gmF ⟨l, lim, rows⟩ (refP d)) (by simp))) ?_
  refine s_cons (s1_exprM (em_meth0 (rest := []) K.cls D3 (show 5 ≤ 11 by decide) (e_varA (e_var 0)) rfl (List.Perm.refl _) ⟨⟨l, lim, rows⟩, d, o, ls, hg, .begin_ hg, hb, ol, hh, hs, rfl, rfl, rfl⟩) (fun p ρ1 h => s_nil ?_))
  obtain ⟨ρc, ⟨_, e2⟩, e1⟩ := h
  subst e1
  exact ⟨rfl, d, by rw [e2]; rfl, rfl⟩
end
end MR
/-! T23: game_of. -/
namespace MR
open PySem PySem.Spec PyProof.Rows L2
section
variable {G : GC} {C : Addr}
theorem scGameOf : FnScope ["standard", "claims"] ["standard", "claims"] (defScope (topS 60)) := ⟨rfl, rfl, rfl, by decide +kernel, rfl, by decide +kernel, by decide +kernel⟩
def RGameOf (G : GC) (C : Addr) : Rel G := fun ps r => ∃ (l : Lt) (range : List Sen) (cl : List Cla) (cs : List Str) (lim rows : Rows) (o : List Pair) (ls : Lost), (Gm.mk l lim rows).Ok ∧ (∀ s ∈ range, s.Ok l) ∧ (∀ s ∈ sensOf cl cs, s.Ok l) ∧ range.length ≤ 100 ∧ (sensOf cl cs).length ≤ 100 ∧ cl.length ≤ 1000 ∧ Together l range lim ∧ Together l (sensOf cl cs) rows ∧
  Bfs (Gm.mk l lim rows).succ [(0, 0)] 0 o ∧ o.length ≤ 1000 ∧ ((o.map fun p => (nk (pairD p)).hash G.w).Nodup) ∧ Settle (Gm.mk l lim rows) o 0 [] ls ∧ ps = [dat (stdD l range (.tuple (cl.map Cla.enc))), dat (strsD cs)] ∧ r = gmP C ⟨l, lim, rows⟩ (dctP true (lostD ls))
theorem fn_game_of (F : FunT G 60 "game_of" ["standard", "claims"]) (D1 : FnD G 1 "sentences_by" ["standard", "claims"] (RSentences G)) (D2 : MkM G 12 "Game" C ["self", "standard", "sentences"] (RInit G C)) : FnD G 14 "game_of" ["standard", "claims"] (RGameOf G C) := by
  refine mk_def (k := 13) F scGameOf (fun pvs r ⟨_, _, _, _, _, _, _, _, _, _, _, _, _, _, _, _, _, _, _, _, h, _⟩ => by rw [h]; rfl) fun pvs r ⟨l, range, cl, cs, lim, rows, o, ls, hg, hr1, hs1, n1, n2, n3, t1, t2, hb, ol, hh, hs, h1, h2⟩ f cd A outer s H E hr => ?_
  subst h1 h2
  refine s_cons (s1_ret (em_frz (em_make (Pw := fun x r ρ' => r = dat .none ∧ ∃ d, ρ'.ow = [(d, .dct true (lostD ls))] ∧ ρ'.sl[0]? = some (some (insA C x (gmF ⟨l, lim, rows⟩ (refP d))))) D2 (Nat.le_refl _) (a_cons (e_var 0) (a_cons (e_call D1 (show 1 ≤ 13 by decide) (a_cons (e_var 0) (a_cons (e_var 1) a_nil)) ⟨l, range, cl, cs, n3, rfl, rfl⟩) a_nil)) (fun a => ⟨a, l, range, sensOf cl cs, _, lim, rows, o, ls, hg, hr1, hs1, n1, n2, t1, t2, hb, ol, hh, hs, rfl, rfl, rfl⟩) (fun a r ρc ⟨e1, d, e2, e3⟩ => ⟨e1, _, e3, fun B v h => h.1⟩)) fun p ρ' h => ?_) rfl)
  obtain ⟨a, ρc, ⟨_, d, e2, e3⟩, e4, e5⟩ := h
  subst e5
  rw [e3] at e4
  have e4 := Option.some.inj (Option.some.inj e4)
  subst e4
  exact ⟨rfl, [(d, .dct true (lostD ls))], by rw [e2], fun Bv hv v hp => imp_gm (imp_dct (by simp)) Bv hv v hp.2⟩
end
end MR
namespace MR
open PySem PySem.Spec PyProof.Rows L2
/-- every pair of four rows and sixty -/
def all240 : List Pair := (List.range 4).flatMap fun a => (List.range 60).map fun b => (a, b)
theorem hash_240 (w : World) : (all240.map fun p => (nk (pairD p)).hash w).Nodup := by
  have h : (all240.map fun p : Pair => reduceHash (Builtin.Tuple.tupleHashOf [hashInt (p.1 : Int), hashInt (p.2 : Int)])).Nodup := by decide +kernel
  exact h
end MR
/-! T24: a standard's game, settled; can_keep. -/
namespace MR
open PySem PySem.Spec PyProof.Rows L2
theorem hash_in (w : World) {o : List Pair} (nd : o.Nodup) (h : ∀ p ∈ o, p.1 < 4 ∧ p.2 < 60) : ((o.map fun p => (nk (pairD p)).hash w).Nodup) := by
  have hm : ∀ p ∈ o, p ∈ all240 := fun p hp => by
    unfold all240
    rw [List.mem_flatMap]
    exact ⟨p.1, List.mem_range.mpr (h p hp).1, List.mem_map.mpr ⟨p.2, List.mem_range.mpr (h p hp).2, rfl⟩⟩
  have inj : ∀ p ∈ o, ∀ q ∈ o, (nk (pairD p)).hash w = (nk (pairD q)).hash w → p = q := fun p hp q hq e => by
    have H := hash_240 w
    obtain ⟨i, hi⟩ := List.getElem?_of_mem (hm p hp)
    obtain ⟨j, hj⟩ := List.getElem?_of_mem (hm q hq)
    have e1 : (all240.map fun p => (nk (pairD p)).hash w)[i]? = some ((nk (pairD p)).hash w) := by rw [List.getElem?_map, hi]; rfl
    have e2 : (all240.map fun p => (nk (pairD p)).hash w)[j]? = some ((nk (pairD p)).hash w) := by rw [List.getElem?_map, hj, e]; rfl
    have := (List.getElem?_inj (by rw [List.length_map]; exact (List.getElem?_eq_some_iff.mp hi).1) H).mp (e1.trans e2.symm)
    subst this
    rw [hi] at hj
    exact Option.some.inj hj
  unfold List.Nodup
  rw [List.pairwise_map]
  exact List.Pairwise.imp_of_mem (fun {p q} hp hq hne e => hne (inj p hp q hq e)) nd
/-- a standard's game, settled -/
structure Plays (l : Lt) (range ss : List Sen) (g : Gm) (ls : Lost) : Prop where
  ok : g.Ok
  hl : g.l = l
  r : ∀ s ∈ range, s.Ok l
  s : ∀ s ∈ ss, s.Ok l
  n1 : range.length ≤ 100
  n2 : ss.length ≤ 100
  lim : Together l range g.lim
  rows : Together l ss g.rows
  m1 : g.lim.length ≤ 4
  m2 : g.rows.length ≤ 60
  lost : LostOf g ls
theorem Plays.met {l : Lt} {range ss : List Sen} {g : Gm} {ls : Lost} (h : Plays l range ss g ls) (w : World) : ∃ o, Bfs g.succ [(0, 0)] 0 o ∧ o.length ≤ 1000 ∧ ((o.map fun p => (nk (pairD p)).hash w).Nodup) ∧ Settle g o 0 [] ls := by
  obtain ⟨o, hb, hs⟩ := h.lost
  obtain ⟨o2, hb2, hl, hin⟩ := met_ex h.ok
  have := hb.det hb2
  subst this
  have m1 := h.m1
  have m2 := h.m2
  refine ⟨o, hb, ?_, hash_in w (hb.nodup (by simp)) fun p hp => ?_, hs⟩
  · have : g.lim.length * g.rows.length ≤ 4 * 60 := Nat.mul_le_mul m1 m2
    omega
  · obtain ⟨a, b⟩ := hin p hp
    exact ⟨by omega, by omega⟩
section
variable {G : GC} {C : Addr}
theorem Plays.game {S : Std} (hS : S.Ok) {cs : List Str} {g : Gm} {ls : Lost} (h : Plays S.l S.range (sensOf S.cl cs) g ls) : RGameOf G C [dat S.enc, dat (strsD cs)] (gmP C g (dctP true (lostD ls))) := by
  obtain ⟨o, h1, h2, h3, h4⟩ := h.met G.w
  obtain ⟨l, lim, rows⟩ := g
  have e : l = S.l := h.hl
  subst e
  have n8 := hS.c.n8
  exact ⟨S.l, S.range, S.cl, cs, lim, rows, o, ls, h.ok, h.r, h.s, h.n1, h.n2, by omega, h.lim, h.rows, h1, h2, h3, h4, rfl, rfl⟩
end
section
variable {G : GC} {C : Addr}
theorem scCanKeep : FnScope ["standard", "claims"] ["standard", "claims"] (defScope (topS 61)) := ⟨rfl, rfl, rfl, by decide +kernel, rfl, by decide +kernel, by decide +kernel⟩
def RCanKeep (G : GC) : Rel G := fun ps r => ∃ (S : Std) (cs : List Str) (g : Gm) (ls : Lost), S.Ok ∧ ClaimsOk cs ∧ Plays S.l S.range (sensOf S.cl cs) g ls ∧ ps = [dat S.enc, dat (strsD cs)] ∧ r = dat (.bool (keptB ls (some (0, 0))))
theorem fn_can_keep (Q : Cs G) (K : GameT G C) (F : FunTK G (topS 61) "can_keep" ["standard", "claims"] 1 ["claims"]) (D1 : FnD G 13 "need_claimed" ["standard", "claims"] (RNeedCd G)) (D2 : FnD G 14 "game_of" ["standard", "claims"] (RGameOf G C)) (D3 : MtD G 1 C "is_kept" ["self", "pair"] (RIsKept G C)) :
    FnK G 15 "can_keep" ["standard", "claims"] 1 ["claims"] (RCanKeep G) := by
  refine mk_defK (k := 14) F scCanKeep (fun pvs r ⟨_, _, _, _, _, _, _, h, _⟩ => by rw [h]; rfl) fun pvs r ⟨S, cs, g, ls, hS, hc, hp, h1, h2⟩ f cd A outer s H E hr => ?_
  subst h1 h2
  refine s_cons (s1_drop (e_call D1 (show 13 ≤ 14 by decide) (a_cons (e_var 0) (a_cons (e_var 1) a_nil)) ⟨S, cs, hS, hc, rfl, rfl⟩) ?_)
  exact s_cons (s1_ret (e_meth K.cls D3 (show 1 ≤ 14 by decide) (e_call D2 (Nat.le_refl _) (a_cons (e_var 0) (a_cons (e_var 1) a_nil)) (hp.game hS)) rfl (a_cons (e_begin Q) a_nil) ⟨g, ls, some (0, 0), hp.ok, rfl, rfl⟩) rfl)
end
end MR
/-! T25: row_of. -/
namespace MR
open PySem PySem.Spec PyProof.Rows L2
section
variable {G : GC}
theorem mk_defM {k i : Nat} {x : Str} {N ps : List Str} {R : RelM G} (F : FunT G i x ps) (S : FnScope N ps (defScope (topS i))) (hR : ∀ pvs own Pw, R pvs own Pw → pvs.length = ps.length)
    (body : ∀ (pvs : List (PV G)) (own : Own G) (Pw : PV G → Rho G → Prop), R pvs own Pw → ∀ (f : Addr) (cd : Value) (A : Around) (outer : List Env) (s : Shared) (H : Hp) (E : XK) (hr : Room k (A.deeper (envOfC x (defScope (topS i)) s.heap.objs.size f cd))),
      StD (bodyL G k N x (topS i) f cd A outer s H E S.nd hr) ⟨startS N pvs, own⟩ (defBody (topS i)) { nx := fun ρ' => Pw (dat .none) ρ', rt := fun p ρ' => Pw p ρ' }) : FnM G (k + 1) x ps R := by
  obtain ⟨f, fd, h1, h2, h3⟩ := F.ex
  exact ⟨f, fd, h1, h2.kp, h3, fnOk_mkM h2 S hR body⟩
end
theorem kept_not (ls : Lost) (x : Option Pair) : keptB ls x = !lostB ls x := by cases x <;> rfl
/-- one cell: the out, the number; and the numbers behind it -/
def rowStep (g : Gm) (ls : Lost) (p : Pair) (given : Nat) (ns : List Pair) : (Nat × Nat) × List Pair :=
  match g.asked p given with
  | none => ((0, ix ns p), ns)
  | some _ => match (g.behind p given)[(g.behind p given).findIdx (keptB ls)]? with
    | some (some x) => (((g.behind p given).findIdx (keptB ls), ix (visit ns [some x]) x), visit ns [some x])
    | _ => ((0, 0), ns)
def rowUp (g : Gm) (ls : Lost) (p : Pair) (ns : List Pair) : Nat → List (Nat × Nat) × List Pair
  | 0 => ([], ns)
  | k + 1 => ((rowUp g ls p ns k).1 ++ [(rowStep g ls p k (rowUp g ls p ns k).2).1], (rowStep g ls p k (rowUp g ls p ns k).2).2)
def cellD (l : Lt) (c : Nat × Nat) : PyData := .tuple [.str (l.outs.getD c.1 ""), natD c.2]
def rowD (l : Lt) (r : List (Nat × Nat)) : PyData := .tuple (r.map (cellD l))
theorem visit1 (ns : List Pair) (x : Pair) : visit ns [some x] = if x ∈ ns then ns else ns ++ [x] := by
  by_cases h : x ∈ ns
  · rw [if_pos h]; exact if_pos h
  · rw [if_neg h]; exact if_neg h
theorem visit1_len (ns : List Pair) (x : Pair) : (visit ns [some x]).length ≤ ns.length + 1 := by
  rw [visit1]
  split
  · omega
  · rw [List.length_append]; simp
theorem visit1_mem (ns : List Pair) (x : Pair) : x ∈ visit ns [some x] := visit_mem.mpr (.inr List.mem_cons_self)
theorem rowStep_len (g : Gm) (ls : Lost) (p : Pair) (k : Nat) (ns : List Pair) : (rowStep g ls p k ns).2.length ≤ ns.length + 1 := by
  unfold rowStep
  split
  · exact Nat.le_succ _
  · split
    · exact visit1_len _ _
    · exact Nat.le_succ _
theorem rowStep_pre (g : Gm) (ls : Lost) (p : Pair) (k : Nat) (ns : List Pair) : ns <+: (rowStep g ls p k ns).2 := by
  unfold rowStep
  split
  · exact List.prefix_rfl
  · split
    · exact visit_pre _ _
    · exact List.prefix_rfl
theorem rowUp_len (g : Gm) (ls : Lost) (p : Pair) (ns : List Pair) : ∀ k, (rowUp g ls p ns k).2.length ≤ ns.length + k ∧ (rowUp g ls p ns k).1.length = k
  | 0 => ⟨Nat.le_refl _, rfl⟩
  | k + 1 => by
    obtain ⟨h1, h2⟩ := rowUp_len g ls p ns k
    have h3 := rowStep_len g ls p k (rowUp g ls p ns k).2
    refine ⟨Nat.le_trans h3 (by omega), ?_⟩
    show ((rowUp g ls p ns k).1 ++ [_]).length = _
    rw [List.length_append, h2]
    rfl
theorem rowUp_pre (g : Gm) (ls : Lost) (p : Pair) (ns : List Pair) : ∀ k, ns <+: (rowUp g ls p ns k).2
  | 0 => List.prefix_rfl
  | k + 1 => (rowUp_pre g ls p ns k).trans (rowStep_pre g ls p k _)
theorem losing_none {g : Gm} {ls : Lost} {p : Pair} (h : g.losingIn ls p = none) {k a : Nat} (hk : k < g.ins) (ha : g.asked p k = some a) : ∃ x, (g.behind p k)[(g.behind p k).findIdx (keptB ls)]? = some (some x) ∧ isLost ls x = false := by
  have hm : k ∈ g.insAt p := by
    unfold Gm.insAt
    exact List.mem_filter.mpr ⟨List.mem_range.mpr hk, by rw [ha]; rfl⟩
  have h1 := List.find?_eq_none.mp h k hm
  have h2 : ∃ x ∈ g.behind p k, keptB ls x = true := by
    refine Classical.byContradiction fun hn => h1 (List.all_eq_true.mpr fun x hx => ?_)
    have : ¬ keptB ls x = true := fun z => hn ⟨x, hx, z⟩
    rw [kept_not] at this
    simpa using this
  have hl := List.findIdx_lt_length_of_exists h2
  have hg := List.findIdx_getElem (p := keptB ls) (w := hl)
  rw [List.getElem?_eq_getElem hl]
  generalize (g.behind p k)[List.findIdx (keptB ls) (g.behind p k)] = y at *
  cases y with
  | none => cases hg
  | some x => exact ⟨x, rfl, by simpa [keptB] using hg⟩
section
variable {G : GC} {L : LC G} {ρ : Rho G} {pos : Pos} {e : Expr} {C : Addr}
theorem scRowOf : FnScope ["game", "pair", "number", "outs", "found", "given", "after", "told", "one"] ["game", "pair", "number"] (defScope (topS 62)) := ⟨rfl, rfl, rfl, by decide +kernel, rfl, by decide +kernel, by decide +kernel⟩
def RRowOf (G : GC) (C : Addr) : RelM G := fun ps own Pw => ∃ (g : Gm) (ls : Lost) (p : Pair) (ns : List Pair) (a : Addr), g.Ok ∧ g.In p ∧ p ∈ ns ∧ ns.length ≤ 50000 ∧ g.losingIn ls p = none ∧ ps = [gmP C g (dctP true (lostD ls)), dat (pairD p), refP a] ∧ own = [(a, .dct true (placeD pairD ns))] ∧
  Pw = fun r ρ' => r = dat (rowD g.l (rowUp g ls p ns g.ins).1) ∧ ρ'.ow = [(a, .dct true (placeD pairD (rowUp g ls p ns g.ins).2))]
theorem fn_row_of (B : Bs G) (K : GameT G C) (F : FunT G 62 "row_of" ["game", "pair", "number"]) (D1 : MtD G 3 C "behind" ["self", "pair", "given"] (RBehind G C)) (D2 : MtD G 2 C "asked" ["self", "pair", "given"] (RAsked G C)) (D3 : MtD G 1 C "is_kept" ["self", "pair"] (RIsKept G C)) :
    FnM G 4 "row_of" ["game", "pair", "number"] (RRowOf G C) := by
  refine mk_defM (k := 3) F scRowOf (fun pvs own Pw ⟨_, _, _, _, _, _, _, _, _, _, h, _⟩ => by rw [h]; rfl) fun pvs own Pw ⟨g, ls, p, ns, a, hg, hp, hpn, hnl, hls, h1, h2, h3⟩ f cd A outer s H E hr => ?_
  subst h1 h2 h3
  have i3 : g.ins ≤ 3 := hg.l.i3
  have o3 : g.outs ≤ 3 := hg.l.o3
  have o1 : 0 < g.outs := hg.l.o1
  have bl : ∀ k, (g.behind p k).length = g.outs := fun k => by unfold Gm.behind; rw [List.length_map, List.length_range]
  have outAt : ∀ k, k < g.outs → atI (g.l.outs.map PyData.str) (k : Nat) = some (.str (g.l.outs.getD k "")) := fun k hk => at_map (f := PyData.str) (by rw [List.getD_eq_getElem?_getD, List.getElem?_eq_getElem hk]; rfl)
  refine s_cons (s1_par2M 3 4 (am2 (e_ix (x_tup at1) (e_fld K.cls K.letters (e_var 0) rfl) e_int) (fun p ρ1 _ => em_ownL (ds := []) a_nil)) ?_)
  rintro ps ρ1 ⟨p1, ρ2, q, ⟨rfl, rfl⟩, ⟨c, rfl, rfl⟩, rfl⟩
  refine ⟨_, _, rfl, ?_⟩
  have view : ∀ (fs : List PyData) (cu : List Pair) (s5 s6 s7 : Option (PV G)), View [some (gmP C g (dctP true (lostD ls))), some (dat (pairD p)), some (refP a), some (dat (strsD g.l.outs)), some (refP c), s5, s6, s7, none] [(c, .lst fs), (a, .dct true (placeD pairD cu))]
      (([some (gmP C g (dctP true (lostD ls))), some (dat (pairD p)), some (dctP true (placeD pairD cu)), some (dat (strsD g.l.outs)), some (refP c), s5, s6, s7, none] : List (Option (PV G)))) := fun fs cu s5 s6 s7 => View.refl.set 2 rfl (imp_dct (by simp))
  refine s_cons (s1_forN (ds := rngD g.ins) 5 (i_rngM B.range (by omega) (EvD.cI (e_lenT B (e_ix (x_tup at0) (e_fld K.cls K.letters (e_var 0) rfl) e_int)) (show _ = ((g.ins : Nat) : Int) by unfold Gm.ins; rw [List.length_map])))
    (fun k ρ => ∃ s5 s6 s7, ρ = ⟨[some (gmP C g (dctP true (lostD ls))), some (dat (pairD p)), some (refP a), some (dat (strsD g.l.outs)), some (refP c), s5, s6, s7, none], [(c, .lst ((rowUp g ls p ns k).1.map (cellD g.l))), (a, .dct true (placeD pairD (rowUp g ls p ns k).2))]⟩) ⟨none, none, none, rfl⟩ ?_ ?_)
  · rintro k d ρ1 hd ⟨s5, s6, s7, rfl⟩
    obtain ⟨hk, rfl⟩ := rngD_get hd
    obtain ⟨r1, r2⟩ := rowUp_len g ls p ns k
    have hpc : p ∈ (rowUp g ls p ns k).2 := (rowUp_pre g ls p ns k).subset hpn
    have eu : rowUp g ls p ns (k + 1) = ((rowUp g ls p ns k).1 ++ [(rowStep g ls p k (rowUp g ls p ns k).2).1], (rowStep g ls p k (rowUp g ls p ns k).2).2) := rfl
    rw [eu]
    generalize rowUp g ls p ns k = cur at *
    obtain ⟨cells, cu⟩ := cur
    dsimp only at r1 r2 hpc ⊢
    cases ha : g.asked p k with
    | none =>
      have est : rowStep g ls p k cu = ((0, ix cu p), cu) := by unfold rowStep; rw [ha]
      rw [est]
      have dg := dget_place pairD_inj cu p
      rw [if_pos hpc] at dg
      refine s_cons (s1_if (t := true) (t_cmp c_isN (EvD.cast (e_meth K.cls D2 (show 2 ≤ 3 by decide) (e_var 0) rfl (a_cons (e_var 1) (a_cons (e_var 5) a_nil)) ⟨g, _, p, k, hg, hp, hk, rfl, rfl⟩) (by rw [ha])) e_non) (fun _ => ?_) (fun h => nomatch h))
      refine s_cons (s1_append 0 (d := cellD g.l (0, ix cu p)) (e_var 4) rfl (e_tup (ds := [.str (g.l.outs.getD 0 ""), natD (ix cu p)]) (a_cons (e_ix (x_tup (outAt 0 o1)) (e_var 3) e_int) (a_cons (e_own (view _ cu _ _ _) (e_ix (x_dct (pairD_key p) dg) (e_var 2) (e_var 1)) rfl) a_nil))) (by rw [List.length_map]; omega) (s_nil (s_nil ⟨some (dat (natD k)), s6, s7, ?_⟩)))
      rw [List.map_append]
      rfl
    | some av =>
      obtain ⟨x, hx, hxl⟩ := losing_none hls hk ha
      have est : rowStep g ls p k cu = (((g.behind p k).findIdx (keptB ls), ix (visit cu [some x]) x), visit cu [some x]) := by unfold rowStep; rw [ha]; dsimp only; rw [hx]
      rw [est]
      have hj : (g.behind p k).findIdx (keptB ls) < g.outs := by rw [← bl k]; exact (List.getElem?_eq_some_iff.mp hx).1
      have hno : ∀ m, m < (g.behind p k).findIdx (keptB ls) → ∀ y, (g.behind p k)[m]? = some y → keptB ls y = false := fun m hm y hy => by
        have h1 := List.not_of_lt_findIdx hm
        have h2 := (List.getElem?_eq_some_iff.mp hy)
        obtain ⟨h3, h4⟩ := h2
        rw [h4] at h1
        simpa using h1
      have bln := bl k
      generalize (g.behind p k).findIdx (keptB ls) = j at *
      refine s_cons (s1_if (t := false) (t_cmp c_isN (EvD.cast (e_meth K.cls D2 (show 2 ≤ 3 by decide) (e_var 0) rfl (a_cons (e_var 1) (a_cons (e_var 5) a_nil)) ⟨g, _, p, k, hg, hp, hk, rfl, rfl⟩) (by rw [ha])) e_non) (fun h => nomatch h) fun _ => ?_)
      refine s_cons (s1_set 6 (e_meth K.cls D1 (Nat.le_refl _) (e_var 0) rfl (a_cons (e_var 1) (a_cons (e_var 5) a_nil)) ⟨g, _, p, k, av, hg, hp, hk, ha, rfl, rfl⟩) ?_)
      refine s_cons (s1_set 7 (e_index (ds := (g.behind p k).map fun y => .bool (keptB ls y)) (d := .bool true) (zd := .bool true) (j := j) (LcR.ev <| lcN (own := [("one", 8)]) (ds := (g.behind p k).map optP) 8 _ (i_lst (e_var 6)) (blk_body (by decide +kernel)) (by simp) (by rw [List.length_map]; omega) fun s H C' ce fp k2 d g' hd' hg' => ?_) e_tru ((lay_lst (n := 0) (fun d hd => ?_)).mono (by decide)).shaped lay_bool.shaped ?_ (by simp [PyData.eqv]) ?_) ?_)
      · obtain ⟨y, hy, rfl⟩ := map_get hd'
        obtain ⟨y2, hy2, rfl⟩ := map_get hg'
        rw [hy] at hy2
        cases hy2
        exact e_meth K.cls D3 (show 1 ≤ 3 by decide) (e_var 0) rfl (a_cons (e_var 8) a_nil) ⟨g, ls, y, hg, rfl, rfl⟩
      · obtain ⟨y, _, rfl⟩ := List.mem_map.mp hd
        exact lay_bool
      · rw [List.getElem?_map, hx]
        show some (PyData.bool (!isLost ls x)) = _
        rw [hxl]
        rfl
      · intro m z' hm hz'
        obtain ⟨y, hy, rfl⟩ := map_get hz'
        rw [hno m hm y hy]
        simp [PyData.eqv]
      have dg := dget_place pairD_inj cu x
      refine s_cons (s1_setd 1 (pairD_key x) (e_var 2) (e_ix (x_lst (at_map (f := optP) hx)) (e_var 6) (e_var 7)) (e_own (view _ cu _ _ _) (EvD.cI (e_lenD B (e_var 2)) (show _ = ((cu.length : Nat) : Int) by rw [place_len])) rfl) rfl (by rw [place_len]; omega) (fun hs => ?_) fun hs => ?_)
      · rw [dg] at hs
        have hxc : x ∈ cu := by
          by_cases hxc : x ∈ cu
          · exact hxc
          · rw [if_neg hxc] at hs; cases hs
        have e : cu = visit cu [some x] := (if_pos hxc).symm
        rw [show (placeD pairD cu) = placeD pairD (visit cu [some x]) from congrArg _ e]
        have hxv := visit1_mem cu x
        generalize visit cu [some x] = cv at *
        have dv := dget_place pairD_inj cv x
        rw [if_pos hxv] at dv
        refine s_cons (s1_append 0 (d := cellD g.l (j, ix cv x)) (e_var 4) rfl (e_tup (ds := [.str (g.l.outs.getD j ""), natD (ix cv x)]) (a_cons (e_ix (x_tup (outAt j hj)) (e_var 3) (e_var 7)) (a_cons (e_own (view _ cv _ _ _) (e_ix (x_dct (pairD_key x) dv) (e_var 2) (e_ix (x_lst (at_map (f := optP) hx)) (e_var 6) (e_var 7))) rfl) a_nil))) (by rw [List.length_map]; omega) (s_nil (s_nil ⟨some (dat (natD k)), some (dat (.list ((g.behind p k).map optP))), some (dat (natD j)), ?_⟩)))
        rw [List.map_append]
        rfl
      · rw [dg] at hs
        have hxc : x ∉ cu := fun hxc => by rw [if_pos hxc] at hs; cases hs
        have e : visit cu [some x] = cu ++ [x] := if_neg hxc
        have e2 : placeD pairD cu ++ [(pairD x, .int (cu.length : Nat))] = placeD pairD (visit cu [some x]) := by rw [e, placeD_snoc]
        show StD _ ⟨_, [(c, .lst (cells.map (cellD g.l))), (a, .dct true (placeD pairD cu ++ [(pairD x, .int (cu.length : Nat))]))]⟩ _ _
        rw [e2]
        have hxv := visit1_mem cu x
        generalize visit cu [some x] = cv at *
        have dv := dget_place pairD_inj cv x
        rw [if_pos hxv] at dv
        refine s_cons (s1_append 0 (d := cellD g.l (j, ix cv x)) (e_var 4) rfl (e_tup (ds := [.str (g.l.outs.getD j ""), natD (ix cv x)]) (a_cons (e_ix (x_tup (outAt j hj)) (e_var 3) (e_var 7)) (a_cons (e_own (view _ cv _ _ _) (e_ix (x_dct (pairD_key x) dv) (e_var 2) (e_ix (x_lst (at_map (f := optP) hx)) (e_var 6) (e_var 7))) rfl) a_nil))) (by rw [List.length_map]; omega) (s_nil (s_nil ⟨some (dat (natD k)), some (dat (.list ((g.behind p k).map optP))), some (dat (natD j)), ?_⟩)))
        rw [List.map_append]
        rfl
  · rintro ρ1 ⟨s5, s6, s7, rfl⟩
    rw [rngD_len]
    refine st_frz Part.first (View.refl.set 4 rfl (imp_lst (ds := (rowUp g ls p ns g.ins).1.map (cellD g.l)) (by simp))) ?_
    exact s_cons (s1_ret (e_tuple B (e_var 4)) ⟨rfl, rfl⟩)
end
end MR
/-! T26: made. -/
namespace MR
open PySem PySem.Spec PyProof.Rows L2
theorem settle_end {g : Gm} {o : List Pair} {n : Nat} {ls f : Lost} (h : Settle g o n ls f) {p : Pair} (hp : p ∈ o) (hl : isLost f p = false) : g.losingIn f p = none := by
  induction h with
  | @done n ls e =>
    unfold roundOf at e
    have := List.filterMap_eq_nil_iff.mp e p hp
    rw [hl] at this
    cases hk : g.losingIn ls p with
    | none => rfl
    | some k => rw [hk] at this; cases this
  | step _ _ ih => exact ih hl
/-- rows are made, m to go -/
inductive MkG (g : Gm) (ls : Lost) : Nat → List (List (Nat × Nat)) → List Pair → List (List (Nat × Nat)) → Prop
  | done {rows ns} : ns.length ≤ rows.length → MkG g ls 0 rows ns rows
  | step {m rows ns p f} : ns[rows.length]? = some p → MkG g ls m (rows ++ [(rowUp g ls p ns g.ins).1]) (rowUp g ls p ns g.ins).2 f → MkG g ls (m + 1) rows ns f
theorem MkG.inv {g : Gm} {ls : Lost} {m : Nat} {rows : List (List (Nat × Nat))} {ns : List Pair} {f : List (List (Nat × Nat))} (h : MkG g ls m rows ns f) : (ns.length ≤ rows.length ∧ rows = f) ∨ ∃ m' p, m = m' + 1 ∧ ns[rows.length]? = some p ∧ MkG g ls m' (rows ++ [(rowUp g ls p ns g.ins).1]) (rowUp g ls p ns g.ins).2 f := by
  cases h with
  | done h => exact .inl ⟨h, rfl⟩
  | step h h2 => exact .inr ⟨_, _, rfl, h, h2⟩
inductive Made (g : Gm) (ls : Lost) : Option (List (List (Nat × Nat))) → Prop
  | lost : isLost ls (0, 0) = true → Made g ls none
  | kept {m f} : isLost ls (0, 0) = false → MkG g ls m [] [(0, 0)] f → Made g ls (some f)
def madeD (l : Lt) : Option (List (List (Nat × Nat))) → PyData
  | none => .none
  | some f => .tuple (f.map (rowD l))
/-- what the numbers keep: met, kept, each once -/
structure NsOk (o : List Pair) (P : Pair → Prop) (ns : List Pair) : Prop where
  nd : ns.Nodup
  all : ∀ p ∈ ns, p ∈ o ∧ P p
theorem NsOk.len {o : List Pair} {P : Pair → Prop} {ns : List Pair} (h : NsOk o P ns) : ns.length ≤ o.length := nodup_le o h.nd fun p hp => (h.all p hp).1
theorem NsOk.visit {o : List Pair} {P : Pair → Prop} {ns : List Pair} (h : NsOk o P ns) {bs : List (Option Pair)} (hb : ∀ x, some x ∈ bs → x ∈ o ∧ P x) : NsOk o P (visit ns bs) := ⟨visit_nodup h.nd, fun p hp => by
  rcases visit_mem.mp hp with hp | hp
  · exact h.all p hp
  · exact hb p hp⟩
theorem behind_succ {g : Gm} {p : Pair} {k a : Nat} (hk : k < g.ins) (ha : g.asked p k = some a) {x : Pair} (hx : some x ∈ g.behind p k) : some x ∈ g.succ p :=
  List.mem_flatMap.mpr ⟨k, List.mem_filter.mpr ⟨List.mem_range.mpr hk, by rw [ha]; rfl⟩, hx⟩
theorem NsOk.rowUp {g : Gm} {ls : Lost} {o : List Pair} (hb : Bfs g.succ [(0, 0)] 0 o) {p : Pair} (hp : p ∈ o) (hl : g.losingIn ls p = none) {ns : List Pair} (h : NsOk o (fun q => isLost ls q = false) ns) : ∀ k, k ≤ g.ins → NsOk o (fun q => isLost ls q = false) (rowUp g ls p ns k).2
  | 0, _ => h
  | k + 1, hk => by
    have ih := NsOk.rowUp hb hp hl h k (by omega)
    show NsOk o _ (rowStep g ls p k (MR.rowUp g ls p ns k).2).2
    generalize (MR.rowUp g ls p ns k).2 = cu at *
    cases ha : g.asked p k with
    | none => unfold rowStep; rw [ha]; exact ih
    | some a =>
      obtain ⟨x, hx, hxl⟩ := losing_none hl (by omega) ha
      unfold rowStep
      rw [ha]
      dsimp only
      rw [hx]
      exact ih.visit fun y hy => by
        have : y = x := by simpa using hy
        subst this
        exact ⟨hb.mem p hp y (behind_succ (by omega) ha (List.mem_of_getElem? hx)), hxl⟩
theorem mkg_ex {g : Gm} {ls : Lost} {o : List Pair} (hb : Bfs g.succ [(0, 0)] 0 o) (he : ∀ p ∈ o, isLost ls p = false → g.losingIn ls p = none) : ∀ (m : Nat) (rows : List (List (Nat × Nat))) (ns : List Pair), NsOk o (fun q => isLost ls q = false) ns → o.length - rows.length ≤ m → ∃ m' f, MkG g ls m' rows ns f := by
  intro m
  induction m with
  | zero =>
    intro rows ns h hm
    have := h.len
    exact ⟨0, rows, .done (by omega)⟩
  | succ m ih =>
    intro rows ns h hm
    have hl := h.len
    by_cases hr : ns.length ≤ rows.length
    · exact ⟨0, rows, .done hr⟩
    · have hlt : rows.length < ns.length := by omega
      obtain ⟨ho, hk⟩ := h.all _ (List.getElem_mem hlt)
      obtain ⟨m', f, hf⟩ := ih (rows ++ [(rowUp g ls ns[rows.length] ns g.ins).1]) (rowUp g ls ns[rows.length] ns g.ins).2 (h.rowUp hb ho (he _ ho hk) g.ins (Nat.le_refl _)) (by rw [List.length_append]; simp; omega)
      exact ⟨m' + 1, f, .step (List.getElem?_eq_getElem hlt) hf⟩
theorem made_ex {l : Lt} {range ss : List Sen} {g : Gm} {ls : Lost} (h : Plays l range ss g ls) : ∃ out, Made g ls out := by
  obtain ⟨o, hb, hs⟩ := h.lost
  cases e : isLost ls (0, 0) with
  | true => exact ⟨none, .lost e⟩
  | false =>
    have h0 : (0, 0) ∈ o := hb.pre.1.subset List.mem_cons_self
    obtain ⟨m, f, hf⟩ := mkg_ex hb (fun p hp hl => settle_end hs hp hl) o.length [] [(0, 0)] ⟨by simp, fun p hp => by rw [List.mem_singleton.mp hp]; exact ⟨h0, e⟩⟩ (by simp)
    exact ⟨some f, .kept e hf⟩
theorem place_keys {σ : Type} (enc : σ → PyData) (o : List σ) : (placeD enc o).map (·.1) = o.map enc := by
  refine List.ext_getElem? fun i => ?_
  unfold placeD
  rw [List.getElem?_map, List.getElem?_mapIdx, List.getElem?_map]
  cases o[i]? <;> rfl
section
variable {G : GC} {L : LC G} {ρ : Rho G} {pos : Pos} {e : Expr} {C : Addr}
theorem scMade : FnScope ["standard", "claims", "game", "number", "rows"] ["standard", "claims"] (defScope (topS 63)) := ⟨rfl, rfl, rfl, by decide +kernel, rfl, by decide +kernel, by decide +kernel⟩
def RMade (G : GC) : Rel G := fun ps r => ∃ (S : Std) (cs : List Str) (g : Gm) (ls : Lost) (out : Option (List (List (Nat × Nat)))), S.Ok ∧ ClaimsOk cs ∧ Plays S.l S.range (sensOf S.cl cs) g ls ∧ Made g ls out ∧ ps = [dat S.enc, dat (strsD cs)] ∧ r = dat (madeD S.l out)
theorem fn_made (B : Bs G) (Q : Cs G) (K : GameT G C) (F : FunTK G (topS 63) "made" ["standard", "claims"] 1 ["claims"]) (D1 : FnD G 13 "need_claimed" ["standard", "claims"] (RNeedCd G)) (D2 : FnD G 14 "game_of" ["standard", "claims"] (RGameOf G C)) (D3 : MtD G 1 C "is_kept" ["self", "pair"] (RIsKept G C)) (D4 : FnM G 4 "row_of" ["game", "pair", "number"] (RRowOf G C)) :
    FnK G 15 "made" ["standard", "claims"] 1 ["claims"] (RMade G) := by
  refine mk_defK (k := 14) F scMade (fun pvs r ⟨_, _, _, _, _, _, _, _, _, h, _⟩ => by rw [h]; rfl) fun pvs r ⟨S, cs, g, ls, out, hS, hc, hp, hm, h1, h2⟩ f cd A outer s H E hr => ?_
  subst h1 h2
  have hgl := hp.hl
  have hg := hp.ok
  obtain ⟨o, hb, ol, _, hset⟩ := hp.met G.w
  have oIn : ∀ x ∈ o, g.In x := hb.all g.In (fun s hs x hx => hs.succ hg hx) fun x hx => by rw [List.mem_singleton.mp hx]; exact .begin_ hg
  refine s_cons (s1_drop (e_call D1 (show 13 ≤ 14 by decide) (a_cons (e_var 0) (a_cons (e_var 1) a_nil)) ⟨S, cs, hS, hc, rfl, rfl⟩) ?_)
  refine s_cons (s1_par3M 2 3 4 (am3 (e_call D2 (Nat.le_refl _) (a_cons (e_var 0) (a_cons (e_var 1) a_nil)) (hp.game hS)) (fun p ρ1 h => em_ownD1 (dk := pairD (0, 0)) (dv := .int (0 : Nat)) true (pairD_key _) (fun _ => e_begin Q) (fun _ => e_int)) (fun p ρ1 q ρ2 _ _ => em_ownL (ds := []) a_nil)) ?_)
  rintro ps ρ1 ⟨p, ρ2, q', ρ3, r, ⟨rfl, rfl⟩, ⟨a, rfl, rfl⟩, ⟨b, rfl, rfl⟩, rfl⟩
  refine ⟨_, _, _, rfl, ?_⟩
  refine s_cons (s1_if (t := isLost ls (0, 0)) (EvT.cast (t_not (t_val (e_meth K.cls D3 (show 1 ≤ 14 by decide) (e_var 2) rfl (a_cons (e_begin Q) a_nil) ⟨g, ls, some (0, 0), hp.ok, rfl, rfl⟩))) (by show (!!isLost ls (0, 0)) = _; rw [Bool.not_not])) (fun ht => ?_) fun hf => s_nil ?_)
  · cases hm with
    | lost _ => exact s_cons (s1_ret e_non rfl)
    | kept h _ => rw [h] at ht; cases ht
  · cases hm with
    | lost h => rw [h] at hf; cases hf
    | @kept m0 f hk0 hmk =>
      have h0 : (0, 0) ∈ o := hb.pre.1.subset List.mem_cons_self
      have view : ∀ (rs : List PyData) (cu : List Pair), View [some (dat S.enc), some (dat (strsD cs)), some (gmP C g (dctP true (lostD ls))), some (refP a), some (refP b)] [(b, .lst rs), (a, .dct true (placeD pairD cu))]
          (([some (dat S.enc), some (dat (strsD cs)), some (gmP C g (dctP true (lostD ls))), some (dctP true (placeD pairD cu)), some (dat (.list rs))] : List (Option (PV G)))) := fun rs cu => (View.refl.set 4 rfl (imp_lst (by simp))).set 3 rfl (imp_dct (by simp))
      refine s_cons (s1_while (fun m ρ => ∃ (rows : List (List (Nat × Nat))) (ns : List Pair), MkG g ls m rows ns f ∧ rows.length ≤ 1000 ∧ NsOk o (fun q => isLost ls q = false) ns ∧ ρ = ⟨[some (dat S.enc), some (dat (strsD cs)), some (gmP C g (dctP true (lostD ls))), some (refP a), some (refP b)], [(b, .lst (rows.map (rowD g.l))), (a, .dct true (placeD pairD ns))]⟩)
        ⟨m0, [], [(0, 0)], hmk, Nat.zero_le _, ⟨by simp, fun p hp => by rw [List.mem_singleton.mp hp]; exact ⟨h0, hk0⟩⟩, rfl⟩ ?_)
      rintro m ρ1 ⟨rows, ns, hmk, rl, hns, rfl⟩
      have nl := hns.len
      refine ⟨decide (rows.length < ns.length), t_own (view _ ns) (EvT.cast (t_cmp c_lt (e_lenL B (e_var 4)) (e_lenD B (e_var 3))) (by rw [List.length_map, place_len]; exact decide_eq_decide.mpr (by omega))), fun ht => ?_, fun hf => ?_⟩
      · have ht : rows.length < ns.length := of_decide_eq_true ht
        rcases hmk.inv with ⟨h, _⟩ | ⟨m', p, e, hpn, hmk'⟩
        · omega
        subst e
        obtain ⟨hpo, hpl⟩ := hns.all p (List.mem_of_getElem? hpn)
        have hls := settle_end hset hpo hpl
        have hns' := hns.rowUp hb hpo hls g.ins (Nat.le_refl _)
        refine s_cons (s1_appendM 0 0 (e_var 4) rfl (em_callR (own := [(a, .dct true (placeD pairD ns))]) (rest := [(b, .lst (rows.map (rowD g.l)))]) D4 (show 4 ≤ 14 by decide) (a_cons (e_var 2) (a_cons (e_own (view _ ns) (e_ix (x_lst (at_map (f := pairD) hpn)) (EvD.cast (e_listD B (e_var 3)) (by rw [place_keys])) (EvD.cI (e_lenL B (e_var 4)) (by rw [List.length_map]))) rfl) (a_cons (e_var 3) a_nil))) (List.Perm.swap _ _ _) ⟨g, ls, p, ns, a, hg, oIn p hpo, List.mem_of_getElem? hpn, by omega, hls, rfl, rfl, rfl⟩) (by rw [List.length_map]; omega) ?_)
        · rintro p1 ρ1 ⟨ρc, ⟨rfl, e2⟩, rfl⟩
          refine ⟨_, rfl, rfl, ?_⟩
          rw [e2]
          refine s_nil ⟨m', by omega, rows ++ [(rowUp g ls p ns g.ins).1], _, hmk', by rw [List.length_append]; simp; omega, hns', ?_⟩
          rw [List.map_append]
          rfl
      · have hf : ¬ rows.length < ns.length := of_decide_eq_false hf
        rcases hmk.inv with ⟨_, e⟩ | ⟨m', p, e, hpn, _⟩
        · subst e
          refine st_frz Part.all (view _ ns) ?_
          refine s_cons (s1_ret (e_tuple B (e_var 4)) ?_)
          rw [hgl]
          rfl
        · exact absurd (List.getElem?_eq_some_iff.mp hpn).1 hf
end
end MR
/-! T27: asker. -/
namespace MR
open PySem PySem.Spec PyProof.Rows L2
/-- a lost pair's in is in range, all behind it is lost -/
def LostGood (g : Gm) (ls : Lost) : Prop := ∀ p n i, ls.lookup p = some (n, i) → i ∈ g.insAt p ∧ (g.behind p i).all (lostB ls) = true
theorem lostB_mono {ls ms : Lost} {x : Option Pair} (h : lostB ls x = true) : lostB (ls ++ ms) x = true := by
  cases x with
  | none => rfl
  | some x =>
    show isLost (ls ++ ms) x = true
    have h : isLost ls x = true := h
    unfold isLost at h ⊢
    rw [look_app]
    cases e : ls.lookup x with
    | none => rw [e] at h; cases h
    | some v => rfl
theorem look_mem {p : Pair} {v : Pair} : ∀ {l : Lost}, l.lookup p = some v → (p, v) ∈ l
  | (y, u) :: l, h => by
    rw [List.lookup_cons] at h
    by_cases e : p = y
    · subst e
      simp at h
      rw [h]
      exact List.mem_cons_self
    · have : (p == y) = false := by simpa using e
      rw [this] at h
      exact List.mem_cons_of_mem _ (look_mem h)
theorem LostGood.round {g : Gm} {ls : Lost} {n : Nat} {o : List Pair} (h : LostGood g ls) : LostGood g (ls ++ roundOf g ls n o) := fun p m i e => by
  rw [look_app] at e
  have key : i ∈ g.insAt p ∧ (g.behind p i).all (lostB ls) = true := by
    cases e1 : ls.lookup p with
    | some v =>
      rw [e1] at e
      cases e
      exact h p m i e1
    | none =>
      rw [e1] at e
      have e : (roundOf g ls n o).lookup p = some (m, i) := e
      have hm := look_mem e
      unfold roundOf at hm
      obtain ⟨q, _, hq⟩ := List.mem_filterMap.mp hm
      split at hq
      · cases hq
      · cases hk : g.losingIn ls q with
        | none => rw [hk] at hq; cases hq
        | some k =>
          rw [hk] at hq
          cases hq
          exact ⟨List.mem_of_find?_eq_some hk, List.find?_some (p := fun given => (g.behind p given).all (lostB ls)) hk⟩
  exact ⟨key.1, List.all_eq_true.mpr fun x hx => lostB_mono (List.all_eq_true.mp key.2 x hx)⟩
theorem Settle.good {g : Gm} {o : List Pair} {n : Nat} {ls f : Lost} (h : Settle g o n ls f) : LostGood g ls → LostGood g f := by
  induction h with
  | done _ => exact id
  | step _ _ ih => exact fun h => ih h.round
theorem good_nil (g : Gm) : LostGood g [] := fun _ _ _ h => by cases h
inductive AkG (g : Gm) (ls : Lost) : Nat → List (Nat × List (Option Nat)) → List Pair → List (Nat × List (Option Nat)) → Prop
  | done {rows ns} : ns.length ≤ rows.length → AkG g ls 0 rows ns rows
  | step {m rows ns p n i f} : ns[rows.length]? = some p → ls.lookup p = some (n, i) → AkG g ls m (rows ++ [(i, toRow (visit ns (g.behind p i)) (g.behind p i))]) (visit ns (g.behind p i)) f → AkG g ls (m + 1) rows ns f
theorem AkG.inv {g : Gm} {ls : Lost} {m : Nat} {rows : List (Nat × List (Option Nat))} {ns : List Pair} {f : List (Nat × List (Option Nat))} (h : AkG g ls m rows ns f) : (ns.length ≤ rows.length ∧ rows = f) ∨ ∃ m' p n i, m = m' + 1 ∧ ns[rows.length]? = some p ∧ ls.lookup p = some (n, i) ∧ AkG g ls m' (rows ++ [(i, toRow (visit ns (g.behind p i)) (g.behind p i))]) (visit ns (g.behind p i)) f := by
  cases h with
  | done h => exact .inl ⟨h, rfl⟩
  | step h h1 h2 => exact .inr ⟨_, _, _, _, rfl, h, h1, h2⟩
inductive Asks (g : Gm) (ls : Lost) : Option (List (Nat × List (Option Nat))) → Prop
  | kept : isLost ls (0, 0) = false → Asks g ls none
  | lost {m f} : isLost ls (0, 0) = true → AkG g ls m [] [(0, 0)] f → Asks g ls (some f)
def askD (l : Lt) (r : Nat × List (Option Nat)) : PyData := .tuple [.str (l.ins.getD r.1 ""), .tuple (r.2.map optD)]
def asksD (l : Lt) : Option (List (Nat × List (Option Nat))) → PyData
  | none => .none
  | some f => .tuple (f.map (askD l))
theorem isLost_some {ls : Lost} {p : Pair} (h : isLost ls p = true) : ∃ n i, ls.lookup p = some (n, i) := by
  unfold isLost at h
  cases e : ls.lookup p with
  | none => rw [e] at h; cases h
  | some v => exact ⟨v.1, v.2, rfl⟩
theorem NsOk.ask {g : Gm} {ls : Lost} {o : List Pair} (hb : Bfs g.succ [(0, 0)] 0 o) (hgd : LostGood g ls) {p : Pair} (hp : p ∈ o) {n i : Nat} (e : ls.lookup p = some (n, i)) {ns : List Pair} (h : NsOk o (fun q => isLost ls q = true) ns) : NsOk o (fun q => isLost ls q = true) (MR.visit ns (g.behind p i)) :=
  h.visit fun x hx => by
    obtain ⟨h1, h2⟩ := hgd p n i e
    obtain ⟨h3, a, h4⟩ := insAt_mem h1
    exact ⟨hb.mem p hp x (behind_succ h3 h4 hx), List.all_eq_true.mp h2 _ hx⟩
theorem akg_ex {g : Gm} {ls : Lost} {o : List Pair} (hb : Bfs g.succ [(0, 0)] 0 o) (hgd : LostGood g ls) : ∀ (m : Nat) (rows : List (Nat × List (Option Nat))) (ns : List Pair), NsOk o (fun q => isLost ls q = true) ns → o.length - rows.length ≤ m → ∃ m' f, AkG g ls m' rows ns f := by
  intro m
  induction m with
  | zero =>
    intro rows ns h hm
    have := h.len
    exact ⟨0, rows, .done (by omega)⟩
  | succ m ih =>
    intro rows ns h hm
    have hl := h.len
    by_cases hr : ns.length ≤ rows.length
    · exact ⟨0, rows, .done hr⟩
    · have hlt : rows.length < ns.length := by omega
      obtain ⟨ho, hk⟩ := h.all _ (List.getElem_mem hlt)
      obtain ⟨n, i, e⟩ := isLost_some hk
      obtain ⟨m', f, hf⟩ := ih (rows ++ [(i, toRow (visit ns (g.behind ns[rows.length] i)) (g.behind ns[rows.length] i))]) (visit ns (g.behind ns[rows.length] i)) (h.ask hb hgd ho e) (by rw [List.length_append]; simp; omega)
      exact ⟨m' + 1, f, .step (List.getElem?_eq_getElem hlt) e hf⟩
theorem asks_ex {l : Lt} {range ss : List Sen} {g : Gm} {ls : Lost} (h : Plays l range ss g ls) : ∃ out, Asks g ls out := by
  obtain ⟨o, hb, hs⟩ := h.lost
  cases e : isLost ls (0, 0) with
  | false => exact ⟨none, .kept e⟩
  | true =>
    have h0 : (0, 0) ∈ o := hb.pre.1.subset List.mem_cons_self
    obtain ⟨m, f, hf⟩ := akg_ex hb (hs.good (good_nil g)) o.length [] [(0, 0)] ⟨by simp, fun p hp => by rw [List.mem_singleton.mp hp]; exact ⟨h0, e⟩⟩ (by simp)
    exact ⟨some f, .lost e hf⟩
theorem keyable_ask (l : Lt) (r : Nat × List (Option Nat)) : keyable (askD l r) = true := by
  show (true && (keyables (r.2.map optD) && true)) = true
  rw [keyables_map keyable_opt]
  rfl
section
variable {G : GC} {L : LC G} {ρ : Rho G} {pos : Pos} {e : Expr} {C : Addr}
theorem scAsker : FnScope ["standard", "claims", "game", "number", "rows", "pair", "given", "after", "one"] ["standard", "claims"] (defScope (topS 64)) := ⟨rfl, rfl, rfl, by decide +kernel, rfl, by decide +kernel, by decide +kernel⟩
def RAsker (G : GC) : Rel G := fun ps r => ∃ (S : Std) (cs : List Str) (g : Gm) (ls : Lost) (out : Option (List (Nat × List (Option Nat)))), S.Ok ∧ ClaimsOk cs ∧ Plays S.l S.range (sensOf S.cl cs) g ls ∧ Asks g ls out ∧ ps = [dat S.enc, dat (strsD cs)] ∧ r = dat (asksD S.l out)
theorem fn_asker (B : Bs G) (Q : Cs G) (K : GameT G C) (F : FunTK G (topS 64) "asker" ["standard", "claims"] 1 ["claims"]) (D1 : FnD G 13 "need_claimed" ["standard", "claims"] (RNeedCd G)) (D2 : FnD G 14 "game_of" ["standard", "claims"] (RGameOf G C)) (D3 : MtD G 1 C "is_kept" ["self", "pair"] (RIsKept G C)) (D4 : MtD G 3 C "behind" ["self", "pair", "given"] (RBehind G C)) :
    FnK G 15 "asker" ["standard", "claims"] 1 ["claims"] (RAsker G) := by
  refine mk_defK (k := 14) F scAsker (fun pvs r ⟨_, _, _, _, _, _, _, _, _, h, _⟩ => by rw [h]; rfl) fun pvs r ⟨S, cs, g, ls, out, hS, hc, hp, hm, h1, h2⟩ f cd A outer s H E hr => ?_
  subst h1 h2
  have hgl := hp.hl
  have hg := hp.ok
  obtain ⟨o, hb, ol, _, hset⟩ := hp.met G.w
  have hgd := hset.good (good_nil g)
  have o3 : g.outs ≤ 3 := hg.l.o3
  have bl : ∀ p k, (g.behind p k).length = g.outs := fun p k => by unfold Gm.behind; rw [List.length_map, List.length_range]
  have oIn : ∀ x ∈ o, g.In x := hb.all g.In (fun s hs x hx => hs.succ hg hx) fun x hx => by rw [List.mem_singleton.mp hx]; exact .begin_ hg
  have inAt : ∀ k, k < g.ins → atI (g.l.ins.map PyData.str) (k : Nat) = some (.str (g.l.ins.getD k "")) := fun k hk => at_map (f := PyData.str) (by rw [List.getD_eq_getElem?_getD, List.getElem?_eq_getElem hk]; rfl)
  refine s_cons (s1_drop (e_call D1 (show 13 ≤ 14 by decide) (a_cons (e_var 0) (a_cons (e_var 1) a_nil)) ⟨S, cs, hS, hc, rfl, rfl⟩) ?_)
  refine s_cons (s1_tup3 2 3 4 (am3 (e_call D2 (Nat.le_refl _) (a_cons (e_var 0) (a_cons (e_var 1) a_nil)) (hp.game hS)) (fun p ρ1 h => em_ownD1 (dk := pairD (0, 0)) (dv := .int (0 : Nat)) true (pairD_key _) (fun _ => e_begin Q) (fun _ => e_int)) (fun p ρ1 q ρ2 _ _ => em_ownL (ds := []) a_nil)) ?_)
  rintro ps ρ1 ⟨p, ρ2, q', ρ3, r, ⟨rfl, rfl⟩, ⟨a, rfl, rfl⟩, ⟨b, rfl, rfl⟩, rfl⟩
  refine ⟨_, _, _, rfl, ?_⟩
  refine s_cons (s1_if (t := !isLost ls (0, 0)) (t_val (e_meth K.cls D3 (show 1 ≤ 14 by decide) (e_var 2) rfl (a_cons (e_begin Q) a_nil) ⟨g, ls, some (0, 0), hp.ok, rfl, rfl⟩)) (fun ht => ?_) (fun hf => s_nil ?_))
  · cases hm with
    | kept _ => exact s_cons (s1_ret e_non rfl)
    | lost h _ => rw [h] at ht; cases ht
  · cases hm with
    | kept h => rw [h] at hf; cases hf
    | @lost m0 f hk0 hmk =>
      have h0 : (0, 0) ∈ o := hb.pre.1.subset List.mem_cons_self
      have view : ∀ (rs : List PyData) (cu : List Pair) (s5 s6 s7 s8 : Option (PV G)), View [some (dat S.enc), some (dat (strsD cs)), some (gmP C g (dctP true (lostD ls))), some (refP a), some (refP b), s5, s6, s7, s8] [(b, .lst rs), (a, .dct true (placeD pairD cu))]
          (([some (dat S.enc), some (dat (strsD cs)), some (gmP C g (dctP true (lostD ls))), some (dctP true (placeD pairD cu)), some (dat (.list rs)), s5, s6, s7, s8] : List (Option (PV G)))) := fun rs cu s5 s6 s7 s8 => (View.refl.set 4 rfl (imp_lst (by simp))).set 3 rfl (imp_dct (by simp))
      refine s_cons (s1_while (fun m ρ => ∃ (rows : List (Nat × List (Option Nat))) (ns : List Pair) (s5 s6 s7 s8 : Option (PV G)), AkG g ls m rows ns f ∧ rows.length ≤ 1000 ∧ NsOk o (fun q => isLost ls q = true) ns ∧ ρ = ⟨[some (dat S.enc), some (dat (strsD cs)), some (gmP C g (dctP true (lostD ls))), some (refP a), some (refP b), s5, s6, s7, s8], [(b, .lst (rows.map (askD g.l))), (a, .dct true (placeD pairD ns))]⟩)
        ⟨m0, [], [(0, 0)], none, none, none, none, hmk, Nat.zero_le _, ⟨by simp, fun p hp => by rw [List.mem_singleton.mp hp]; exact ⟨h0, hk0⟩⟩, rfl⟩ ?_)
      rintro m ρ1 ⟨rows, ns, s5, s6, s7, s8, hmk, rl, hns, rfl⟩
      have nl := hns.len
      refine ⟨decide (rows.length < ns.length), t_own (view _ ns _ _ _ _) (EvT.cast (t_cmp c_lt (e_lenL B (e_var 4)) (e_lenD B (e_var 3))) (by rw [List.length_map, place_len]; exact decide_eq_decide.mpr (by omega))), fun ht => ?_, fun hf => ?_⟩
      · have ht : rows.length < ns.length := of_decide_eq_true ht
        rcases hmk.inv with ⟨h, _⟩ | ⟨m', p, n, i, e, hpn, hlk, hmk'⟩
        · omega
        subst e
        obtain ⟨hpo, hpl⟩ := hns.all p (List.mem_of_getElem? hpn)
        obtain ⟨hi1, hi2⟩ := hgd p n i hlk
        obtain ⟨hik, av, hav⟩ := insAt_mem hi1
        have hns' := hns.ask hb hgd hpo hlk
        have bln := bl p i
        have dg : dget (lostD ls) (pairD p) = some (pairD (n, i)) := by rw [lost_get, hlk]; rfl
        refine s_cons (s1_set 5 (e_own (view _ ns _ _ _ _) (e_ix (x_lst (at_map (f := pairD) hpn)) (EvD.cast (e_listD B (e_var 3)) (by rw [place_keys])) (EvD.cI (e_lenL B (e_var 4)) (by rw [List.length_map]))) rfl) ?_)
        refine s_cons (s1_par2 6 7 (e_ix (x_tup at1) (e_ix (x_dct (pairD_key p) dg) (e_fld K.cls K.lost (e_var 2) rfl) (e_var 5)) e_int) (e_meth K.cls D4 (show 3 ≤ 14 by decide) (e_var 2) rfl (a_cons (e_var 5) (a_cons (e_ix (x_tup at1) (e_ix (x_dct (pairD_key p) dg) (e_fld K.cls K.lost (e_var 2) rfl) (e_var 5)) e_int) a_nil)) ⟨g, _, p, i, av, hg, oIn p hpo, hik, hav, rfl, rfl⟩) ?_)
        refine s_cons (s1_forN (ds := (g.behind p i).map optP) 8 (i_lst (e_var 7)) (fun k ρ => ∃ s8, ρ = ⟨[some (dat S.enc), some (dat (strsD cs)), some (gmP C g (dctP true (lostD ls))), some (refP a), some (refP b), some (dat (pairD p)), some (dat (natD i)), some (dat (.list ((g.behind p i).map optP))), s8], [(b, .lst (rows.map (askD g.l))), (a, .dct true (placeD pairD (visit ns ((g.behind p i).take k))))]⟩) ⟨s8, rfl⟩ ?_ ?_)
        · rintro k d ρ1 hd ⟨s8, rfl⟩
          obtain ⟨x, hx, rfl⟩ := map_get hd
          have hv := visit_snoc ns (g.behind p i) k x hx
          have vl : (visit ns ((g.behind p i).take k)).length ≤ 1000 := by
            have h1 : (visit ns ((g.behind p i).take k)) <+: visit ns (g.behind p i) := by
              conv => rhs; rw [← List.take_append_drop k (g.behind p i), visit_app]
              exact visit_pre _ _
            have := h1.length_le
            have := hns'.len
            omega
          rw [hv]
          generalize visit ns ((g.behind p i).take k) = cu at *
          cases x with
          | none => exact s_cons (s1_if (t := false) (t_cmp c_notN (e_var 8) e_non) (fun h => nomatch h) fun _ => s_nil (s_nil ⟨some (dat (optP none)), rfl⟩))
          | some x =>
            have dg := dget_place pairD_inj cu x
            refine s_cons (s1_if (t := true) (t_cmp c_notN (e_var 8) e_non) (fun _ => ?_) (fun h => nomatch h))
            refine s_cons (s1_setd 1 (pairD_key x) (e_var 3) (e_var 8) (e_own (view _ cu _ _ _ _) (EvD.cI (e_lenD B (e_var 3)) (show _ = ((cu.length : Nat) : Int) by rw [place_len])) rfl) rfl (by rw [place_len]; omega) (fun hs => s_nil (s_nil ⟨some (dat (optP (some x))), ?_⟩)) fun hs => s_nil (s_nil ⟨some (dat (optP (some x))), ?_⟩))
            · rw [dg] at hs
              have hxc : x ∈ cu := by
                by_cases hxc : x ∈ cu
                · exact hxc
                · rw [if_neg hxc] at hs; cases hs
              rw [show visit cu [some x] = cu from if_pos hxc]
              rfl
            · rw [dg] at hs
              have hxc : x ∉ cu := fun hxc => by rw [if_pos hxc] at hs; cases hs
              rw [show visit cu [some x] = cu ++ [x] from if_neg hxc, placeD_snoc]
              rfl
        · rintro ρ1 ⟨s8, rfl⟩
          rw [List.length_map, List.take_length]
          have vm : ∀ x, some x ∈ g.behind p i → x ∈ visit ns (g.behind p i) := fun x hx => visit_mem.mpr (.inr hx)
          generalize visit ns (g.behind p i) = cv at *
          refine s_cons (s1_append 0 (d := askD g.l (i, toRow cv (g.behind p i))) (e_var 4) rfl (e_own (view _ cv _ _ _ _) (e_tup (ds := [.str (g.l.ins.getD i ""), .tuple ((toRow cv (g.behind p i)).map optD)]) (a_cons (e_ix (x_tup (inAt i hik)) (e_ix (x_tup at0) (e_fld K.cls K.letters (e_var 2) rfl) e_int) (e_var 6)) (a_cons (e_tuple B (LcR.ev <| lcN (own := [("one", 8)]) (ds := (g.behind p i).map optP) 8 ((toRow cv (g.behind p i)).map optD) (i_lst (e_var 7)) (blk_body (by decide +kernel)) (by simp [toRow]) (by rw [List.length_map]; omega) fun s H C' ce fp k2 d g' hd' hg' => ?_)) a_nil))) (keyable_ask _ _)) (by rw [List.length_map]; omega) (s_nil ⟨m', by omega, rows ++ [(i, toRow cv (g.behind p i))], cv, some (dat (pairD p)), some (dat (natD i)), some (dat (.list ((g.behind p i).map optP))), s8, hmk', by rw [List.length_append]; simp; omega, hns', ?_⟩))
          · obtain ⟨y, hy, rfl⟩ := map_get hd'
            obtain ⟨z, hz, rfl⟩ := map_get hg'
            unfold toRow at hz
            rw [List.getElem?_map, hy] at hz
            have hz := Option.some.inj hz
            subst hz
            cases y with
            | none => exact e_if (t := true) (t_cmp c_isN (e_var 8) e_non) (fun _ => e_non) (fun h => nomatch h)
            | some y =>
              have dg := dget_place pairD_inj cv y
              rw [if_pos (vm y (List.mem_of_getElem? hy))] at dg
              exact e_if (t := false) (t_cmp c_isN (e_var 8) e_non) (fun h => nomatch h) fun _ => e_ix (x_dct (pairD_key y) dg) (e_var 3) (e_var 8)
          · rw [List.map_append]
            rfl
      · have hf : ¬ rows.length < ns.length := of_decide_eq_false hf
        rcases hmk.inv with ⟨_, e⟩ | ⟨m', p, n, i, e, hpn, _⟩
        · subst e
          refine st_frz Part.all (view _ ns _ _ _ _) ?_
          refine s_cons (s1_ret (e_tuple B (e_var 4)) ?_)
          rw [hgl]
          rfl
        · exact absurd (List.getElem?_eq_some_iff.mp hpn).1 hf
end
end MR
/-! M7: what words a table lets live; the least table lets the same ones live, and its standings differ. -/
namespace MR
open PySem
section
variable {σ τ : Type} [DecidableEq σ] [DecidableEq τ]
/-- a word (of places) is not broken from a state on -/
def alive (succ : σ → List (Option σ)) : σ → List Nat → Bool
  | _, [] => true
  | s, a :: w => match (succ s).getD a none with
    | none => false
    | some t => alive succ t w
theorem alive_cons {succ : σ → List (Option σ)} {s : σ} {a : Nat} {w : List Nat} : alive succ s (a :: w) = match (succ s).getD a none with
    | none => false
    | some t => alive succ t w := rfl
theorem getD_map {α β : Type} (g : α → β) (l : List (Option α)) (a : Nat) : (l.map (Option.map g)).getD a none = (l.getD a none).map g := by
  rw [List.getD_eq_getElem?_getD, List.getD_eq_getElem?_getD, List.getElem?_map]
  cases l[a]? <;> rfl
theorem getD_some_mem {α : Type} {l : List (Option α)} {a : Nat} {x : α} (h : l.getD a none = some x) : some x ∈ l := by
  rw [List.getD_eq_getElem?_getD] at h
  cases e : l[a]? with
  | none => rw [e] at h; cases h
  | some y =>
    rw [e] at h
    have h : y = some x := h
    rw [← h]
    exact List.mem_of_getElem? e
/-- two machines go side by side -/
theorem alive_hom {succ : σ → List (Option σ)} {succ' : τ → List (Option τ)} (P : σ → Prop) (f : σ → τ) (h : ∀ s, P s → ∀ a, (succ' (f s)).getD a none = ((succ s).getD a none).map f) (hs : ∀ s, P s → ∀ x, some x ∈ succ s → P x) : ∀ (w : List Nat) (s : σ), P s → alive succ' (f s) w = alive succ s w
  | [], s, _ => rfl
  | a :: w, s, hp => by
    rw [alive_cons, alive_cons, h s hp a]
    cases e : (succ s).getD a none with
    | none => rfl
    | some t => exact alive_hom P f h hs w t (hs s hp t (getD_some_mem e))
theorem rowAt_map (f : σ → List (Option Nat)) (o : List σ) {x : σ} (h : x ∈ o) : rowAt (o.map f) (ix o x) = f x := by
  unfold rowAt
  rw [List.getD_eq_getElem?_getD, List.getElem?_map, ix_get h]
  rfl
/-- the table of a search -/
theorem tab_alive {succ : σ → List (Option σ)} {b : σ} {o : List σ} (hb : Bfs succ [b] 0 o) (w : List Nat) {s : σ} (hs : s ∈ o) : alive (rowAt (tabOf succ o)) (ix o s) w = alive succ s w :=
  alive_hom (· ∈ o) (ix o) (fun s hs a => by unfold tabOf; rw [rowAt_map _ o hs]; exact getD_map _ _ _) (fun s hs x hx => hb.mem s hs x hx) w s hs
theorem tab_alive0 {succ : σ → List (Option σ)} {b : σ} {o : List σ} (hb : Bfs succ [b] 0 o) (w : List Nat) : alive (rowAt (tabOf succ o)) 0 w = alive succ b w := by
  have hp := hb.pre.1
  have h0 : o[0]? = some b := pre_get hp rfl
  have hm := List.mem_of_getElem? h0
  have := tab_alive hb w hm
  rwa [ix_of_get (hb.nodup (by simp)) h0] at this
theorem nodup_uniq : ∀ {l : List σ}, l.length ≤ (uniq l).length → l.Nodup := fun {l} h => by
  by_cases nd : l.Nodup
  · exact nd
  · exfalso
    have key : ∀ (l : List σ), ¬ l.Nodup → ∃ x, x ∈ l ∧ ∃ m : List σ, m.length + 1 = l.length ∧ ∀ y, y ∈ l → y ∈ m := by
      intro l
      induction l with
      | nil => intro h; exact absurd List.nodup_nil h
      | cons x l ih =>
        intro h
        by_cases hx : x ∈ l
        · exact ⟨x, List.mem_cons_self, l, rfl, fun y hy => by
            rcases List.mem_cons.mp hy with rfl | hy
            · exact hx
            · exact hy⟩
        · have h2 : ¬ l.Nodup := fun z => h (List.nodup_cons.mpr ⟨hx, z⟩)
          obtain ⟨z, _, m, hm, hy⟩ := ih h2
          exact ⟨x, List.mem_cons_self, x :: m, by rw [List.length_cons, hm, List.length_cons], fun y hy2 => by
            rcases List.mem_cons.mp hy2 with rfl | hy2
            · exact List.mem_cons_self
            · exact List.mem_cons_of_mem _ (hy y hy2)⟩
    obtain ⟨_, _, m, hm, hy⟩ := key l nd
    have := nodup_le m (uniq_nodup l) fun x hx => hy x (uniq_mem.mp hx)
    omega
/-- as many values as things: the map is one to one on them -/
theorem inj_of_uniq {g : σ → τ} {l : List σ} (h : (uniq l).length ≤ (uniq (l.map g)).length) {x y : σ} (hx : x ∈ l) (hy : y ∈ l) (e : g x = g y) : x = y := by
  have hl : (uniq (l.map g)).length ≤ (uniq ((uniq l).map g)).length := nodup_le _ (uniq_nodup _) fun z hz => by
    obtain ⟨a, ha, rfl⟩ := List.mem_map.mp (uniq_mem.mp hz)
    exact uniq_mem.mpr (List.mem_map.mpr ⟨a, uniq_mem.mpr ha, rfl⟩)
  have nd : ((uniq l).map g).Nodup := nodup_uniq (by rw [List.length_map]; omega)
  have hx := uniq_mem.mpr hx
  have hy := uniq_mem.mpr hy
  obtain ⟨i, hi⟩ := List.getElem?_of_mem hx
  obtain ⟨j, hj⟩ := List.getElem?_of_mem hy
  have e1 : ((uniq l).map g)[i]? = some (g x) := by rw [List.getElem?_map, hi]; rfl
  have e2 : ((uniq l).map g)[j]? = some (g x) := by rw [List.getElem?_map, hj, e]; rfl
  have := (List.getElem?_inj (by rw [List.length_map]; exact (List.getElem?_eq_some_iff.mp hi).1) nd).mp (e1.trans e2.symm)
  subst this
  rw [hi] at hj
  exact Option.some.inj hj
end
theorem getD_sign {R : Rows} {g : List Nat} {s : Nat} (h : s < R.length) : (signsOf R g)[s]? = some (signOf R g s) := by
  unfold signsOf
  rw [List.getElem?_map, List.getElem?_range h]
  rfl
theorem regroup_getD {R : Rows} {g : List Nat} {s : Nat} (h : s < R.length) : (regroup R g).getD s 0 = ix (uniq (signsOf R g)) (signOf R g s) := by
  unfold regroup
  rw [List.getD_eq_getElem?_getD, List.getElem?_map, getD_sign h]
  rfl
theorem regroup_eq {R : Rows} {g : List Nat} {s t : Nat} (hs : s < R.length) (ht : t < R.length) : (regroup R g).getD s 0 = (regroup R g).getD t 0 ↔ signOf R g s = signOf R g t := by
  rw [regroup_getD hs, regroup_getD ht]
  have ms := uniq_mem.mpr (List.mem_of_getElem? (getD_sign (g := g) hs))
  have mt := uniq_mem.mpr (List.mem_of_getElem? (getD_sign (g := g) ht))
  exact ⟨fun h => ix_inj ms mt h, fun h => by rw [h]⟩
theorem groups_pos {R : Rows} (h : 1 ≤ R.length) (g : List Nat) : 1 ≤ groups R g := by
  unfold groups
  have : signOf R g 0 ∈ uniq (signsOf R g) := uniq_mem.mpr (List.mem_of_getElem? (getD_sign h))
  exact List.length_pos_iff.mpr fun z => by rw [z] at this; cases this
theorem map_congr_mem {α β : Type} {f g : α → β} {l : List (Option α)} (h : l.map (Option.map f) = l.map (Option.map f)) (hh : ∀ x, some x ∈ l → f x = g x) : l.map (Option.map f) = l.map (Option.map g) := List.map_congr_left fun a ha => by
  cases a with
  | none => rfl
  | some x => exact congrArg some (hh x ha)
/-- what the rounds end with: alike are those whose rows are alike; the unlike differ by a word -/
structure Stable (R : Rows) (f : List Nat) : Prop where
  len : f.length = R.length
  row : ∀ s t, s < R.length → t < R.length → f.getD s 0 = f.getD t 0 → ∀ a, ((rowAt R s).getD a none).map (fun k => f.getD k 0) = ((rowAt R t).getD a none).map (fun k => f.getD k 0)
  dif : ∀ s t, s < R.length → t < R.length → f.getD s 0 ≠ f.getD t 0 → ∃ w, alive (rowAt R) s w ≠ alive (rowAt R) t w
theorem regroup_dif {n : Nat} {R : Rows} (hR : RowsOk n R) {g : List Nat} (hg : ∀ s t, s < R.length → t < R.length → g.getD s 0 ≠ g.getD t 0 → ∃ w, alive (rowAt R) s w ≠ alive (rowAt R) t w) :
    ∀ s t, s < R.length → t < R.length → (regroup R g).getD s 0 ≠ (regroup R g).getD t 0 → ∃ w, alive (rowAt R) s w ≠ alive (rowAt R) t w := by
  intro s t hs ht h
  have h : signOf R g s ≠ signOf R g t := fun z => h ((regroup_eq hs ht).mpr z)
  by_cases e : g.getD s 0 = g.getD t 0
  · have h2 : (rowAt R s).map (Option.map fun k => g.getD k 0) ≠ (rowAt R t).map (Option.map fun k => g.getD k 0) := fun z => h (Prod.ext e z)
    have h3 : ∃ a, ((rowAt R s).getD a none).map (fun k => g.getD k 0) ≠ ((rowAt R t).getD a none).map (fun k => g.getD k 0) := by
      refine Classical.byContradiction fun hn => h2 (List.ext_getElem? fun a => ?_)
      have l1 := (hR.row hs).2.1
      have l2 := (hR.row ht).2.1
      by_cases ha : a < n
      · have hna : ((rowAt R s).getD a none).map (fun k => g.getD k 0) = ((rowAt R t).getD a none).map (fun k => g.getD k 0) := Classical.byContradiction fun z => hn ⟨a, z⟩
        rw [List.getElem?_map, List.getElem?_map, List.getElem?_eq_getElem (by omega), List.getElem?_eq_getElem (by omega)]
        rw [List.getD_eq_getElem?_getD, List.getD_eq_getElem?_getD, List.getElem?_eq_getElem (by omega), List.getElem?_eq_getElem (by omega)] at hna
        exact congrArg some hna
      · rw [List.getElem?_eq_none (by rw [List.length_map]; omega), List.getElem?_eq_none (by rw [List.length_map]; omega)]
    obtain ⟨a, ha⟩ := h3
    cases e1 : (rowAt R s).getD a none with
    | none =>
      cases e2 : (rowAt R t).getD a none with
      | none => rw [e1, e2] at ha; exact absurd rfl ha
      | some y => exact ⟨[a], by rw [alive_cons, alive_cons, e1, e2]; exact fun z => nomatch z⟩
    | some x =>
      cases e2 : (rowAt R t).getD a none with
      | none => exact ⟨[a], by rw [alive_cons, alive_cons, e1, e2]; exact fun z => nomatch z⟩
      | some y =>
        rw [e1, e2] at ha
        have hxy : g.getD x 0 ≠ g.getD y 0 := fun z => ha (congrArg some z)
        obtain ⟨w, hw⟩ := hg x y ((hR.row hs).2.2 x (getD_some_mem e1)) ((hR.row ht).2.2 y (getD_some_mem e2)) hxy
        exact ⟨a :: w, by rw [alive_cons, alive_cons, e1, e2]; exact hw⟩
  · exact hg s t hs ht e
theorem Cls.stable {n : Nat} {R : Rows} (hR : RowsOk n R) {m : Nat} {g : List Nat} {many : Nat} {f : List Nat} (h : Cls R m g many f) : g.length = R.length → (many = 0 ∨ many = (uniq g).length) → (∀ s t, s < R.length → t < R.length → g.getD s 0 ≠ g.getD t 0 → ∃ w, alive (rowAt R) s w ≠ alive (rowAt R) t w) → Stable R f := by
  induction h with
  | @done m g many e =>
    intro hl hm hd
    have hp := groups_pos hR.pos g
    have hm : many = (uniq g).length := hm.resolve_left (by omega)
    have inj : ∀ s t, s < R.length → t < R.length → g.getD s 0 = g.getD t 0 → signOf R g s = signOf R g t := fun s t hs ht hst => by
      refine inj_of_uniq (g := fun q : Nat × List (Option Nat) => q.1) (l := signsOf R g) ?_ (List.mem_of_getElem? (getD_sign hs)) (List.mem_of_getElem? (getD_sign ht)) hst
      rw [signs_fst hl]
      have : groups R g = (uniq (signsOf R g)).length := rfl
      omega
    have iff : ∀ s t, s < R.length → t < R.length → ((regroup R g).getD s 0 = (regroup R g).getD t 0 ↔ g.getD s 0 = g.getD t 0) := fun s t hs ht => by
      rw [regroup_eq hs ht]
      exact ⟨fun h => congrArg Prod.fst h, inj s t hs ht⟩
    refine ⟨regroup_len R g, fun s t hs ht h a => ?_, regroup_dif hR hd⟩
    have h1 := (regroup_eq hs ht).mp h
    have h2 : (rowAt R s).map (Option.map fun k => g.getD k 0) = (rowAt R t).map (Option.map fun k => g.getD k 0) := congrArg Prod.snd h1
    have h3 : ((rowAt R s).map (Option.map fun k => g.getD k 0)).getD a none = ((rowAt R t).map (Option.map fun k => g.getD k 0)).getD a none := by rw [h2]
    rw [getD_map, getD_map] at h3
    cases e1 : (rowAt R s).getD a none with
    | none =>
      cases e2 : (rowAt R t).getD a none with
      | none => rfl
      | some y => rw [e1, e2] at h3; cases h3
    | some x =>
      cases e2 : (rowAt R t).getD a none with
      | none => rw [e1, e2] at h3; cases h3
      | some y =>
        rw [e1, e2] at h3
        exact congrArg some ((iff x y ((hR.row hs).2.2 x (getD_some_mem e1)) ((hR.row ht).2.2 y (getD_some_mem e2))).mpr (Option.some.inj h3))
  | @step m g many f e _ ih =>
    intro hl hm hd
    exact ih (regroup_len R g) (.inr (by rw [regroup_uniq, List.length_range])) (regroup_dif hR hd)
theorem cls_stable {n : Nat} {R : Rows} (hR : RowsOk n R) {m : Nat} {f : List Nat} (h : Cls R m (List.replicate R.length 0) 0 f) : Stable R f :=
  h.stable hR (by simp) (.inl rfl) fun s t hs ht e => by
    refine absurd ?_ e
    rw [List.getD_eq_getElem?_getD, List.getD_eq_getElem?_getD, List.getElem?_replicate, List.getElem?_replicate, if_pos hs, if_pos ht]
/-- a standing and its class let the same words live -/
theorem joined_alive {n : Nat} {R : Rows} (hR : RowsOk n R) {g : List Nat} (st : Stable R (regroup R g)) (w : List Nat) {s : Nat} (hs : s < R.length) : alive (rowAt (joinedOf R (regroup R g))) ((regroup R g).getD s 0) w = alive (rowAt R) s w := by
  have hl := regroup_len R g
  refine alive_hom (· < R.length) (fun k => (regroup R g).getD k 0) (fun s hs a => ?_) (fun s hs x hx => (hR.row hs).2.2 x hx) w s hs
  have hm : (regroup R g).getD s 0 ∈ regroup R g := getD_mem (by omega)
  have hc : (regroup R g).getD s 0 < (uniq (regroup R g)).length := regroup_lt hm
  have er : rowAt (joinedOf R (regroup R g)) ((regroup R g).getD s 0) = (rowAt R (ix (regroup R g) ((regroup R g).getD s 0))).map (Option.map fun k => (regroup R g).getD k 0) := by
    unfold joinedOf
    conv => lhs; unfold rowAt
    rw [List.getD_eq_getElem?_getD, List.getElem?_map, List.getElem?_range hc]
    rfl
  rw [er, getD_map]
  have hi := ix_get hm
  have hil := ix_lt hm
  rw [hl] at hil
  refine st.row _ _ hil hs ?_ a
  rw [List.getD_eq_getElem?_getD, hi]
  rfl
theorem regroup_zero {R : Rows} (h : 1 ≤ R.length) (g : List Nat) : (regroup R g).getD 0 0 = 0 := by
  rw [regroup_getD h]
  have hp : signsOf R g ≠ [] := fun z => by have := getD_sign (g := g) h; rw [z] at this; cases this
  obtain ⟨x, l, e⟩ := List.exists_cons_of_ne_nil hp
  have e0 := getD_sign (g := g) h
  rw [e] at e0
  have e0 : x = signOf R g 0 := Option.some.inj e0
  have hu : (uniq (signsOf R g))[0]? = some (signOf R g 0) := by
    rw [e, ← e0]
    have : uniq (x :: l) = visit [x] (l.map some) := by
      unfold uniq
      show (if x ∈ ([] : List _) then _ else visit ([] ++ [x]) (l.map some)) = _
      rw [if_neg (by simp)]
      rfl
    rw [this]
    exact pre_get (visit_pre [x] _) rfl
  exact ix_of_get (uniq_nodup _) hu
theorem Least.alive {n : Nat} {R out : Rows} (hR : RowsOk n R) (h : Least R out) (w : List Nat) : alive (rowAt out) 0 w = alive (rowAt R) 0 w := by
  obtain ⟨m, f, hc, o, hb, rfl⟩ := h
  obtain ⟨g, rfl⟩ := hc.form
  have st := cls_stable hR hc
  rw [tab_alive0 hb w]
  have := joined_alive hR st w hR.pos
  rwa [regroup_zero hR.pos] at this
/-- the standings of the least table differ, each by a word -/
theorem Least.dif {n : Nat} {R out : Rows} (hR : RowsOk n R) (h : Least R out) {s t : Nat} (hs : s < out.length) (ht : t < out.length) (e : ∀ w, MR.alive (rowAt out) s w = MR.alive (rowAt out) t w) : s = t := by
  obtain ⟨m, f, hc, o, hb, rfl⟩ := h
  obtain ⟨g, rfl⟩ := hc.form
  have st := cls_stable hR hc
  have nd := hb.nodup (by simp)
  have J := joined_ok hR g
  have hlt := hb.lt J (fun x hx => by rw [List.mem_singleton.mp hx]; exact J.pos)
  have lo : (tabOf (rowAt (joinedOf R (regroup R g))) o).length = o.length := by unfold tabOf; rw [List.length_map]
  have key : ∀ s, s < o.length → ∃ k, k < R.length ∧ o[s]? = some ((regroup R g).getD k 0) ∧ ∀ w, MR.alive (rowAt (tabOf (rowAt (joinedOf R (regroup R g))) o)) s w = MR.alive (rowAt R) k w := fun s hs => by
    have e1 := List.getElem?_eq_getElem hs
    have m1 := List.getElem_mem hs
    have l1 := hlt _ m1
    have hu : (uniq (regroup R g)).length = (joinedOf R (regroup R g)).length := by unfold joinedOf; rw [List.length_map, List.length_range]
    have m2 := regroup_mem (R := R) (g := g) (c := o[s]) (by omega)
    have i1 := ix_get m2
    have i2 := ix_lt m2
    rw [regroup_len] at i2
    have eg : (regroup R g).getD (ix (regroup R g) o[s]) 0 = o[s] := by rw [List.getD_eq_getElem?_getD, i1]; rfl
    refine ⟨_, i2, by rw [eg]; exact e1, fun w => ?_⟩
    have t1 := tab_alive hb w m1
    rw [ix_of_get nd e1] at t1
    rw [t1]
    have t2 := joined_alive hR st w i2
    rwa [eg] at t2
  obtain ⟨k, k1, k2, k3⟩ := key s (by omega)
  obtain ⟨j, j1, j2, j3⟩ := key t (by omega)
  have ekj : (regroup R g).getD k 0 = (regroup R g).getD j 0 := Classical.byContradiction fun z => by
    obtain ⟨w, hw⟩ := st.dif k j k1 j1 z
    exact hw ((k3 w).symm.trans ((e w).trans (j3 w)))
  rw [ekj] at k2
  exact (List.getElem?_inj (by omega) nd).mp (k2.trans j2.symm)
end MR
/-! T28: least_break. -/
namespace MR
open PySem PySem.Spec PyProof.Rows L2
section
variable {G : GC} {L : LC G} {ρ : Rho G} {pos : Pos} {iter : Expr} {p : PV G} {Po : Post G}
def duoD (q : PyData × PyData) : PyData := .tuple [q.1, q.2]
def putU (i j : Nat) (ts : List (PyData × PyData)) (k : Nat) (l : List (Option (PV G))) : List (Option (PV G)) := match ts[k]? with
  | some q => (l.set i (some (dat q.1))).set j (some (dat q.2))
  | none => l
theorem putU_eq {i j : Nat} {ts : List (PyData × PyData)} {k : Nat} {l : List (Option (PV G))} {q : PyData × PyData} (h : ts[k]? = some q) : putU i j ts k l = (l.set i (some (dat q.1))).set j (some (dat q.2)) := by unfold putU; rw [h]
/-- for x, y in a list of data pairs -/
theorem s1_forU (i j : Nat) {x y : Str} {px py pt : Pos} {kk : Nat} {ts : List (PyData × PyData)} {body : List Stmt} (hi : ItD L ρ (.Tuple [.Name x px, .Name y py] kk pt) iter ((ts.map duoD).map dat)) (J : Nat → Rho G → Prop) (h0 : J 0 ρ)
    (hs : ∀ (k : Nat) q ρ1, ts[k]? = some q → J k ρ1 → StD L ⟨(ρ1.sl.set i (some (dat q.1))).set j (some (dat q.2)), ρ1.ow⟩ body { nx := J (k + 1), ct := J (k + 1), bk := Po.nx, rt := Po.rt }) (hd : ∀ ρ1, J ts.length ρ1 → Po.nx ρ1) (hN : L.X.N[i]? = some x := by rfl) (hM : L.X.N[j]? = some y := by rfl)
    (hx : Loc L.X.env.scope x := by first | exact Or.inl rfl | exact Or.inr rfl) (hy : Loc L.X.env.scope y := by first | exact Or.inl rfl | exact Or.inr rfl)
    (hf : L.X.fn x = true ∨ L.X.env.scope.names.lookup x = some .local := by first | exact .inl rfl | exact .inr rfl) (hfy : L.X.fn y = true ∨ L.X.env.scope.names.lookup y = some .local := by first | exact .inl rfl | exact .inr rfl) (hp : PassesOwn (model L.X.prog L.X.w) L.X.A L.X.env L.X.xe := by exact PassesOwn.never) (hfs : ∀ x, foldedSetIterable iter L.X.env x = pure x := by intro _; rfl)
    (hn : (assignEach [.Name x px, .Name y py] L.X.env).length = 2 := by rfl) (hst : (assignEach [.Name x px, .Name y py] L.X.env).findIdx? (·.1) = none := by rfl) (h1 : (assignEach [.Name x px, .Name y py] L.X.env).map (·.2) = assign (.Name x px) L.X.env :: (assignEach [.Name y py] L.X.env).map (·.2) := by rfl)
    (h2 : (assignEach [.Name y py] L.X.env).map (·.2) = assign (.Name y py) L.X.env :: (assignEach [] L.X.env).map (·.2) := by rfl) :
    S1D L ρ (.For (.Tuple [.Name x px, .Name y py] kk pt) iter body [] pos) Po :=
  s1_for (is := [i, j]) (f := putU i j ts) hi (fun k p h => by
    obtain ⟨d, hd1, rfl⟩ := dats_get h
    obtain ⟨q, hq, rfl⟩ := map_get hd1
    have e : putU (G := G) i j ts k = fun l => (l.set i (some (dat q.1))).set j (some (dat q.2)) := by funext l; exact putU_eq hq
    rw [e]
    exact TgD.dat (ds := [q.1, q.2]) (g_pair i j hN hM hx hy hf hfy hn hst h1 h2)) J h0 (fun k p ρ1 h jj => by
    obtain ⟨d, hd1, rfl⟩ := dats_get h
    obtain ⟨q, hq, rfl⟩ := map_get hd1
    rw [putU_eq hq]
    exact hs k q ρ1 hq jj) (fun ρ1 jj => hd ρ1 (by rw [List.length_map, List.length_map] at jj; exact jj)) hp hfs
end
/-! the plain search -/
abbrev Spot := Pair × Nat
abbrev Ways := List (Spot × List Nat)
def lbPut (ord : Ways) (s : Spot) (w : List Nat) : Ways := if s ∈ ord.map (·.1) then ord else ord ++ [(s, w)]
def lbGo (R : Rows) (s : Nat) (w : List Nat) : List (Nat × Pair) → Ways → Sum (List Nat) Ways
  | [], ord => .inr ord
  | (a, x) :: kb, ord => match (rowAt R s).getD a none with
    | none => .inl (w ++ [a])
    | some t => lbGo R s w kb (lbPut ord (x, t) (w ++ [a]))
theorem lbGo_app (R : Rows) (s : Nat) (w : List Nat) : ∀ (kb kc : List (Nat × Pair)) (ord : Ways), lbGo R s w (kb ++ kc) ord = match lbGo R s w kb ord with
    | .inl v => .inl v
    | .inr o => lbGo R s w kc o
  | [], kc, ord => rfl
  | (a, x) :: kb, kc, ord => by
    show (match (rowAt R s).getD a none with | none => Sum.inl (w ++ [a]) | some t => lbGo R s w (kb ++ kc) (lbPut ord (x, t) (w ++ [a]))) = match (match (rowAt R s).getD a none with | none => Sum.inl (w ++ [a]) | some t => lbGo R s w kb (lbPut ord (x, t) (w ++ [a]))) with
      | .inl v => .inl v
      | .inr o => lbGo R s w kc o
    cases (rowAt R s).getD a none with
    | none => rfl
    | some t => exact lbGo_app R s w kb kc _
inductive LBr (g : Gm) (ls : Lost) (R : Rows) : Nat → Ways → Nat → Option (List Nat) → Prop
  | done {ord n} : ord.length ≤ n → LBr g ls R 0 ord n none
  | brk {ord n p s w v} : ord[n]? = some ((p, s), w) → lbGo R s w (g.keptBeats ls p) ord = .inl v → LBr g ls R 1 ord n (some v)
  | step {m ord n p s w ord' r} : ord[n]? = some ((p, s), w) → lbGo R s w (g.keptBeats ls p) ord = .inr ord' → LBr g ls R m ord' (n + 1) r → LBr g ls R (m + 1) ord n r
theorem LBr.inv {g : Gm} {ls : Lost} {R : Rows} {m : Nat} {ord : Ways} {n : Nat} {r : Option (List Nat)} (h : LBr g ls R m ord n r) : (ord.length ≤ n ∧ r = none) ∨ ∃ p s w, ord[n]? = some ((p, s), w) ∧ ((∃ v, lbGo R s w (g.keptBeats ls p) ord = .inl v ∧ r = some v) ∨ ∃ m' ord', m = m' + 1 ∧ lbGo R s w (g.keptBeats ls p) ord = .inr ord' ∧ LBr g ls R m' ord' (n + 1) r) := by
  cases h with
  | done h => exact .inl ⟨h, rfl⟩
  | brk h h2 => exact .inr ⟨_, _, _, h, .inl ⟨_, h2, rfl⟩⟩
  | step h h2 h3 => exact .inr ⟨_, _, _, h, .inr ⟨_, _, rfl, h2, h3⟩⟩
inductive LB (g : Gm) (ls : Lost) (R : Rows) : Option (List Nat) → Prop
  | lost : isLost ls (0, 0) = true → LB g ls R none
  | kept {m r} : isLost ls (0, 0) = false → LBr g ls R m [(((0, 0), 0), [])] 0 r → LB g ls R r
/-- every spot of the tables -/
def allS (g : Gm) (R : Rows) : List Spot := (allP g).flatMap fun p => (List.range R.length).map fun s => (p, s)
theorem allS_mem {g : Gm} {R : Rows} {q : Spot} : q ∈ allS g R ↔ g.In q.1 ∧ q.2 < R.length := by
  unfold allS
  rw [List.mem_flatMap]
  constructor
  · rintro ⟨p, hp, h⟩
    obtain ⟨s, hs, rfl⟩ := List.mem_map.mp h
    exact ⟨allP_mem.mp hp, List.mem_range.mp hs⟩
  · rintro ⟨h1, h2⟩
    exact ⟨q.1, allP_mem.mpr h1, List.mem_map.mpr ⟨q.2, List.mem_range.mpr h2, rfl⟩⟩
theorem allS_len (g : Gm) (R : Rows) : (allS g R).length = (allP g).length * R.length := by
  unfold allS
  generalize allP g = A
  induction A with
  | nil => simp
  | cons k A ih => rw [List.flatMap_cons, List.length_append, ih, List.length_map, List.length_range, List.length_cons, Nat.succ_mul, Nat.add_comm]
/-- what the ways keep -/
structure OrdOk (g : Gm) (R : Rows) (ord : Ways) : Prop where
  nd : (ord.map (·.1)).Nodup
  in_ : ∀ q ∈ ord, g.In q.1.1 ∧ q.1.2 < R.length
  way : ∀ q ∈ ord, q.2.length ≤ ord.length ∧ ∀ a ∈ q.2, a < g.l.beats.length
theorem OrdOk.len {g : Gm} {R : Rows} {ord : Ways} (h : OrdOk g R ord) : ord.length ≤ (allS g R).length := by
  have := nodup_le (allS g R) h.nd fun x hx => by
    obtain ⟨q, hq, rfl⟩ := List.mem_map.mp hx
    exact allS_mem.mpr (h.in_ q hq)
  rwa [List.length_map] at this
theorem OrdOk.begin_ {g : Gm} (hg : g.Ok) {R : Rows} (hR : 1 ≤ R.length) : OrdOk g R [(((0, 0), 0), [])] := ⟨by simp, fun q hq => by rw [List.mem_singleton.mp hq]; exact ⟨.begin_ hg, hR⟩, fun q hq => by rw [List.mem_singleton.mp hq]; exact ⟨Nat.zero_le _, fun a ha => by cases ha⟩⟩
theorem OrdOk.put {g : Gm} {R : Rows} {ord : Ways} (h : OrdOk g R ord) {p x : Pair} {s t a : Nat} {w : List Nat} (hq : ((p, s), w) ∈ ord) (hx : g.In x) (ht : t < R.length) (ha : a < g.l.beats.length) : OrdOk g R (lbPut ord (x, t) (w ++ [a])) := by
  unfold lbPut
  split
  · exact h
  · rename_i hn
    refine ⟨?_, fun q hq => ?_, fun q hq2 => ?_⟩
    · rw [List.map_append]
      refine List.nodup_append.mpr ⟨h.nd, by simp, fun y hy z hz e => ?_⟩
      subst e
      rw [List.map_cons, List.map_nil, List.mem_singleton] at hz
      rw [hz] at hy
      exact hn hy
    · rcases List.mem_append.mp hq with hq | hq
      · exact h.in_ q hq
      · rw [List.mem_singleton.mp hq]; exact ⟨hx, ht⟩
    · rw [List.length_append]
      rcases List.mem_append.mp hq2 with hq2 | hq2
      · obtain ⟨h1, h2⟩ := h.way q hq2
        exact ⟨by omega, h2⟩
      · rw [List.mem_singleton.mp hq2]
        obtain ⟨h1, h2⟩ := h.way _ hq
        refine ⟨by rw [List.length_append]; simpa using h1, fun b hb => ?_⟩
        rcases List.mem_append.mp hb with hb | hb
        · exact h2 b hb
        · rw [List.mem_singleton.mp hb]; exact ha
theorem lbPut_pre (ord : Ways) (s : Spot) (w : List Nat) : ord <+: lbPut ord s w := by
  unfold lbPut
  split
  · exact List.prefix_rfl
  · exact List.prefix_append _ _
theorem kept_mem {g : Gm} {ls : Lost} {p : Pair} {a : Nat} {x : Pair} (h : (a, x) ∈ g.keptBeats ls p) : ∃ given told, given ∈ g.insAt p ∧ told < g.outs ∧ a = g.at_ given told ∧ (g.behind p given)[told]? = some (some x) ∧ isLost ls x = false := by
  unfold Gm.keptBeats at h
  obtain ⟨given, hgv, h⟩ := List.mem_flatMap.mp h
  unfold keptRow at h
  obtain ⟨⟨y, i⟩, hy, e⟩ := List.mem_filterMap.mp h
  have hi := List.mem_zipIdx_iff_getElem?.mp hy
  have hi : (g.behind p given)[i]? = some y := hi
  have bl : (g.behind p given).length = g.outs := by unfold Gm.behind; rw [List.length_map, List.length_range]
  have hlt := (List.getElem?_eq_some_iff.mp hi).1
  cases y with
  | none => cases e
  | some y =>
    have e : (if isLost ls y then none else some (g.at_ given i, y)) = some (a, x) := e
    split at e
    · cases e
    · rename_i hl
      cases e
      exact ⟨given, i, hgv, by omega, rfl, hi, by simpa using hl⟩
theorem kept_ok {g : Gm} (hg : g.Ok) {ls : Lost} {p : Pair} (hp : g.In p) {a : Nat} {x : Pair} (h : (a, x) ∈ g.keptBeats ls p) : g.In x ∧ a < g.l.beats.length := by
  obtain ⟨given, told, h1, h2, rfl, h3, _⟩ := kept_mem h
  obtain ⟨h4, av, h5⟩ := insAt_mem h1
  exact ⟨hp.step hg h4 h5 (List.mem_of_getElem? h3), Gm.at_lt h4 h2⟩
theorem row_to {w : Nat} {R : Rows} (hR : RowsOk w R) {s a t : Nat} (hs : s < R.length) (h : (rowAt R s).getD a none = some t) : t < R.length := (hR.row hs).2.2 t (getD_some_mem h)
theorem lbGo_ok {g : Gm} (hg : g.Ok) {ls : Lost} {R : Rows} (hR : RowsOk g.l.beats.length R) {p : Pair} (hp : g.In p) {s : Nat} (hs : s < R.length) {w : List Nat} : ∀ (kb : List (Nat × Pair)), (∀ q ∈ kb, q ∈ g.keptBeats ls p) → ∀ (ord ord' : Ways), ((p, s), w) ∈ ord → OrdOk g R ord → lbGo R s w kb ord = .inr ord' → OrdOk g R ord' ∧ ord <+: ord'
  | [], _, ord, ord', _, h, e => by cases e; exact ⟨h, List.prefix_rfl⟩
  | (a, x) :: kb, hk, ord, ord', hq, h, e => by
    have e : (match (rowAt R s).getD a none with | none => Sum.inl (w ++ [a]) | some t => lbGo R s w kb (lbPut ord (x, t) (w ++ [a]))) = .inr ord' := e
    cases er : (rowAt R s).getD a none with
    | none => rw [er] at e; cases e
    | some t =>
      rw [er] at e
      obtain ⟨k1, k2⟩ := kept_ok hg hp (hk _ List.mem_cons_self)
      have hpre := lbPut_pre ord (x, t) (w ++ [a])
      obtain ⟨r1, r2⟩ := lbGo_ok hg hR hp hs kb (fun q hq => hk q (List.mem_cons_of_mem _ hq)) _ ord' (hpre.subset hq) (h.put hq k1 (row_to hR hs er) k2) e
      exact ⟨r1, hpre.trans r2⟩
theorem lbr_ex {g : Gm} (hg : g.Ok) {ls : Lost} {R : Rows} (hR : RowsOk g.l.beats.length R) : ∀ (m : Nat) (ord : Ways) (n : Nat), (allS g R).length - n ≤ m → OrdOk g R ord → ∃ m' r, LBr g ls R m' ord n r := by
  intro m
  induction m with
  | zero =>
    intro ord n hm h
    have := h.len
    exact ⟨0, none, .done (by omega)⟩
  | succ m ih =>
    intro ord n hm h
    have hl := h.len
    by_cases hn : ord.length ≤ n
    · exact ⟨0, none, .done hn⟩
    · have hlt : n < ord.length := by omega
      have e := List.getElem?_eq_getElem hlt
      have hmem := List.getElem_mem hlt
      generalize ord[n] = q at *
      obtain ⟨⟨p, s⟩, w⟩ := q
      cases eg : lbGo R s w (g.keptBeats ls p) ord with
      | inl v => exact ⟨1, some v, .brk e eg⟩
      | inr ord' =>
        obtain ⟨h1, h2⟩ := h.in_ _ hmem
        obtain ⟨m', r, hr⟩ := ih ord' (n + 1) (by omega) (lbGo_ok hg hR h1 h2 _ (fun _ h => h) ord ord' hmem h eg).1
        exact ⟨m' + 1, r, .step e eg hr⟩
theorem lb_ex {g : Gm} (hg : g.Ok) {ls : Lost} {R : Rows} (hR : RowsOk g.l.beats.length R) : ∃ r, LB g ls R r := by
  cases e : isLost ls (0, 0) with
  | true => exact ⟨none, .lost e⟩
  | false =>
    obtain ⟨m, r, h⟩ := lbr_ex (ls := ls) hg hR _ _ 0 (Nat.le_refl _) (OrdOk.begin_ hg hR.pos)
    exact ⟨r, .kept e h⟩
end MR
/-! T29: least_break, walked. -/
namespace MR
open PySem PySem.Spec PyProof.Rows L2
def spotD (q : Spot) : PyData := .tuple [.int (q.1.1 : Nat), .int (q.1.2 : Nat), .int (q.2 : Nat)]
theorem spotD_inj (x y : Spot) (h : nk (spotD x) = nk (spotD y)) : x = y := by
  have h : NestedKey.tup [NestedKey.num (x.1.1 : Int), NestedKey.num (x.1.2 : Int), NestedKey.num (x.2 : Int)] = NestedKey.tup [NestedKey.num (y.1.1 : Int), NestedKey.num (y.1.2 : Int), NestedKey.num (y.2 : Int)] := h
  injection h with h
  injection h with h1 h2
  injection h2 with h2 h3
  injection h3 with h3 _
  exact Prod.ext (Prod.ext (Int.ofNat.inj (NestedKey.num.inj h1)) (Int.ofNat.inj (NestedKey.num.inj h2))) (Int.ofNat.inj (NestedKey.num.inj h3))
theorem spotD_key (p : Spot) : KeyOk true (spotD p) := ⟨rfl, fun (h : true = false) => Bool.noConfusion h, fun _ => ⟨⟨_, rfl⟩, by show max 0 (max 0 (max 0 0)) + 1 ≤ 8; decide⟩⟩
def wayD (l : Lt) (w : List Nat) : PyData := .tuple (w.map fun a => beatD (l.beats.getD a ("", "")))
def orderD (ord : Ways) : List PyData := ord.map fun q => spotD q.1
def waysD (l : Lt) (ord : Ways) : List (PyData × PyData) := ord.map fun q => (spotD q.1, wayD l q.2)
def runD (l : Lt) : Option (List Nat) → PyData
  | none => .none
  | some w => wayD l w
theorem keyable_way (l : Lt) (w : List Nat) : keyable (wayD l w) = true := keyables_map (fun _ => rfl) w
theorem way_get (l : Lt) (x : Spot) : ∀ ord : Ways, dget (waysD l ord) (spotD x) = (ord.lookup x).map (wayD l)
  | [] => rfl
  | (y, v) :: ls => by
    show dget ((spotD y, wayD l v) :: waysD l ls) (spotD x) = _
    rw [List.lookup_cons]
    by_cases e : y = x
    · subst e
      rw [dget_pos rfl]
      simp
    · rw [dget_neg (fun z => e (spotD_inj _ _ z)), way_get l x ls]
      have : (x == y) = false := by simpa using fun z => e z.symm
      rw [this]
theorem way_look : ∀ {ord : Ways}, (ord.map (·.1)).Nodup → ∀ q ∈ ord, ord.lookup q.1 = some q.2
  | (y, v) :: ord, nd, q, hq => by
    rw [List.lookup_cons]
    have nd := List.nodup_cons.mp nd
    rcases List.mem_cons.mp hq with rfl | hq
    · simp
    · have hne : q.1 ≠ y := fun z => nd.1 (z ▸ List.mem_map.mpr ⟨q, hq, rfl⟩)
      have : (q.1 == y) = false := by simpa using hne
      rw [this]
      exact way_look nd.2 q hq
theorem way_none {x : Spot} : ∀ {ord : Ways}, x ∉ ord.map (·.1) → ord.lookup x = none
  | [], _ => rfl
  | (y, v) :: l, h => by
    rw [List.lookup_cons]
    have h1 : x ≠ y := fun z => h (by rw [z]; exact List.mem_cons_self)
    have : (x == y) = false := by simpa using h1
    rw [this]
    exact way_none fun z => h (List.mem_cons_of_mem _ z)
section
variable {G : GC} {L : LC G} {ρ : Rho G} {pos : Pos} {e : Expr} {C : Addr}
theorem e_begin0 (Q : Cs G) {p1 p2 p3 : Pos} {k1 j : Nat} {x1} (hg : Gl L.X "BEGIN" := by rfl) : EvD L ρ (.BinOp (.Name "BEGIN" p1) .Add (.Tuple [.Constant (.int 0) j p2] x1 p3) pos) (dat (spotD ((0, 0), 0))) :=
  EvD.cast (e_bin (b_cat (by decide)) (e_begin Q hg) (e_tup (ds := [.int 0]) (a_cons e_int a_nil))) rfl
theorem scLeastBreak : FnScope ["game", "rows", "beats", "order", "ways", "place", "spot", "at", "after", "found"] ["game", "rows"] (defScope (topS 65)) := ⟨rfl, rfl, rfl, by decide +kernel, rfl, by decide +kernel, by decide +kernel⟩
def RLeastBreak (G : GC) (C : Addr) : Rel G := fun ps r => ∃ (g : Gm) (ls : Lost) (R : Rows) (out : Option (List Nat)), g.Ok ∧ g.lim.length ≤ 4 ∧ g.rows.length ≤ 60 ∧ R.length ≤ 60 ∧ RowsOk g.l.beats.length R ∧ LB g ls R out ∧ ps = [gmP C g (dctP true (lostD ls)), dat (rowsT R)] ∧ r = dat (runD g.l out)
theorem fn_least_break (B : Bs G) (Q : Cs G) (K : GameT G C) (F : FunT G 65 "least_break" ["game", "rows"]) (D1 : FnD G 1 "beats_of" ["letters"] (RBeats G)) (D2 : MtD G 4 C "kept_beats" ["self", "pair"] (RKept G C)) (D3 : MtD G 1 C "is_kept" ["self", "pair"] (RIsKept G C)) :
    FnD G 5 "least_break" ["game", "rows"] (RLeastBreak G C) := by
  refine mk_def (k := 4) F scLeastBreak (fun pvs r ⟨_, _, _, _, _, _, _, _, _, _, h, _⟩ => by rw [h]; rfl) fun pvs r ⟨g, ls, R, out, hg, m1, m2, m3, hR, hlb, h1, h2⟩ f cd A outer s H E hr => ?_
  subst h1 h2
  have cap : (allS g R).length ≤ 14400 := by
    rw [allS_len, allP_len]
    exact Nat.mul_le_mul (Nat.mul_le_mul m1 m2) m3
  refine s_cons (s1_tup4 2 3 4 5 (am4 (e_call D1 (show 1 ≤ 4 by decide) (a_cons (e_fld K.cls K.letters (e_var 0) rfl) a_nil) ⟨g.l, hg.l, rfl, rfl⟩) (fun p ρ1 h => em_ownL (ds := [spotD ((0, 0), 0)]) (a_cons (e_begin0 (k1 := 0) Q) a_nil)) (fun p ρ1 q ρ2 _ _ => em_ownD1 (dk := spotD ((0, 0), 0)) (dv := wayD g.l []) true (spotD_key _) (fun _ => e_begin0 (k1 := 0) Q) (fun _ => e_tup (ds := []) a_nil)) (fun p ρ1 q ρ2 r ρ3 _ _ _ => e_int (i := 0))) ?_)
  rintro ps ρ1 ⟨p1, ρ2, p2, ρ3, p3, ρ4, p4, ⟨rfl, rfl⟩, ⟨oa, rfl, rfl⟩, ⟨wa, rfl, rfl⟩, ⟨rfl, rfl⟩, rfl⟩
  refine ⟨_, _, _, _, rfl, ?_⟩
  refine s_cons (s1_if (t := isLost ls (0, 0)) (EvT.cast (t_not (t_val (e_meth K.cls D3 (show 1 ≤ 4 by decide) (e_var 0) rfl (a_cons (e_begin Q) a_nil) ⟨g, ls, some (0, 0), hg, rfl, rfl⟩))) (by show (!!isLost ls (0, 0)) = _; rw [Bool.not_not])) (fun ht => ?_) (fun hf => s_nil ?_))
  · cases hlb with
    | lost _ => exact s_cons (s1_ret e_non rfl)
    | kept h _ => rw [h] at ht; cases ht
  · cases hlb with
    | lost h => rw [h] at hf; cases hf
    | @kept m0 _ hk0 hlr =>
      have view : ∀ (cu : Ways) (s5 s6 s7 s8 s9 : Option (PV G)), View [some (gmP C g (dctP true (lostD ls))), some (dat (rowsT R)), some (dat (beatsD g.l)), some (refP oa), some (refP wa), s5, s6, s7, s8, s9] [(wa, .dct true (waysD g.l cu)), (oa, .lst (orderD cu))]
          (([some (gmP C g (dctP true (lostD ls))), some (dat (rowsT R)), some (dat (beatsD g.l)), some (dat (.list (orderD cu))), some (dctP true (waysD g.l cu)), s5, s6, s7, s8, s9] : List (Option (PV G)))) := fun cu s5 s6 s7 s8 s9 => (View.refl.set 3 rfl (imp_lst (by simp))).set 4 rfl (imp_dct (by simp))
      refine s_cons (s1_while (fun m ρ => ∃ (ord : Ways) (n : Nat) (s6 s7 s8 s9 : Option (PV G)), LBr g ls R m ord n out ∧ OrdOk g R ord ∧ ρ = ⟨[some (gmP C g (dctP true (lostD ls))), some (dat (rowsT R)), some (dat (beatsD g.l)), some (refP oa), some (refP wa), some (dat (natD n)), s6, s7, s8, s9], [(wa, .dct true (waysD g.l ord)), (oa, .lst (orderD ord))]⟩)
        ⟨m0, _, 0, none, none, none, none, hlr, OrdOk.begin_ hg hR.pos, rfl⟩ ?_)
      rintro m ρ1 ⟨ord, n, s6, s7, s8, s9, hlr, hord, rfl⟩
      have ol := hord.len
      have oD : ∀ o : Ways, (orderD o).length = o.length := fun o => by unfold orderD; rw [List.length_map]
      have wD : ∀ o : Ways, (waysD g.l o).length = o.length := fun o => by unfold waysD; rw [List.length_map]
      refine ⟨decide (n < ord.length), t_own (view ord _ _ _ _ _) (EvT.cast (t_cmp c_lt (e_var 5) (e_lenL B (e_var 3))) (by rw [oD]; exact decide_eq_decide.mpr (by omega))), fun ht => ?_, fun hf => ?_⟩
      · have ht : n < ord.length := of_decide_eq_true ht
        rcases hlr.inv with ⟨h, _⟩ | ⟨p, sp, w, hn, hrest⟩
        · omega
        have hmem := List.mem_of_getElem? hn
        obtain ⟨pIn, hsR⟩ := hord.in_ _ hmem
        obtain ⟨wl, wb⟩ := hord.way _ hmem
        dsimp only at wl wb pIn hsR
        refine s_cons (s1_set 6 (p := dat (spotD (p, sp))) (e_own (view ord _ _ _ _ _) (e_ix (x_lst (at_map (f := fun q : Spot × List Nat => spotD q.1) hn)) (e_var 3) (e_var 5)) rfl) ?_)
        refine s_cons (s1_forU (ts := (g.keptBeats ls p).map fun q => (natD q.1, pairD q.2)) 7 8 (ItD.cast (i_lst (e_meth K.cls D2 (Nat.le_refl _) (e_var 0) rfl (a_cons (EvD.cast (e_slT (e_var 6) o_none (o_some (i := ((2 : Nat) : Int)) e_int)) (show _ = pairD p by rw [cut_to _ 2 (by simp)]; rfl)) a_nil) ⟨g, ls, p, hg, pIn, rfl, rfl⟩)) (by rw [List.map_map (f := fun q : Nat × Pair => (natD q.1, pairD q.2))]; rfl))
          (fun j ρ => ∃ (oj : Ways) (s7 s8 s9 : Option (PV G)), lbGo R sp w ((g.keptBeats ls p).take j) ord = .inr oj ∧ OrdOk g R oj ∧ ord <+: oj ∧ ρ = ⟨[some (gmP C g (dctP true (lostD ls))), some (dat (rowsT R)), some (dat (beatsD g.l)), some (refP oa), some (refP wa), some (dat (natD n)), some (dat (spotD (p, sp))), s7, s8, s9], [(wa, .dct true (waysD g.l oj)), (oa, .lst (orderD oj))]⟩)
          ⟨ord, s7, s8, s9, rfl, hord, List.prefix_rfl, rfl⟩ ?_ ?_)
        · rintro j q ρ1 hq ⟨oj, s7, s8, s9, hgo, hoj, hpre, rfl⟩
          obtain ⟨⟨a, x⟩, hkb, rfl⟩ := map_get hq
          obtain ⟨xIn, ab⟩ := kept_ok hg pIn (List.mem_of_getElem? hkb)
          obtain ⟨e1, e2, _⟩ := hR.row hsR
          have e3 : (rowAt R sp)[a]? = some ((rowAt R sp).getD a none) := by
            rw [List.getD_eq_getElem?_getD, List.getElem?_eq_getElem (by omega)]
            rfl
          have hjm := hpre.subset hmem
          have ojl := hoj.len
          have dgw : dget (waysD g.l oj) (spotD (p, sp)) = some (wayD g.l w) := by rw [way_get, way_look hoj.nd _ hjm]; rfl
          have hb : g.l.beats[a]? = some (g.l.beats.getD a ("", "")) := by rw [List.getD_eq_getElem?_getD, List.getElem?_eq_getElem ab]; rfl
          have ew : (w.map fun a => beatD (g.l.beats.getD a ("", ""))) ++ [beatD (g.l.beats.getD a ("", ""))] = (w ++ [a]).map fun a => beatD (g.l.beats.getD a ("", "")) := by rw [List.map_append]; rfl
          have hsplit : g.keptBeats ls p = (g.keptBeats ls p).take j ++ (a, x) :: (g.keptBeats ls p).drop (j + 1) := by
            have hj := List.getElem?_eq_some_iff.mp hkb
            conv => lhs; rw [← List.take_append_drop j (g.keptBeats ls p), List.drop_eq_getElem_cons hj.1, hj.2]
          have htake : (g.keptBeats ls p).take (j + 1) = (g.keptBeats ls p).take j ++ [(a, x)] := by rw [List.take_add_one, hkb]; rfl
          cases er : (rowAt R sp).getD a none with
          | none =>
            rw [er] at e3
            have hin : lbGo R sp w (g.keptBeats ls p) ord = .inl (w ++ [a]) := by
              rw [hsplit, lbGo_app, hgo]
              show (match (rowAt R sp).getD a none with | none => Sum.inl (w ++ [a]) | some t => _) = _
              rw [er]
            refine s_cons (s1_if (t := true) (t_cmp c_isN (e_ix (x_tup (at_map (f := optD) e3)) (e_ix (x_tup (at_map (f := rowT) e1)) (e_var 1) (e_ix (x_tup at2) (e_var 6) e_int)) (e_var 7)) e_non) (fun _ => ?_) (fun h => nomatch h))
            refine s_cons (s1_ret (e_own (d := wayD g.l (w ++ [a])) (view oj _ _ _ _ _) (EvD.cast (e_bin (b_cat (by rw [List.length_map]; simp; omega)) (e_ix (x_dct (spotD_key _) dgw) (e_var 4) (e_var 6)) (e_tup (ds := [beatD (g.l.beats.getD a ("", ""))]) (a_cons (e_ix (x_lst (at_map (f := beatD) hb)) (e_var 2) (e_var 7)) a_nil))) (congrArg PyData.tuple ew)) (keyable_way _ _)) ?_)
            rcases hrest with ⟨v, hv, rfl⟩ | ⟨m', o', _, hv, _⟩
            · rw [hin] at hv
              cases hv
              rfl
            · rw [hin] at hv
              cases hv
          | some t =>
            rw [er] at e3
            have tR := row_to hR hsR er
            have hin : lbGo R sp w ((g.keptBeats ls p).take (j + 1)) ord = .inr (lbPut oj (x, t) (w ++ [a])) := by
              rw [htake, lbGo_app, hgo]
              show (match (rowAt R sp).getD a none with | none => Sum.inl (w ++ [a]) | some t => _) = _
              rw [er]
              rfl
            refine s_cons (s1_if (t := false) (t_cmp c_isN (e_ix (x_tup (at_map (f := optD) e3)) (e_ix (x_tup (at_map (f := rowT) e1)) (e_var 1) (e_ix (x_tup at2) (e_var 6) e_int)) (e_var 7)) e_non) (fun h => nomatch h) fun _ => s_nil ?_)
            refine s_cons (s1_set 9 (p := dat (spotD (x, t))) (EvD.cast (e_bin (b_cat (ds := [.int (x.1 : Nat), .int (x.2 : Nat)]) (es := [optD (some t)]) (show 2 + 1 ≤ 100000 by decide)) (e_var 8) (e_tup (ds := [optD (some t)]) (a_cons (e_ix (x_tup (at_map (f := optD) e3)) (e_ix (x_tup (at_map (f := rowT) e1)) (e_var 1) (e_ix (x_tup at2) (e_var 6) e_int)) (e_var 7)) a_nil))) rfl) ?_)
            have dg := way_get g.l (x, t) oj
            have hoj2 := hoj.put hjm xIn tR ab
            have hpre2 := hpre.trans (lbPut_pre oj (x, t) (w ++ [a]))
            by_cases hx : (x, t) ∈ oj.map (·.1)
            · obtain ⟨q, hq1, hq2⟩ := List.mem_map.mp hx
              have hl : oj.lookup (x, t) = some q.2 := by rw [← hq2]; exact way_look hoj.nd q hq1
              rw [hl] at dg
              refine s_cons (s1_if (t := false) (t_own (view oj _ _ _ _ _) (EvT.cast (t_cmp (c_ninD (spotD_key (x, t))) (e_var 9) (e_var 4)) (by rw [dg]; rfl))) (fun h => nomatch h) fun _ => s_nil (s_nil ⟨_, some (dat (natD a)), some (dat (pairD x)), some (dat (spotD (x, t))), hin, hoj2, hpre2, ?_⟩))
              rw [show lbPut oj (x, t) (w ++ [a]) = oj from if_pos hx]
              rfl
            · rw [way_none hx] at dg
              refine s_cons (s1_if (t := true) (t_own (view oj _ _ _ _ _) (EvT.cast (t_cmp (c_ninD (spotD_key (x, t))) (e_var 9) (e_var 4)) (by rw [dg]; rfl))) (fun _ => ?_) (fun h => nomatch h))
              refine s_cons (s1_dput 0 (spotD_key (x, t)) (e_own (d := wayD g.l (w ++ [a])) (view oj _ _ _ _ _) (EvD.cast (e_bin (b_cat (by rw [List.length_map]; simp; omega)) (e_ix (x_dct (spotD_key _) dgw) (e_var 4) (e_var 6)) (e_tup (ds := [beatD (g.l.beats.getD a ("", ""))]) (a_cons (e_ix (x_lst (at_map (f := beatD) hb)) (e_var 2) (e_var 7)) a_nil))) (congrArg PyData.tuple ew)) (keyable_way _ _)) (e_var 4) (e_var 9) rfl (by rw [wD]; omega) ?_)
              refine s_cons (s1_append 1 (d := spotD (x, t)) (e_var 3) rfl (e_var 9) (by rw [oD]; omega) (s_nil (s_nil ⟨_, some (dat (natD a)), some (dat (pairD x)), some (dat (spotD (x, t))), hin, hoj2, hpre2, ?_⟩)))
              have e : lbPut oj (x, t) (w ++ [a]) = oj ++ [((x, t), w ++ [a])] := if_neg hx
              have e4 : waysD g.l (oj ++ [((x, t), w ++ [a])]) = waysD g.l oj ++ [(spotD (x, t), wayD g.l (w ++ [a]))] := by unfold waysD; rw [List.map_append]; rfl
              have e5 : orderD (oj ++ [((x, t), w ++ [a])]) = orderD oj ++ [spotD (x, t)] := by unfold orderD; rw [List.map_append]; rfl
              rw [e, e4, e5, dput_new dg]
              rfl
        · rintro ρ1 ⟨oj, s7, s8, s9, hgo, hoj, hpre, rfl⟩
          rw [List.length_map, List.take_length] at hgo
          rcases hrest with ⟨v, hv, _⟩ | ⟨m', o', e, hv, hlr'⟩
          · rw [hgo] at hv
            cases hv
          · rw [hgo] at hv
            cases hv
            subst e
            exact s_cons (s1_set 5 (EvD.cI (e_bin b_add (e_var 5) e_int) (show _ = ((n + 1 : Nat) : Int) by omega)) (s_nil ⟨m', by omega, oj, n + 1, some (dat (spotD (p, sp))), s7, s8, s9, hlr', hoj, rfl⟩))
      · have hf : ¬ n < ord.length := of_decide_eq_false hf
        rcases hlr.inv with ⟨_, rfl⟩ | ⟨p, sp, w, hn, _⟩
        · exact s_cons (s1_ret e_non rfl)
        · exact absurd (List.getElem?_eq_some_iff.mp hn).1 hf
end
end MR
/-! T30: news, beyond. -/
namespace MR
open PySem PySem.Spec PyProof.Rows L2
theorem inD_int (n : Nat) (l : List Nat) : inD (.int (n : Nat)) (l.map fun k => PyData.int (k : Nat)) = decide (n ∈ l) := by
  unfold inD inV
  induction l with
  | nil => rfl
  | cons x l ih =>
    rw [List.map_cons, List.map_cons, List.any_cons, ih]
    have e : L2.eqV (vOf (.int (x : Nat))) (vOf (.int (n : Nat))) = decide (x = n) := by
      show L2.eqV (.int (x : Nat)) (.int (n : Nat)) = _
      unfold L2.eqV
      show decide (((x : Nat) : Int) = ((n : Nat) : Int)) = _
      exact decide_eq_decide.mpr (by omega)
    rw [e]
    by_cases h : x = n
    · subst h; simp
    · have h2 : ¬ n = x := fun z => h z.symm
      simp [h, h2]
section
variable {G : GC} {L : LC G} {ρ : Rho G} {pos p1 : Pos} {e e1 e2 : Expr} {C : Addr}
theorem e_game {j : Nat} (D2 : MkM G 12 "Game" C ["self", "standard", "sentences"] (RInit G C)) (hj : 13 ≤ L.k) {l : Lt} {range ss : List Sen} {cl : PyData} {g : Gm} {ls : Lost} (hp : Plays l range ss g ls) (h1 : EvD L ρ e1 (dat (stdD l range cl))) (h2 : EvD L ρ e2 (dat (.list (ss.map Sen.enc)))) (hg : Gl L.X "Game" := by rfl)
    (he : starEach [e1, e2] L.X.env = (false, eval e1 L.X.env) :: starEach [e2] L.X.env := by rfl) (he2 : starEach [e2] L.X.env = (false, eval e2 L.X.env) :: starEach [] L.X.env := by rfl) (hpl : (backTo pos (starEach [e2] L.X.env)).any (·.1) = false := by rfl) : EvD L ρ (.Call (.Name "Game" p1) [e1, e2] [] pos) (gmP C g (dctP true (lostD ls))) := by
  obtain ⟨o, q1, q2, q3, q4⟩ := hp.met G.w
  obtain ⟨l', lim, rows⟩ := g
  have e : l' = l := hp.hl
  subst e
  refine em_frz (em_make (Pw := fun x r ρ' => r = dat .none ∧ ∃ d, ρ'.ow = [(d, .dct true (lostD ls))] ∧ ρ'.sl[0]? = some (some (insA C x (gmF ⟨l', lim, rows⟩ (refP d))))) D2 hj (a_cons h1 (a_cons h2 a_nil he2) he) (fun a => ⟨a, l', range, ss, cl, lim, rows, o, ls, hp.ok, hp.r, hp.s, hp.n1, hp.n2, hp.lim, hp.rows, q1, q2, q3, q4, rfl, rfl, rfl⟩) (fun a r ρc ⟨e1, d, e2, e3⟩ => ⟨e1, _, e3, fun B v h => h.1⟩) hg (by decide) he hpl) fun p ρ' h => ?_
  obtain ⟨a, ρc, ⟨_, d, e2, e3⟩, e4, e5⟩ := h
  subst e5
  rw [e3] at e4
  have e4 := Option.some.inj (Option.some.inj e4)
  subst e4
  exact ⟨rfl, [(d, .dct true (lostD ls))], by rw [e2], fun Bv hv v hp => imp_gm (imp_dct (by simp)) Bv hv v hp.2⟩
theorem scNews : FnScope ["standard", "number", "claims", "mine", "others", "clause"] ["standard", "number", "claims"] (defScope (topS 66)) := ⟨rfl, rfl, rfl, by decide +kernel, rfl, by decide +kernel, by decide +kernel⟩
def otherB (cl : List Cla) (cs : List Str) (n : Nat) (c : Cla) : Bool := !decide (c.num = n) && decide (c.num ∈ numsOf cl cs)
def RNews (G : GC) : Rel G := fun ps r => ∃ (S : Std) (cs : List Str) (n : Nat) (c0 : Cla) (rest : List Cla) (g : Gm) (ls : Lost) (R : Rows) (out : Option (List Nat)), S.Ok ∧ ClaimsOk cs ∧ n ∈ numsOf S.cl cs ∧ S.cl.filter (fun c => decide (c.num = n)) = c0 :: rest ∧ Plays S.l S.range ((S.cl.filter (otherB S.cl cs n)).map Cla.sen) g ls ∧ Watch S.l c0.sen R ∧ R.length ≤ 60 ∧ LB g ls R out ∧
  ps = [dat S.enc, dat (natD n), dat (strsD cs)] ∧ r = dat (runD S.l out)
theorem ints_flat (l : List Nat) : (l.map fun k => PyData.int (k : Nat)).all flatD = true := by rw [List.all_map]; exact List.all_eq_true.mpr fun _ _ => rfl
theorem fn_news (B : Bs G) (F : FunTK G (topS 66) "news" ["standard", "number", "claims"] 2 ["claims"]) (D1 : FnD G 13 "need_claimed" ["standard", "claims"] (RNeedCd G)) (D2 : MkM G 12 "Game" C ["self", "standard", "sentences"] (RInit G C)) (D3 : FnD G 1 "is_whole" ["thing"] (RIsWhole G)) (D4 : FnD G 1 "binding_by" ["standard", "claims"] (RBinding G)) (D5 : FnD G 5 "least_break" ["game", "rows"] (RLeastBreak G C)) (D6 : FnD G 9 "watcher_by" ["letters", "sentence"] (RWatch G)) :
    FnK G 15 "news" ["standard", "number", "claims"] 2 ["claims"] (RNews G) := by
  refine mk_defK (k := 14) F scNews (fun pvs r ⟨_, _, _, _, _, _, _, _, _, _, _, _, _, _, _, _, _, h, _⟩ => by rw [h]; rfl) fun pvs r ⟨S, cs, n, c0, rest, g, ls, R, out, hS, hc, hn, hc0, hp, hw, hR, hlb, h1, h2⟩ f cd A outer s H E hr => ?_
  subst h1 h2
  have n8 := hS.c.n8
  have hgl := hp.hl
  refine s_cons (s1_drop (e_call D1 (show 13 ≤ 14 by decide) (a_cons (e_var 0) (a_cons (e_var 2) a_nil)) ⟨S, cs, hS, hc, rfl, rfl⟩) ?_)
  refine s_cons (s1_if (t := false) (EvT.cast (t_w (w_or (t_not (t_val (e_call D3 (show 1 ≤ 14 by decide) (a_cons (e_var 1) a_nil) ⟨_, rfl, rfl⟩))) fun _ => w_or1 (t_cmp (c_ninT (ds := (numsOf S.cl cs).map fun k => PyData.int (k : Nat)) rfl (ints_flat _)) (e_var 1) (e_call D4 (show 1 ≤ 14 by decide) (a_cons (e_var 0) (a_cons (e_var 2) a_nil)) ⟨S.l, S.range, S.cl, cs, by omega, rfl, rfl⟩)))) (by show (!true || !inD (.int (n : Nat)) _) = false; rw [inD_int, decide_eq_true hn]; rfl)) (fun h => nomatch h) fun _ => s_nil ?_)
  refine s_cons (s1_lc 3 (LcR.cast (lcNIf (own := [("clause", 5)]) (ds := S.cl.map Cla.enc) 5 (S.cl.map fun c => if decide (c.num = n) then some c.sen.enc else none) (i_tup (e_ix (x_tup at2) (e_var 0) e_int)) (blk_body (by decide +kernel)) (by simp) (by rw [List.length_map]; omega) (fun s H C' ce fp k d x hd hx => ?_) (fun s H C' ce fp k d x hd hx => ?_)) (by rw [filter_map_if])) ?_)
  · obtain ⟨c, hcc, rfl⟩ := map_get hd
    obtain ⟨c2, hc2, rfl⟩ := map_get hx
    rw [hcc] at hc2
    cases hc2
    exact EvT.cast (t_cmp c_eqI (e_ix (x_tup at0) (e_var 5) e_int) (e_var 1)) (by
      by_cases h : c.num = n
      · rw [decide_eq_true h, decide_eq_true (by omega)]; rfl
      · rw [decide_eq_false h, decide_eq_false (by omega)]; rfl)
  · obtain ⟨c, hcc, rfl⟩ := map_get hd
    obtain ⟨c2, hc2, h⟩ := map_get hx
    rw [hcc] at hc2
    cases hc2
    split at h
    · cases h
      exact e_ix (x_tup at2) (e_var 5) e_int
    · cases h
  refine s_cons (s1_lc 4 (LcR.cast (lcNIf (own := [("clause", 5)]) (ds := S.cl.map Cla.enc) 5 (S.cl.map fun c => if otherB S.cl cs n c then some c.sen.enc else none) (i_tup (e_ix (x_tup at2) (e_var 0) e_int)) (blk_body (by decide +kernel)) (by simp) (by rw [List.length_map]; omega) (fun s H C' ce fp k d x hd hx => ?_) (fun s H C' ce fp k d x hd hx => ?_)) (show _ = ((S.cl.filter (otherB S.cl cs n)).map Cla.sen).map Sen.enc by rw [filter_map_if, List.map_map]; rfl)) ?_)
  · obtain ⟨c, hcc, rfl⟩ := map_get hd
    obtain ⟨c2, hc2, rfl⟩ := map_get hx
    rw [hcc] at hc2
    cases hc2
    refine EvT.cast (t_w (w_and (t_cmp c_neI (e_ix (x_tup at0) (e_var 5) e_int) (e_var 1)) fun _ => w_and1 (t_cmp (c_inT (ds := (numsOf S.cl cs).map fun k => PyData.int (k : Nat)) rfl (ints_flat _)) (e_ix (x_tup at0) (e_var 5) e_int) (e_call D4 (show 1 ≤ 14 by decide) (a_cons (e_var 0) (a_cons (e_var 2) a_nil)) ⟨S.l, S.range, S.cl, cs, by omega, rfl, rfl⟩)))) ?_
    rw [inD_int]
    have e : decide (((c.num : Nat) : Int) = ((n : Nat) : Int)) = decide (c.num = n) := decide_eq_decide.mpr (by omega)
    rw [e]
    show otherB S.cl cs n c = Option.isSome (if otherB S.cl cs n c then _ else _)
    cases otherB S.cl cs n c <;> rfl
  · obtain ⟨c, hcc, rfl⟩ := map_get hd
    obtain ⟨c2, hc2, h⟩ := map_get hx
    rw [hcc] at hc2
    cases hc2
    split at h
    · cases h
      exact e_ix (x_tup at2) (e_var 5) e_int
    · cases h
  have c0m : c0 ∈ S.cl := by
    have : c0 ∈ S.cl.filter (fun c => decide (c.num = n)) := by rw [hc0]; exact List.mem_cons_self
    exact (List.mem_filter.mp this).1
  refine s_cons (s1_ret (e_call D5 (show 5 ≤ 14 by decide) (a_cons (e_game (j := 0) D2 (show 13 ≤ 14 by decide) hp (e_var 0) (e_var 4)) (a_cons (e_call D6 (show 9 ≤ 14 by decide) (a_cons (e_ix (x_tup at0) (e_var 0) e_int) (a_cons (e_ix (x_lst (ds := (S.cl.filter fun c => decide (c.num = n)).map fun c => c.sen.enc) (d := c0.sen.enc) (by rw [hc0]; exact at0)) (e_var 3) e_int) a_nil)) ⟨S.l, c0.sen, R, hS.l, (hS.c.ok c0 c0m).s, hw, rfl, rfl⟩) a_nil)) ⟨g, ls, R, out, hp.ok, hp.m1, hp.m2, hR, by rw [hgl]; exact hw.ok, hlb, rfl, rfl⟩) ?_)
  rw [hgl]
theorem scBeyond : FnScope ["standard", "other", "claims"] ["standard", "other", "claims"] (defScope (topS 67)) := ⟨rfl, rfl, rfl, by decide +kernel, rfl, by decide +kernel, by decide +kernel⟩
theorem lay_rows (R : Rows) : Lay 2 (rowsT R) := lay_tup fun d hd => by
  obtain ⟨r, _, rfl⟩ := List.mem_map.mp hd
  exact lay_tup fun d hd => by
    obtain ⟨x, _, rfl⟩ := List.mem_map.mp hd
    cases x with
    | none => exact lay_none
    | some k => exact lay_int
def RBeyond (G : GC) : Rel G := fun ps r => ∃ (S O : Std) (cs : List Str) (g : Gm) (ls : Lost) (R : Rows) (out : Option (List Nat)), S.Ok ∧ O.Ok ∧ ClaimsOk cs ∧ O.l = S.l ∧ O.range = S.range ∧ Plays S.l S.range (sensOf S.cl cs) g ls ∧ Together S.l (sensOf O.cl cs) R ∧ R.length ≤ 60 ∧ LB g ls R out ∧
  ps = [dat S.enc, dat O.enc, dat (strsD cs)] ∧ r = dat (runD S.l out)
theorem sensOf_ok {S : Std} (hS : S.Ok) (cs : List Str) : (∀ s ∈ sensOf S.cl cs, s.Ok S.l) ∧ (sensOf S.cl cs).length ≤ 8 := by
  constructor
  · intro s hs
    obtain ⟨c, hc, rfl⟩ := List.mem_map.mp hs
    exact (hS.c.ok c (List.mem_filter.mp hc).1).s
  · unfold sensOf
    rw [List.length_map]
    exact Nat.le_trans (List.length_filter_le _ _) hS.c.n8
theorem fn_beyond (F : FunTK G (topS 67) "beyond" ["standard", "other", "claims"] 2 ["claims"]) (D1 : FnD G 12 "need_standard" ["thing"] (RNeedS G)) (D2 : FnD G 3 "need_claims" ["thing"] (RNeedC G)) (D3 : FnD G 11 "range_rows" ["standard"] (RRange G)) (D4 : FnD G 14 "game_of" ["standard", "claims"] (RGameOf G C)) (D5 : FnD G 5 "least_break" ["game", "rows"] (RLeastBreak G C)) (D6 : FnD G 10 "together_by" ["letters", "sentences"] (RTogether G)) (D7 : FnD G 1 "sentences_by" ["standard", "claims"] (RSentences G)) :
    FnK G 15 "beyond" ["standard", "other", "claims"] 2 ["claims"] (RBeyond G) := by
  refine mk_defK (k := 14) F scBeyond (fun pvs r ⟨_, _, _, _, _, _, _, _, _, _, _, _, _, _, _, _, h, _⟩ => by rw [h]; rfl) fun pvs r ⟨S, O, cs, g, ls, R, out, hS, hO, hc, el, er, hp, ht, hR, hlb, h1, h2⟩ f cd A outer s H E hr => ?_
  subst h1 h2
  have hgl := hp.hl
  have n8 := hO.c.n8
  obtain ⟨k1, k2⟩ := sensOf_ok hO cs
  have lOk : O.l.Ok := hO.l
  have lay1 : SeqAt.shaped S.l.enc = true := ((lay_lt hS.l).mono (show 0 + 2 ≤ 64 by decide)).shaped
  refine s_cons (s1_drop (e_call D1 (show 12 ≤ 14 by decide) (a_cons (e_var 0) a_nil) ⟨S, hS, rfl, rfl⟩) ?_)
  refine s_cons (s1_drop (e_call D1 (show 12 ≤ 14 by decide) (a_cons (e_var 1) a_nil) ⟨O, hO, rfl, rfl⟩) ?_)
  refine s_cons (s1_drop (e_call D2 (show 3 ≤ 14 by decide) (a_cons (e_var 2) a_nil) ⟨cs, hc, rfl, rfl⟩) ?_)
  obtain ⟨Ol, Or, Oc⟩ := O
  dsimp only at el er n8 k1 k2 lOk ht
  subst el er
  refine s_cons (s1_if (t := false) (EvT.cast (t_w (w_or (t_cmp (c_ne (t := false) lay1 lay1 (SeqAt.eqv_refl _ (lay_lt (n := 0) hS.l).1)) (e_ix (x_tup at0) (e_var 0) e_int) (e_ix (x_tup at0) (e_var 1) e_int)) fun _ => w_or1 (t_cmp (c_ne (t := false) ((lay_rows g.lim).mono (by decide)).shaped ((lay_rows g.lim).mono (by decide)).shaped (SeqAt.eqv_refl _ (lay_rows g.lim).1)) (e_call D3 (show 11 ≤ 14 by decide) (a_cons (e_var 0) a_nil) ⟨S.l, S.range, _, g.lim, hS.l, hp.r, hp.n1, hp.lim, rfl, rfl⟩) (e_call D3 (show 11 ≤ 14 by decide) (a_cons (e_var 1) a_nil) ⟨S.l, S.range, _, g.lim, hS.l, hp.r, hp.n1, hp.lim, rfl, rfl⟩)))) rfl) (fun h => nomatch h) fun _ => s_nil ?_)
  refine s_cons (s1_ret (e_call D5 (show 5 ≤ 14 by decide) (a_cons (e_call D4 (Nat.le_refl _) (a_cons (e_var 0) (a_cons (e_var 2) a_nil)) (hp.game hS)) (a_cons (e_call D6 (show 10 ≤ 14 by decide) (a_cons (e_ix (x_tup at0) (e_var 1) e_int) (a_cons (e_call D7 (show 1 ≤ 14 by decide) (a_cons (e_var 1) (a_cons (e_var 2) a_nil)) ⟨S.l, S.range, Oc, cs, by omega, rfl, rfl⟩) a_nil)) ⟨S.l, sensOf Oc cs, R, _, hS.l, k1, by omega, ht, .inl rfl, rfl, rfl⟩) a_nil)) ⟨g, ls, R, out, hp.ok, hp.m1, hp.m2, hR, by rw [hgl]; exact ht.ok, hlb, rfl, rfl⟩) ?_)
  rw [hgl]
end
end MR
/-! T31: the law's draws. -/
namespace MR
open PySem PySem.Spec PyProof.Rows L2
abbrev St3 := Int × Int × Int
def stL (n : St3) : List PyData := [.int n.1, .int n.2.1, .int n.2.2]
def Good (n : St3) : Prop := 0 ≤ n.2.1 ∧ n.2.1 < 2147483648
/-- a def that draws: its first thing is the state -/
def RRnd {G : GC} (A : List (PV G) → (PV G → Prop) → Prop) : RelM G := fun ps own Pw => ∃ (a : Addr) (n : St3) (args : List (PV G)) (X : PV G → Prop), Good n ∧ A args X ∧ ps = refP a :: args ∧ own = [(a, .lst (stL n))] ∧ Pw = fun r ρ' => ∃ n', Good n' ∧ X r ∧ ρ'.ow = [(a, .lst (stL n'))]
def Rn {G : GC} (sl : List (Option (PV G))) (rest : Own G) (a : Addr) (X : PV G → Prop) (p : PV G) (ρ' : Rho G) : Prop := ∃ n', Good n' ∧ X p ∧ ρ' = ⟨sl, rest ++ [(a, .lst (stL n'))]⟩
section
variable {G : GC} {L : LC G} {ρ : Rho G} {pos p1 p2 : Pos} {e : Expr} {es : List Expr} {C a : Addr} {sl : List (Option (PV G))} {n : St3}
theorem em_rnd {j : Nat} {x : Str} {pf : Pos} {pn : List Str} {A : List (PV G) → (PV G → Prop) → Prop} {args : List (PV G)} {rest : Own G} {X : PV G → Prop} (F : FnM G j x pn (RRnd A)) (hj : j ≤ L.k) (he : EvD L ⟨sl, rest ++ [(a, .lst (stL n))]⟩ e (refP a)) (ha : EvA L ⟨sl, rest ++ [(a, .lst (stL n))]⟩ es args) (hn : Good n) (hA : A args X) (hg : Gl L.X x := by rfl) (hdb : (x == ("__debug__" : Str)) = false := by decide)
    (hst : starEach (e :: es) L.X.env = (false, eval e L.X.env) :: starEach es L.X.env := by rfl) (hpl : (backTo pos (starEach es L.X.env)).any (·.1) = false := by rfl) : EvM L ⟨sl, rest ++ [(a, .lst (stL n))]⟩ (.Call (.Name x pf) (e :: es) [] pos) (Rn sl rest a X) :=
  .mk fun A' B0 B σ H Q E k => em_callR (Pw := fun r ρ' => ∃ n', Good n' ∧ X r ∧ ρ'.ow = [(a, .lst (stL n'))]) F hj (a_cons he ha hst) List.perm_append_comm ⟨a, n, args, X, hn, hA, rfl, rfl, rfl⟩ hg hdb hst hpl A' B0 B σ H Q E fun p ρ' ⟨ρc, ⟨n', h1, h2, h3⟩, e⟩ => k p ρ' ⟨n', h1, h2, by rw [e, h3]⟩
end
section
variable {G : GC} {L : LC G} {ρ : Rho G} {pos p1 p2 : Pos} {e : Expr} {es : List Expr} {C a : Addr} {sl : List (Option (PV G))} {n : St3}
theorem e_st {k : Nat} {i : Int} {d : PyData} {x : Str} (h : sl[0]? = some (some (refP a))) (hi : atI (stL n) i = some d) (hd : keyable d = true) (hk : ∀ sl' : List (Option (PV G)), sl'[0]? = some (some (dat (.list (stL n)))) → EvD L ⟨sl', []⟩ (.Name x p1) (dat (.list (stL n)))) : EvD L ⟨sl, [(a, .lst (stL n))]⟩ (.Subscript (.Name x p1) (.Constant (.int i) k p2) pos) (dat d) :=
  e_own (view1L (ds := stL n) 0 h) (e_ix (x_lst hi) (hk _ (by
    have hl : 0 < sl.length := (List.getElem?_eq_some_iff.mp h).1
    rw [List.getElem?_set_self hl])) e_int) hd
theorem scChoice : FnScope ["_law_state_here", "_law_many", "_law_found", "_law_mixed"] ["_law_state_here", "_law_many"] (defScope (topS 71)) := ⟨rfl, rfl, rfl, by decide +kernel, rfl, by decide +kernel, by decide +kernel⟩
def AChoice (args : List (PV G)) (X : PV G → Prop) : Prop := ∃ many : Nat, 1 ≤ many ∧ many ≤ 1000 ∧ args = [dat (natD many)] ∧ X = fun r => ∃ v : Nat, v < many ∧ r = dat (natD v)
theorem fn_choice (F : FunT G 71 "_law_choice" ["_law_state_here", "_law_many"]) : FnM G 1 "_law_choice" ["_law_state_here", "_law_many"] (RRnd AChoice) := by
  refine mk_defM (k := 0) F scChoice (fun pvs own Pw ⟨_, _, _, _, _, ⟨_, _, _, h, _⟩, h2, _⟩ => by rw [h2, h]; rfl) fun pvs own Pw ⟨a, n, args, X, hn, ⟨many, m1, m2, hX1, hX2⟩, h1, h2, h3⟩ f cd A outer s H E hr => ?_
  subst hX1 hX2 h1 h2 h3
  obtain ⟨n0, n1, n2⟩ := n
  obtain ⟨g1, g2⟩ := hn
  dsimp only at g1 g2
  refine s_cons (s1_if (t := decide (0 < n0)) (t_cmp c_gt (e_st (d := .int n0) rfl rfl rfl fun _ h => e_var 0 h) e_int) (fun ht => ?_) fun hf => s_nil ?_)
  · have ht : 0 < n0 := of_decide_eq_true ht
    refine s_cons (s1_set 2 (e_bin (b_mod (i := n0) (j := ((many : Nat) : Int)) (by omega)) (e_st (d := .int n0) rfl rfl rfl fun _ h => e_var 0 h) (e_var 1)) ?_)
    refine s_cons (s1_lput 0 0 (e_bin (b_fdiv (i := n0) (j := ((many : Nat) : Int)) ⟨by omega, by omega⟩) (e_st (d := .int n0) rfl rfl rfl fun _ h => e_var 0 h) (e_var 1)) (e_var 0) e_int rfl rfl ?_)
    refine s_cons (s1_ret (e_var 2) ⟨(n0 / ((many : Nat) : Int), n1, n2), ⟨g1, g2⟩, ⟨(n0 % ((many : Nat) : Int)).toNat, ?_, ?_⟩, rfl⟩)
    · have h1 := Int.emod_nonneg n0 (show ((many : Nat) : Int) ≠ 0 by omega)
      have h2 := Int.emod_lt_of_pos n0 (show 0 < ((many : Nat) : Int) by omega)
      omega
    · have h1 := Int.emod_nonneg n0 (show ((many : Nat) : Int) ≠ 0 by omega)
      show dat (.int (n0 % ((many : Nat) : Int))) = dat (.int (((n0 % ((many : Nat) : Int)).toNat : Nat) : Int))
      rw [Int.toNat_of_nonneg h1]
  · refine s_cons (s1_lput 0 2 (e_bin b_add (e_st (d := .int n2) rfl rfl rfl fun _ h => e_var 0 h) e_int) (e_var 0) e_int rfl rfl ?_)
    show StD _ ⟨_, [(a, .lst (stL (n0, n1, n2 + 1)))]⟩ _ _
    have cm : CMul n1 48271 := .inl ⟨by omega, by omega⟩
    refine s_cons (s1_lput 0 1 (e_bin (b_mod (j := 2147483647) (by omega)) (e_bin b_add (e_bin b_add (e_bin (b_mul cm) (e_st (d := .int n1) rfl rfl rfl fun _ h => e_var 0 h) e_int) e_int) (e_st (d := .int (n2 + 1)) rfl rfl rfl fun _ h => e_var 0 h)) e_int) (e_var 0) e_int rfl rfl ?_)
    show StD _ ⟨_, [(a, .lst (stL (n0, (n1 * 48271 + 29 + (n2 + 1)) % 2147483647, n2 + 1)))]⟩ _ _
    have k1 := Int.emod_nonneg (n1 * 48271 + 29 + (n2 + 1)) (show (2147483647 : Int) ≠ 0 by decide)
    have k2 := Int.emod_lt_of_pos (n1 * 48271 + 29 + (n2 + 1)) (show (0 : Int) < 2147483647 by decide)
    generalize (n1 * 48271 + 29 + (n2 + 1)) % 2147483647 = m at *
    have cm2 : CMul m m := .inl ⟨by omega, by omega⟩
    have cm3 : CMul 39373 m := .inl ⟨by decide, by decide⟩
    refine s_cons (s1_set 3 (e_bin (b_mod (j := 2147483629) (by omega)) (e_bin b_add (e_bin b_add (e_bin (b_mul cm2) (e_st (d := .int m) rfl rfl rfl fun _ h => e_var 0 h) (e_st (d := .int m) rfl rfl rfl fun _ h => e_var 0 h)) (e_bin (b_mul cm3) e_int (e_st (d := .int m) rfl rfl rfl fun _ h => e_var 0 h))) e_int) e_int) ?_)
    have k3 := Int.emod_nonneg (m * m + 39373 * m + 7) (show (2147483629 : Int) ≠ 0 by decide)
    have k4 := Int.emod_lt_of_pos (m * m + 39373 * m + 7) (show (0 : Int) < 2147483629 by decide)
    generalize (m * m + 39373 * m + 7) % 2147483629 = x at *
    have cm4 : CMul x x := .inl ⟨by omega, by omega⟩
    have cm5 : CMul 50021 x := .inl ⟨by decide, by decide⟩
    refine s_cons (s1_set 3 (e_bin (b_mod (j := 2147483587) (by omega)) (e_bin b_add (e_bin (b_mul cm4) (e_var 3) (e_var 3)) (e_bin (b_mul cm5) e_int (e_var 3))) e_int) ?_)
    generalize (x * x + 50021 * x) % 2147483587 = y at *
    refine s_cons (s1_ret (e_bin (b_mod (j := ((many : Nat) : Int)) (by omega)) (e_bin (b_fdiv (j := 8) ⟨by omega, by omega⟩) (e_var 3) e_int) (e_var 1)) ⟨(n0, m, n2 + 1), ⟨k1, by show m < _; omega⟩, ⟨(y / 8 % ((many : Nat) : Int)).toNat, ?_, ?_⟩, rfl⟩)
    · have h1 := Int.emod_nonneg (y / 8) (show ((many : Nat) : Int) ≠ 0 by omega)
      have h2 := Int.emod_lt_of_pos (y / 8) (show 0 < ((many : Nat) : Int) by omega)
      omega
    · have h1 := Int.emod_nonneg (y / 8) (show ((many : Nat) : Int) ≠ 0 by omega)
      show dat (.int (y / 8 % ((many : Nat) : Int))) = dat (.int (((y / 8 % ((many : Nat) : Int)).toNat : Nat) : Int))
      rw [Int.toNat_of_nonneg h1]
/-- choice -/
theorem em_choice {j : Nat} {pf : Pos} {e2 : Expr} {rest : Own G} (D : FnM G 1 "_law_choice" ["_law_state_here", "_law_many"] (RRnd AChoice)) (hj : 1 ≤ L.k) (many : Nat) (he : EvD L ⟨sl, rest ++ [(a, .lst (stL n))]⟩ e (refP a)) (h2 : EvD L ⟨sl, rest ++ [(a, .lst (stL n))]⟩ e2 (dat (natD many))) (hn : Good n) (m1 : 1 ≤ many := by decide) (m2 : many ≤ 1000 := by decide)
    (hg : Gl L.X "_law_choice" := by rfl) (hs1 : starEach [e, e2] L.X.env = (false, eval e L.X.env) :: starEach [e2] L.X.env := by rfl) (hs2 : starEach [e2] L.X.env = (false, eval e2 L.X.env) :: starEach [] L.X.env := by rfl) (hpl : (backTo pos (starEach [e2] L.X.env)).any (·.1) = false := by rfl) :
    EvM L ⟨sl, rest ++ [(a, .lst (stL n))]⟩ (.Call (.Name "_law_choice" pf) [e, e2] [] pos) (Rn sl rest a fun r => ∃ v : Nat, v < many ∧ r = dat (natD v)) :=
  em_rnd D hj he (a_cons h2 a_nil hs2) hn ⟨many, m1, m2, rfl, rfl⟩ hg (by decide) hs1 hpl
/-- one of them -/
def XPick {G : GC} (ds : List PyData) (r : PV G) : Prop := ∃ (v : Nat) (d : PyData), ds[v]? = some d ∧ r = dat d
/-- [..][choice(state, many)] -/
theorem em_pick {j : Nat} {pf pc : Pos} {e0 e2 : Expr} {rest : Own G} {ds : List PyData} (hl : EvD L ⟨sl, rest ++ [(a, .lst (stL n))]⟩ e0 (dat (.list ds))) (D : FnM G 1 "_law_choice" ["_law_state_here", "_law_many"] (RRnd AChoice)) (hj : 1 ≤ L.k) (he : EvD L ⟨sl, rest ++ [(a, .lst (stL n))]⟩ e (refP a)) (h2 : EvD L ⟨sl, rest ++ [(a, .lst (stL n))]⟩ e2 (dat (.int ds.length))) (hn : Good n) (m1 : 1 ≤ ds.length := by decide) (m2 : ds.length ≤ 1000 := by decide)
    (hg : Gl L.X "_law_choice" := by rfl) (hs1 : starEach [e, e2] L.X.env = (false, eval e L.X.env) :: starEach [e2] L.X.env := by rfl) (hs2 : starEach [e2] L.X.env = (false, eval e2 L.X.env) :: starEach [] L.X.env := by rfl) (hpl : (backTo pc (starEach [e2] L.X.env)).any (·.1) = false := by rfl)
    (hix : PlainIx (.Call (.Name "_law_choice" pf) [e, e2] [] pc) := by exact fun _ _ => rfl) :
    EvM L ⟨sl, rest ++ [(a, .lst (stL n))]⟩ (.Subscript e0 (.Call (.Name "_law_choice" pf) [e, e2] [] pc) pos) (Rn sl rest a (XPick ds)) :=
  em_ixL hl (em_choice (j := 0) D hj ds.length he h2 hn m1 m2 hg hs1 hs2 hpl) (fun q ρ2 ⟨n', hn', ⟨v, hv, e⟩, e3⟩ => ⟨_, _, e, atI_nat (List.getElem?_eq_getElem hv), n', hn', ⟨v, _, List.getElem?_eq_getElem hv, rfl⟩, e3⟩) hix
/-- (..)[choice(state, many)] -/
theorem em_pickT {j : Nat} {pf pc : Pos} {e0 e2 : Expr} {rest : Own G} {ds : List PyData} (hl : EvD L ⟨sl, rest ++ [(a, .lst (stL n))]⟩ e0 (dat (.tuple ds))) (D : FnM G 1 "_law_choice" ["_law_state_here", "_law_many"] (RRnd AChoice)) (hj : 1 ≤ L.k) (he : EvD L ⟨sl, rest ++ [(a, .lst (stL n))]⟩ e (refP a)) (h2 : EvD L ⟨sl, rest ++ [(a, .lst (stL n))]⟩ e2 (dat (.int ds.length))) (hn : Good n) (m1 : 1 ≤ ds.length := by decide) (m2 : ds.length ≤ 1000 := by decide)
    (hg : Gl L.X "_law_choice" := by rfl) (hs1 : starEach [e, e2] L.X.env = (false, eval e L.X.env) :: starEach [e2] L.X.env := by rfl) (hs2 : starEach [e2] L.X.env = (false, eval e2 L.X.env) :: starEach [] L.X.env := by rfl) (hpl : (backTo pc (starEach [e2] L.X.env)).any (·.1) = false := by rfl)
    (hix : PlainIx (.Call (.Name "_law_choice" pf) [e, e2] [] pc) := by exact fun _ _ => rfl) :
    EvM L ⟨sl, rest ++ [(a, .lst (stL n))]⟩ (.Subscript e0 (.Call (.Name "_law_choice" pf) [e, e2] [] pc) pos) (Rn sl rest a (XPick ds)) :=
  em_ixT hl (em_choice (j := 0) D hj ds.length he h2 hn m1 m2 hg hs1 hs2 hpl) (fun q ρ2 ⟨n', hn', ⟨v, hv, e⟩, e3⟩ => ⟨_, _, e, atI_nat (List.getElem?_eq_getElem hv), n', hn', ⟨v, _, List.getElem?_eq_getElem hv, rfl⟩, e3⟩) hix
end
end MR
/-! T32: letters, claims, atoms, sayings. -/
namespace MR
open PySem PySem.Spec PyProof.Rows L2
section
variable {G : GC} {L : LC G} {ρ : Rho G} {pos p1 p2 : Pos} {e : Expr} {es : List Expr} {C a : Addr} {sl : List (Option (PV G))} {n : St3}
def insT : List (List Str) := [["a", "b"], ["go"], ["a", "b", "cc"], ["up", "down"], ["z", "a"]]
def outsT : List (List Str) := [["x", "y"], ["yes", "no"], ["x"], ["a", "y"], ["x", "y", "zz"]]
def wordsB (l : List Str) : Bool := decide (1 ≤ l.length) && decide (l.length ≤ 3) && l.all wordB && decide l.Nodup
theorem insT_ok : insT.all wordsB = true := by decide +kernel
theorem outsT_ok : outsT.all wordsB = true := by decide +kernel
theorem wordsB_ok {l m : List Str} (h1 : wordsB l = true) (h2 : wordsB m = true) : (Lt.mk l m).Ok := by
  unfold wordsB at h1 h2
  simp only [Bool.and_eq_true, decide_eq_true_eq, List.all_eq_true] at h1 h2
  exact ⟨h1.1.1.1, h1.1.1.2, h1.1.2, h1.2, h2.1.1.1, h2.1.1.2, h2.1.2, h2.2⟩
theorem scLetters : FnScope ["_law_state_here", "_law_ins", "_law_outs"] ["_law_state_here"] (defScope (topS 72)) := ⟨rfl, rfl, rfl, by decide +kernel, rfl, by decide +kernel, by decide +kernel⟩
def ALetters (args : List (PV G)) (X : PV G → Prop) : Prop := args = [] ∧ X = fun r => ∃ l : Lt, l.Ok ∧ r = dat l.enc
theorem fn_letters (F : FunT G 72 "_law_letters" ["_law_state_here"]) (D : FnM G 1 "_law_choice" ["_law_state_here", "_law_many"] (RRnd AChoice)) : FnM G 2 "_law_letters" ["_law_state_here"] (RRnd ALetters) := by
  refine mk_defM (k := 1) F scLetters (fun pvs own Pw ⟨_, _, _, _, _, ⟨h, _⟩, h2, _⟩ => by rw [h2, h]; rfl) fun pvs own Pw ⟨a, n, args, X, hn, ⟨hX1, hX2⟩, h1, h2, h3⟩ f cd A outer s H E hr => ?_
  subst hX1 hX2 h1 h2 h3
  refine s_cons (s1_setM 1 (em_pick (j := 0) (rest := []) (ds := insT.map strsD) (e_lst (ds := insT.map strsD) (a_cons (e_tup (ds := [.str "a", .str "b"]) (a_cons e_str (a_cons e_str a_nil))) (a_cons (e_tup (ds := [.str "go"]) (a_cons e_str a_nil)) (a_cons (e_tup (ds := [.str "a", .str "b", .str "cc"]) (a_cons e_str (a_cons e_str (a_cons e_str a_nil)))) (a_cons (e_tup (ds := [.str "up", .str "down"]) (a_cons e_str (a_cons e_str a_nil))) (a_cons (e_tup (ds := [.str "z", .str "a"]) (a_cons e_str (a_cons e_str a_nil))) a_nil)))))) D (Nat.le_refl _) (e_var 0) e_int hn) ?_)
  rintro p ρ1 ⟨n1, hn1, ⟨v, d, hv, rfl⟩, rfl⟩
  obtain ⟨li, hli, rfl⟩ := map_get hv
  refine s_cons (s1_setM 2 (em_pick (j := 0) (rest := []) (ds := outsT.map strsD) (e_lst (ds := outsT.map strsD) (a_cons (e_tup (ds := [.str "x", .str "y"]) (a_cons e_str (a_cons e_str a_nil))) (a_cons (e_tup (ds := [.str "yes", .str "no"]) (a_cons e_str (a_cons e_str a_nil))) (a_cons (e_tup (ds := [.str "x"]) (a_cons e_str a_nil)) (a_cons (e_tup (ds := [.str "a", .str "y"]) (a_cons e_str (a_cons e_str a_nil))) (a_cons (e_tup (ds := [.str "x", .str "y", .str "zz"]) (a_cons e_str (a_cons e_str (a_cons e_str a_nil)))) a_nil)))))) D (Nat.le_refl _) (e_var 0) e_int hn1) ?_)
  rintro p ρ1 ⟨n2, hn2, ⟨u, d, hu, rfl⟩, rfl⟩
  obtain ⟨lo, hlo, rfl⟩ := map_get hu
  exact s_cons (s1_ret (e_tup (ds := [strsD li, strsD lo]) (a_cons (e_var 1) (a_cons (e_var 2) a_nil))) ⟨n2, hn2, ⟨⟨li, lo⟩, wordsB_ok (List.all_eq_true.mp insT_ok _ (List.mem_of_getElem? hli)) (List.all_eq_true.mp outsT_ok _ (List.mem_of_getElem? hlo)), rfl⟩, rfl⟩)
def claimsT : List (List Str) := [[], ["wide"], ["quick"], ["quick", "wide"], ["other", "wide"]]
def riseB : List Str → Bool
  | [] => true
  | [_] => true
  | x :: y :: l => decide (x.cps.toList < y.cps.toList) && riseB (y :: l)
theorem riseB_ok : ∀ {l : List Str}, riseB l = true → riseS l
  | [], _ => fun k a b h => by simp at h
  | [_], _ => fun k a b h h2 => by simp at h2
  | x :: y :: l, h => fun k a b h1 h2 => by
    have h : (decide (x.cps.toList < y.cps.toList) && riseB (y :: l)) = true := h
    rw [Bool.and_eq_true, decide_eq_true_eq] at h
    cases k with
    | zero => cases h1; cases h2; exact h.1
    | succ k => exact riseB_ok h.2 k a b h1 h2
theorem claimsT_ok : claimsT.all (fun l => l.all wordB && riseB l && decide (l.length ≤ 1000)) = true := by decide +kernel
theorem scClaims : FnScope ["_law_state_here"] ["_law_state_here"] (defScope (topS 79)) := ⟨rfl, rfl, rfl, by decide +kernel, rfl, by decide +kernel, by decide +kernel⟩
def AClaims (args : List (PV G)) (X : PV G → Prop) : Prop := args = [] ∧ X = fun r => ∃ cs : List Str, ClaimsOk cs ∧ r = dat (strsD cs)
theorem fn_claims (F : FunT G 79 "_law_claims" ["_law_state_here"]) (D : FnM G 1 "_law_choice" ["_law_state_here", "_law_many"] (RRnd AChoice)) : FnM G 2 "_law_claims" ["_law_state_here"] (RRnd AClaims) := by
  refine mk_defM (k := 1) F scClaims (fun pvs own Pw ⟨_, _, _, _, _, ⟨h, _⟩, h2, _⟩ => by rw [h2, h]; rfl) fun pvs own Pw ⟨a, n, args, X, hn, ⟨hX1, hX2⟩, h1, h2, h3⟩ f cd A outer s H E hr => ?_
  subst hX1 hX2 h1 h2 h3
  refine s_cons (s1_retM (em_pick (j := 0) (rest := []) (ds := claimsT.map strsD) (e_lst (ds := claimsT.map strsD) (a_cons (e_tup (ds := []) a_nil) (a_cons (e_tup (ds := [.str "wide"]) (a_cons e_str a_nil)) (a_cons (e_tup (ds := [.str "quick"]) (a_cons e_str a_nil)) (a_cons (e_tup (ds := [.str "quick", .str "wide"]) (a_cons e_str (a_cons e_str a_nil))) (a_cons (e_tup (ds := [.str "other", .str "wide"]) (a_cons e_str (a_cons e_str a_nil))) a_nil)))))) D (Nat.le_refl _) (e_var 0) e_int hn) ?_)
  rintro p ρ1 ⟨n1, hn1, ⟨v, d, hv, rfl⟩, rfl⟩
  obtain ⟨cs, hcs, rfl⟩ := map_get hv
  refine ⟨n1, hn1, ⟨cs, ?_, rfl⟩, rfl⟩
  have := List.all_eq_true.mp claimsT_ok _ (List.mem_of_getElem? hcs)
  simp only [Bool.and_eq_true, decide_eq_true_eq, List.all_eq_true] at this
  exact ⟨this.2, this.1.1, riseB_ok this.1.2⟩
def ifThen : List Stmt → List Stmt
  | .If _ a _ _ :: _ => a
  | _ => []
theorem scAtom : FnScope ["_law_state_here", "_law_letters_here", "_law_plain"] ["_law_state_here", "_law_letters_here", "_law_plain"] (defScope (topS 73)) := ⟨rfl, rfl, rfl, by decide +kernel, rfl, by decide +kernel, by decide +kernel⟩
def XAtom (l : Lt) (plain : Bool) (r : PV G) : Prop := ∃ s : Say, s.Ok l ∧ s.depth = 1 ∧ (plain = true → s.plain = true) ∧ r = dat s.enc
def AAtom (args : List (PV G)) (X : PV G → Prop) : Prop := ∃ (l : Lt) (plain : Bool), l.Ok ∧ args = [dat l.enc, dat (.bool plain)] ∧ X = XAtom l plain
theorem fn_atom (B : Bs G) (F : FunT G 73 "_law_atom" ["_law_state_here", "_law_letters_here", "_law_plain"]) (D : FnM G 1 "_law_choice" ["_law_state_here", "_law_many"] (RRnd AChoice)) : FnM G 2 "_law_atom" ["_law_state_here", "_law_letters_here", "_law_plain"] (RRnd AAtom) := by
  refine mk_defM (k := 1) F scAtom (fun pvs own Pw ⟨_, _, _, _, _, ⟨_, _, _, h, _⟩, h2, _⟩ => by rw [h2, h]; rfl) fun pvs own Pw ⟨a, n, args, X, hn, ⟨l, plain, hl, hX1, hX2⟩, h1, h2, h3⟩ f cd A outer s H E hr => ?_
  subst hX1 hX2 h1 h2 h3
  have i1 := hl.i1
  have i3 := hl.i3
  have o1 := hl.o1
  have o3 := hl.o3
  cases plain with
  | true =>
    refine s_cons (s1_if (t := true) (t_w (w_or (t := true) (u := true) (t_val (e_var 2)) fun h => nomatch h)) (fun _ => ?_) fun h => nomatch h)
    · have hn' := hn
      refine s_cons (s1_retM (Pa := Rn [some (refP a), some (dat l.enc), some (dat (.bool true))] [] a (XAtom l true)) (em_tup (am2 (Pb := fun _ _ => Rn [some (refP a), some (dat l.enc), some (dat (.bool true))] [] a (XPick (l.ins.map PyData.str))) e_str (fun p ρ1 h => by
        obtain ⟨rfl, rfl⟩ := h
        exact em_pickT (j := 0) (rest := []) (ds := l.ins.map PyData.str) (e_ix (x_tup at0) (e_var 1) e_int) D (Nat.le_refl _) (e_var 0) (e_lenT B (e_ix (x_tup at0) (e_var 1) e_int)) hn' (by rw [List.length_map]; exact i1) (by rw [List.length_map]; omega))) (by decide) (fun ps ρ' h => ?_)) (fun p ρ1 h => ?_))
      · obtain ⟨p, ρ1, q, ⟨rfl, rfl⟩, ⟨n', hn', ⟨v, d, hv, rfl⟩, rfl⟩, rfl⟩ := h
        obtain ⟨x, hx, rfl⟩ := map_get hv
        exact ⟨[.str "in", .str x], rfl, (show 2 ≤ 1000 by decide), n', hn', ⟨.inn x, List.mem_of_getElem? hx, rfl, fun _ => rfl, rfl⟩, rfl⟩
      · obtain ⟨n', hn', hX, rfl⟩ := h
        exact ⟨n', hn', hX, rfl⟩
  | false =>
    refine s_cons (s1_ifM (tm_or (t_val (e_var 2)) (tm_eqI (Pt := fun t ρ' => ∃ n', Good n' ∧ ρ' = ⟨[some (refP a), some (dat l.enc), some (dat (.bool false))], [(a, .lst (stL n'))]⟩) (em_choice (j := 0) (rest := []) D (Nat.le_refl _) 2 (e_var 0) e_int hn) (fun q ρ2 h => ?_))) (fun ρ1 h => ?_) (fun ρ1 h => s_nil ?_))
    · obtain ⟨n', hn', ⟨v, hv, rfl⟩, rfl⟩ := h
      exact ⟨_, rfl, n', hn', rfl⟩
    · obtain ⟨n', hn', rfl⟩ := h
      refine s_cons (s1_retM (Pa := Rn [some (refP a), some (dat l.enc), some (dat (.bool false))] [] a (XAtom l false)) (em_tup (am2 (Pb := fun _ _ => Rn [some (refP a), some (dat l.enc), some (dat (.bool false))] [] a (XPick (l.ins.map PyData.str))) e_str (fun p ρ1 h => by
        obtain ⟨rfl, rfl⟩ := h
        exact em_pickT (j := 0) (rest := []) (ds := l.ins.map PyData.str) (e_ix (x_tup at0) (e_var 1) e_int) D (Nat.le_refl _) (e_var 0) (e_lenT B (e_ix (x_tup at0) (e_var 1) e_int)) hn' (by rw [List.length_map]; exact i1) (by rw [List.length_map]; omega))) (by decide) (fun ps ρ' h => ?_)) (fun p ρ1 h => ?_))
      · obtain ⟨p, ρ1, q, ⟨rfl, rfl⟩, ⟨n', hn', ⟨v, d, hv, rfl⟩, rfl⟩, rfl⟩ := h
        obtain ⟨x, hx, rfl⟩ := map_get hv
        exact ⟨[.str "in", .str x], rfl, (show 2 ≤ 1000 by decide), n', hn', ⟨.inn x, List.mem_of_getElem? hx, rfl, fun _ => rfl, rfl⟩, rfl⟩
      · obtain ⟨n', hn', hX, rfl⟩ := h
        exact ⟨n', hn', hX, rfl⟩
    · obtain ⟨n', hn', rfl⟩ := h
      refine s_cons (s1_retM (Pa := Rn [some (refP a), some (dat l.enc), some (dat (.bool false))] [] a (XAtom l false)) (em_tup (am2 (Pb := fun _ _ => Rn [some (refP a), some (dat l.enc), some (dat (.bool false))] [] a (XPick (l.outs.map PyData.str))) e_str (fun p ρ1 h => by
        obtain ⟨rfl, rfl⟩ := h
        exact em_pickT (j := 0) (rest := []) (ds := l.outs.map PyData.str) (e_ix (x_tup at1) (e_var 1) e_int) D (Nat.le_refl _) (e_var 0) (e_lenT B (e_ix (x_tup at1) (e_var 1) e_int)) hn' (by rw [List.length_map]; exact o1) (by rw [List.length_map]; omega))) (by decide) (fun ps ρ' h => ?_)) (fun p ρ1 h => ?_))
      · obtain ⟨p, ρ1, q, ⟨rfl, rfl⟩, ⟨n', hn', ⟨v, d, hv, rfl⟩, rfl⟩, rfl⟩ := h
        obtain ⟨x, hx, rfl⟩ := map_get hv
        exact ⟨[.str "out", .str x], rfl, (show 2 ≤ 1000 by decide), n', hn', ⟨.out x, List.mem_of_getElem? hx, rfl, (fun h => nomatch h), rfl⟩, rfl⟩
      · obtain ⟨n', hn', hX, rfl⟩ := h
        exact ⟨n', hn', hX, rfl⟩
end
end MR
/-! T33: sayings, sentences. -/
namespace MR
open PySem PySem.Spec PyProof.Rows L2
section
variable {G : GC} {L : LC G} {ρ : Rho G} {pos p1 p2 : Pos} {e : Expr} {es : List Expr} {C a : Addr} {sl : List (Option (PV G))} {n : St3}
theorem scLSaying : FnScope ["_law_state_here", "_law_letters_here", "_law_plain", "_law_found", "_law_lap", "_law_kind", "_law_other"] ["_law_state_here", "_law_letters_here", "_law_plain"] (defScope (topS 74)) := ⟨rfl, rfl, rfl, by decide +kernel, rfl, by decide +kernel, by decide +kernel⟩
def XSaying (l : Lt) (plain : Bool) (m : Nat) (r : PV G) : Prop := ∃ s : Say, s.Ok l ∧ s.depth ≤ m ∧ (plain = true → s.plain = true) ∧ r = dat s.enc
def ASaying (args : List (PV G)) (X : PV G → Prop) : Prop := ∃ (l : Lt) (plain : Bool), l.Ok ∧ args = [dat l.enc, dat (.bool plain)] ∧ X = XSaying l plain 4
def lapsT : List PyData := [.int 0, .int 0, .int 1, .int 1, .int 2, .int 3]
theorem lapsT_get {v : Nat} {d : PyData} (h : lapsT[v]? = some d) : ∃ m : Nat, m ≤ 3 ∧ d = .int (m : Nat) := by
  have hm := List.mem_of_getElem? h
  simp only [lapsT, List.mem_cons, List.not_mem_nil, or_false] at hm
  rcases hm with rfl | rfl | rfl | rfl | rfl | rfl
  · exact ⟨0, by decide, rfl⟩
  · exact ⟨0, by decide, rfl⟩
  · exact ⟨1, by decide, rfl⟩
  · exact ⟨1, by decide, rfl⟩
  · exact ⟨2, by decide, rfl⟩
  · exact ⟨3, by decide, rfl⟩
theorem fn_lsaying (B : Bs G) (F : FunT G 74 "_law_saying" ["_law_state_here", "_law_letters_here", "_law_plain"]) (D : FnM G 1 "_law_choice" ["_law_state_here", "_law_many"] (RRnd AChoice)) (D2 : FnM G 2 "_law_atom" ["_law_state_here", "_law_letters_here", "_law_plain"] (RRnd AAtom)) : FnM G 3 "_law_saying" ["_law_state_here", "_law_letters_here", "_law_plain"] (RRnd ASaying) := by
  refine mk_defM (k := 2) F scLSaying (fun pvs own Pw ⟨_, _, _, _, _, ⟨_, _, _, h, _⟩, h2, _⟩ => by rw [h2, h]; rfl) fun pvs own Pw ⟨a, n, args, X, hn, ⟨l, plain, hl, hX1, hX2⟩, h1, h2, h3⟩ f cd A outer s H E hr => ?_
  subst hX1 hX2 h1 h2 h3
  refine s_cons (s1_setM 3 (em_rnd (rest := []) D2 (Nat.le_refl _) (e_var 0) (a_cons (e_var 1) (a_cons (e_var 2) a_nil)) hn ⟨l, plain, hl, rfl, rfl⟩) ?_)
  rintro p ρ1 ⟨n1, hn1, ⟨s0, hs1, hs2, hs3, rfl⟩, rfl⟩
  refine s_cons (s1_forR 4 (im_rng (Pi := fun ps ρ' => ∃ m n', m ≤ 3 ∧ Good n' ∧ ps = (rngD m).map dat ∧ ρ' = ⟨[some (refP a), some (dat l.enc), some (dat (.bool plain)), some (dat s0.enc), none, none, none], [(a, .lst (stL n'))]⟩) B.range (em_pick (j := 0) (rest := []) (ds := lapsT) (e_lst (ds := lapsT) (a_cons e_int (a_cons e_int (a_cons e_int (a_cons e_int (a_cons e_int (a_cons e_int a_nil))))))) D (show 1 ≤ 2 by decide) (e_var 0) e_int hn1) (fun q ρ2 h => ?_))
    (fun ds k ρ => ds.length ≤ 3 ∧ ∃ (s : Say) (n' : St3) (s4 s5 s6 : Option (PV G)), s.Ok l ∧ s.depth ≤ 1 + k ∧ (plain = true → s.plain = true) ∧ Good n' ∧ ρ = ⟨[some (refP a), some (dat l.enc), some (dat (.bool plain)), some (dat s.enc), s4, s5, s6], [(a, .lst (stL n'))]⟩) (fun ps ρ1 h => ?_) (fun ds k d ρ1 hd h => ?_) (fun ds ρ1 h => ?_))
  · obtain ⟨n', hn', ⟨v, d, hv, rfl⟩, rfl⟩ := h
    obtain ⟨m, hm, rfl⟩ := lapsT_get hv
    exact ⟨m, rfl, by omega, m, n', hm, hn', rfl, rfl⟩
  · obtain ⟨m, n', hm, hn', rfl, rfl⟩ := h
    exact ⟨rngD m, rfl, by rw [rngD_len]; exact hm, s0, n', none, none, none, hs1, by omega, hs3, hn', rfl⟩
  · obtain ⟨hdl, s, n', s4, s5, s6, q1, q2, q3, hn', rfl⟩ := h
    refine s_cons (s1_par2M 5 6 (am2 (Pb := fun _ _ => Rn [some (refP a), some (dat l.enc), some (dat (.bool plain)), some (dat s.enc), some (dat d), s5, s6] [] a (XAtom l plain)) (em_choice (j := 0) (rest := []) D (show 1 ≤ 2 by decide) 3 (e_var 0) e_int hn') (fun p ρ1 h => by
      obtain ⟨n2, hn2, h2, rfl⟩ := h
      exact em_rnd (rest := []) (X := XAtom l plain) D2 (Nat.le_refl _) (e_var 0) (a_cons (e_var 1) (a_cons (e_var 2) a_nil)) hn2 ⟨l, plain, hl, rfl, rfl⟩)) ?_)
    rintro ps ρ1 ⟨p, ρ2, q, ⟨n2, hn2, ⟨v, hv, rfl⟩, rfl⟩, ⟨n3, hn3, ⟨t, ht1, ht2, ht3, rfl⟩, rfl⟩, rfl⟩
    refine ⟨_, _, rfl, ?_⟩
    refine s_cons (s1_if (t := decide (v = 0)) (EvT.cast (t_cmp c_eqI (e_var 5) e_int) (decide_eq_decide.mpr (by omega))) (fun h0 => ?_) fun h0 => ?_)
    · exact s_cons (s1_set 3 (e_tup (ds := [.str "not", s.enc]) (a_cons e_str (a_cons (e_var 3) a_nil))) (s_nil (s_nil ⟨hdl, .not s, n3, _, _, _, q1, by show s.depth + 1 ≤ _; omega, q3, hn3, rfl⟩)))
    · have h0 : v ≠ 0 := of_decide_eq_false h0
      have hk : ∃ w : Nat, w < 2 ∧ v = w + 1 := ⟨v - 1, by omega, by omega⟩
      obtain ⟨w, hw, rfl⟩ := hk
      have hand : atI [PyData.str "and", .str "or"] ((w : Nat) : Int) = some (.str (if w = 0 then "and" else "or")) := by
        match w, hw with
        | 0, _ => rfl
        | 1, _ => rfl
      refine s_cons (s1_setM 3 (em_cat (Pc := Rn [some (refP a), some (dat l.enc), some (dat (.bool plain)), some (dat s.enc), some (dat d), some (dat (natD (w + 1))), some (dat t.enc)] [] a fun r => ∃ s2 : Say, s2.Ok l ∧ s2.depth ≤ 1 + (k + 1) ∧ (plain = true → s2.plain = true) ∧ r = dat s2.enc) (e_tup (ds := [.str (if w = 0 then "and" else "or")]) (a_cons (e_ix (x_lst hand) (e_lst (ds := [.str "and", .str "or"]) (a_cons e_str (a_cons e_str a_nil))) (EvD.cI (e_bin b_sub (e_var 5) e_int) (show ((w + 1 : Nat) : Int) - 1 = ((w : Nat) : Int) by omega))) a_nil))
        (em_pick (j := 0) (rest := []) (ds := [.tuple [s.enc, t.enc], .tuple [t.enc, s.enc]]) (e_lst (ds := [.tuple [s.enc, t.enc], .tuple [t.enc, s.enc]]) (a_cons (e_tup (ds := [s.enc, t.enc]) (a_cons (e_var 3) (a_cons (e_var 6) a_nil))) (a_cons (e_tup (ds := [t.enc, s.enc]) (a_cons (e_var 6) (a_cons (e_var 3) a_nil))) a_nil))) D (show 1 ≤ 2 by decide) (e_var 0) e_int hn3 (show 1 ≤ 2 by decide) (show 2 ≤ 1000 by decide)) (fun q ρ2 h => ?_)) (fun p ρ1 h => ?_))
      · obtain ⟨n4, hn4, ⟨u, dd, hu, rfl⟩, rfl⟩ := h
        have hm := List.mem_of_getElem? hu
        simp only [List.mem_cons, List.not_mem_nil, or_false] at hm
        have dp : max s.depth t.depth + 1 ≤ 1 + (k + 1) := by omega
        have dp2 : max t.depth s.depth + 1 ≤ 1 + (k + 1) := by omega
        have pl : plain = true → (s.plain && t.plain) = true := fun h => by rw [q3 h, ht3 h]; rfl
        have pl2 : plain = true → (t.plain && s.plain) = true := fun h => by rw [q3 h, ht3 h]; rfl
        by_cases hw0 : w = 0
        · subst hw0
          rcases hm with rfl | rfl
          · exact ⟨_, rfl, (show 1 + 2 ≤ 100000 by decide), n4, hn4, ⟨.and s t, ⟨q1, ht1⟩, dp, pl, rfl⟩, rfl⟩
          · exact ⟨_, rfl, (show 1 + 2 ≤ 100000 by decide), n4, hn4, ⟨.and t s, ⟨ht1, q1⟩, dp2, pl2, rfl⟩, rfl⟩
        · rw [if_neg hw0]
          rcases hm with rfl | rfl
          · exact ⟨_, rfl, (show 1 + 2 ≤ 100000 by decide), n4, hn4, ⟨.or s t, ⟨q1, ht1⟩, dp, pl, rfl⟩, rfl⟩
          · exact ⟨_, rfl, (show 1 + 2 ≤ 100000 by decide), n4, hn4, ⟨.or t s, ⟨ht1, q1⟩, dp2, pl2, rfl⟩, rfl⟩
      · obtain ⟨n4, hn4, ⟨s2, r1, r2, r3, rfl⟩, rfl⟩ := h
        exact s_nil (s_nil ⟨hdl, s2, n4, _, _, _, r1, r2, r3, hn4, rfl⟩)
  · obtain ⟨hdl, s, n', s4, s5, s6, q1, q2, q3, hn', rfl⟩ := h
    exact s_cons (s1_ret (e_var 3) ⟨n', hn', ⟨s, q1, by omega, q3, rfl⟩, rfl⟩)
end
end MR
/-! T34: sentences. -/
namespace MR
open PySem PySem.Spec PyProof.Rows L2
section
variable {G : GC} {L : LC G} {ρ : Rho G} {pos p1 p2 : Pos} {e a : Expr}
theorem em_weak {P P' : PV G → Rho G → Prop} (h : EvM L ρ e P) (w : ∀ p ρ', P p ρ' → P' p ρ') : EvM L ρ e P' := .mk fun A B0 B σ H Q E k => h A B0 B σ H Q E fun p ρ' q => k p ρ' (w p ρ' q)
theorem e_neg {i : Int} (h : EvD L ρ a (dat (.int i))) : EvD L ρ (.UnaryOp .USub a pos) (dat (.int (-i))) := EvD.of fun A B0 B σ H Q E k => by
  refine WE.of (pe_un un_neg (WE.pe _ _)) (h.run E fun v B' H' x E' y => ?_)
  have := dp_int y
  subst this
  exact ⟨i, rfl, k _ B' H' x E' (.int _)⟩
end
section
variable {G : GC} {L : LC G} {ρ : Rho G} {pos p1 p2 : Pos} {e : Expr} {es : List Expr} {C a : Addr} {sl : List (Option (PV G))} {n : St3}
def kindsT : List Str := ["never", "after", "until", "within", "first", "most", "apart"]
def manyT : List Nat := [1, 2, 3, 2, 2, 1, 1]
theorem kinds_dif : ∀ v m : Fin 7, m < v → kindsT.getD m.1 "" ≠ kindsT.getD v.1 "" := by decide +kernel
theorem scLSen : FnScope ["_law_state_here", "_law_letters_here", "_law_great", "_law_plain", "_law_kind", "_law_many", "_law_found", "_law_lap"] ["_law_state_here", "_law_letters_here", "_law_great", "_law_plain"] (defScope (topS 75)) := ⟨rfl, rfl, rfl, by decide +kernel, rfl, by decide +kernel, by decide +kernel⟩
def XSen (l : Lt) (plain : Bool) (r : PV G) : Prop := ∃ s : Sen, s.Ok l ∧ s.num ≤ 3 ∧ (plain = true → s.plain = true) ∧ r = dat s.enc
def ASen (args : List (PV G)) (X : PV G → Prop) : Prop := ∃ (l : Lt) (plain : Bool), l.Ok ∧ args = [dat l.enc, dat (natD 3), dat (.bool plain)] ∧ X = XSen l plain
/-- what a kind, sayings and a number make -/
theorem sen_of (l : Lt) (plain : Bool) (v : Nat) (hv : v < 7) (ss : List Say) (hl : ss.length = manyT.getD v 0) (hs : ∀ s ∈ ss, s.Ok l ∧ s.depth ≤ 4 ∧ (plain = true → s.plain = true)) (j : Nat) (hj : j < 3) (kk : Int) (hk : kk = if kindsT.getD v "" ∈ (["within", "most", "apart"] : List Str) then 1 else 0) :
    ∃ s : Sen, s.Ok l ∧ s.num ≤ 3 ∧ (plain = true → s.plain = true) ∧ PyData.tuple ((.str (kindsT.getD v "") :: ss.map Say.enc) ++ (if kk = 1 then [.int (1 + (j : Nat))] else [])) = s.enc := by
  have one : ∀ p ∈ ss, p.Ok l ∧ p.depth ≤ 4 := fun p hp => ⟨(hs p hp).1, (hs p hp).2.1⟩
  have pl : plain = true → ss.all Say.plain = true := fun h => List.all_eq_true.mpr fun s hm => (hs s hm).2.2 h
  have e1 : (1 : Int) + ((j : Nat) : Int) = ((1 + j : Nat) : Int) := by omega
  match v, hv with
  | 0, _ =>
    match ss, hl with
    | [p], _ =>
      have : kk = 0 := hk.trans (if_neg (by decide +kernel))
      subst this
      exact ⟨.never p, ⟨one, Nat.le_refl _, by show (1 : Nat) ≤ 6; decide⟩, by show (1 : Nat) ≤ 3; decide, pl, rfl⟩
  | 1, _ =>
    match ss, hl with
    | [p, q], _ =>
      have : kk = 0 := hk.trans (if_neg (by decide +kernel))
      subst this
      exact ⟨.after p q, ⟨one, Nat.le_refl _, by show (1 : Nat) ≤ 6; decide⟩, by show (1 : Nat) ≤ 3; decide, pl, rfl⟩
  | 2, _ =>
    match ss, hl with
    | [p, q, r], _ =>
      have : kk = 0 := hk.trans (if_neg (by decide +kernel))
      subst this
      exact ⟨.until p q r, ⟨one, Nat.le_refl _, by show (1 : Nat) ≤ 6; decide⟩, by show (1 : Nat) ≤ 3; decide, pl, rfl⟩
  | 3, _ =>
    match ss, hl with
    | [p, q], _ =>
      have : kk = 1 := hk.trans (if_pos (by decide +kernel))
      subst this
      exact ⟨.within p q (1 + j), ⟨one, by show 1 ≤ 1 + j; omega, by show 1 + j ≤ 6; omega⟩, by show 1 + j ≤ 3; omega, pl, by rw [e1]; rfl⟩
  | 4, _ =>
    match ss, hl with
    | [p, q], _ =>
      have : kk = 0 := hk.trans (if_neg (by decide +kernel))
      subst this
      exact ⟨.first p q, ⟨one, Nat.le_refl _, by show (1 : Nat) ≤ 6; decide⟩, by show (1 : Nat) ≤ 3; decide, pl, rfl⟩
  | 5, _ =>
    match ss, hl with
    | [p], _ =>
      have : kk = 1 := hk.trans (if_pos (by decide +kernel))
      subst this
      exact ⟨.most p (1 + j), ⟨one, by show 1 ≤ 1 + j; omega, by show 1 + j ≤ 6; omega⟩, by show 1 + j ≤ 3; omega, pl, by rw [e1]; rfl⟩
  | 6, _ =>
    match ss, hl with
    | [p], _ =>
      have : kk = 1 := hk.trans (if_pos (by decide +kernel))
      subst this
      exact ⟨.apart p (1 + j), ⟨one, by show 1 ≤ 1 + j; omega, by show 1 + j ≤ 6; omega⟩, by show 1 + j ≤ 3; omega, pl, by rw [e1]; rfl⟩
theorem fn_lsen (B : Bs G) (F : FunT G 75 "_law_sentence" ["_law_state_here", "_law_letters_here", "_law_great", "_law_plain"]) (D : FnM G 1 "_law_choice" ["_law_state_here", "_law_many"] (RRnd AChoice)) (D2 : FnM G 3 "_law_saying" ["_law_state_here", "_law_letters_here", "_law_plain"] (RRnd ASaying)) : FnM G 4 "_law_sentence" ["_law_state_here", "_law_letters_here", "_law_great", "_law_plain"] (RRnd ASen) := by
  refine mk_defM (k := 3) F scLSen (fun pvs own Pw ⟨_, _, _, _, _, ⟨_, _, _, h, _⟩, h2, _⟩ => by rw [h2, h]; rfl) fun pvs own Pw ⟨a, n, args, X, hn, ⟨l, plain, hl, hX1, hX2⟩, h1, h2, h3⟩ f cd A outer s H E hr => ?_
  subst hX1 hX2 h1 h2 h3
  refine s_cons (s1_setM 4 (em_pick (j := 0) (rest := []) (ds := kindsT.map PyData.str) (e_lst (ds := kindsT.map PyData.str) (a_cons e_str (a_cons e_str (a_cons e_str (a_cons e_str (a_cons e_str (a_cons e_str (a_cons e_str a_nil)))))))) D (show 1 ≤ 3 by decide) (e_var 0) e_int hn) ?_)
  rintro p ρ1 ⟨n1, hn1, ⟨v, d, hv, rfl⟩, rfl⟩
  obtain ⟨kd, hkd, rfl⟩ := map_get hv
  have hv7 : v < 7 := (List.getElem?_eq_some_iff.mp hkd).1
  have ekd : kindsT.getD v "" = kd := by rw [List.getD_eq_getElem?_getD, hkd]; rfl
  have hmany : atI (manyT.map natD) ((v : Nat) : Int) = some (natD (manyT.getD v 0)) := at_map (by rw [List.getD_eq_getElem?_getD, List.getElem?_eq_getElem (show v < manyT.length from hv7)]; rfl)
  have hno : ∀ (m : Nat) (z' : PyData), m < v → (kindsT.map PyData.str)[m]? = some z' → PyData.eqv z' (.str kd) = false := fun m z' hm hz => by
    obtain ⟨km, hkm, rfl⟩ := map_get hz
    rw [eqv_str]
    refine decide_eq_false fun z => ?_
    have := kinds_dif ⟨v, hv7⟩ ⟨m, by omega⟩ hm
    rw [List.getD_eq_getElem?_getD, List.getD_eq_getElem?_getD, hkd, hkm] at this
    exact this z
  have m3 : manyT.getD v 0 ≤ 3 := by
    have : ∀ v : Fin 7, manyT.getD v.1 0 ≤ 3 := by decide
    exact this ⟨v, hv7⟩
  refine s_cons (s1_set 5 (e_ix (x_lst hmany) (e_lst (ds := manyT.map natD) (a_cons e_int (a_cons e_int (a_cons e_int (a_cons e_int (a_cons e_int (a_cons e_int (a_cons e_int a_nil)))))))) (e_index (ds := kindsT.map PyData.str) (d := .str kd) (e_lst (ds := kindsT.map PyData.str) (a_cons e_str (a_cons e_str (a_cons e_str (a_cons e_str (a_cons e_str (a_cons e_str (a_cons e_str a_nil)))))))) (e_var 4) (by decide +kernel) ?_ hv (by rw [eqv_str]; exact decide_eq_true rfl) hno)) ?_)
  · have hok : PyData.strOk kd = true := List.all_eq_true.mp (by decide +kernel : kindsT.all PyData.strOk = true) _ (List.mem_of_getElem? hkd)
    exact (lay_lit (n := 64) hok).shaped
  generalize hm : manyT.getD v 0 = m at *
  refine s_cons (s1_setM 6 (em_cat (Pc := Rn [some (refP a), some (dat l.enc), some (dat (natD 3)), some (dat (.bool plain)), some (dat (.str kd)), some (dat (natD m)), none, none] [] a fun r => ∃ ss : List Say, ss.length = m ∧ (∀ s ∈ ss, s.Ok l ∧ s.depth ≤ 4 ∧ (plain = true → s.plain = true)) ∧ r = dat (.tuple (.str kd :: ss.map Say.enc))) (e_tup (ds := [.str kd]) (a_cons (e_var 4) a_nil))
    (em_tuple (Pa := fun p ρ' => ∃ (ss : List Say) (n' : St3), ss.length = m ∧ (∀ s ∈ ss, s.Ok l ∧ s.depth ≤ 4 ∧ (plain = true → s.plain = true)) ∧ Good n' ∧ p = dat (.list (ss.map Say.enc)) ∧ ρ' = ⟨[some (refP a), some (dat l.enc), some (dat (natD 3)), some (dat (.bool plain)), some (dat (.str kd)), some (dat (natD m)), none, none], [(a, .lst (stL n'))]⟩)
      (Pc := fun p ρ' => ∃ (ss : List Say) (n' : St3), ss.length = m ∧ (∀ s ∈ ss, s.Ok l ∧ s.depth ≤ 4 ∧ (plain = true → s.plain = true)) ∧ Good n' ∧ p = dat (.tuple (ss.map Say.enc)) ∧ ρ' = ⟨[some (refP a), some (dat l.enc), some (dat (natD 3)), some (dat (.bool plain)), some (dat (.str kd)), some (dat (natD m)), none, none], [(a, .lst (stL n'))]⟩) B
      (em_lcN (own := [("_law_lap", 7)]) (ds := rngD m) 7 (fun k es ow => ∃ (ss : List Say) (n' : St3), ss.length = k ∧ (∀ s ∈ ss, s.Ok l ∧ s.depth ≤ 4 ∧ (plain = true → s.plain = true)) ∧ es = ss.map Say.enc ∧ Good n' ∧ ow = [(a, .lst (stL n'))]) ⟨[], n1, rfl, (fun s h => by cases h), rfl, hn1, rfl⟩ (i_rngM B.range (by omega) (e_var 5)) (blk_body (by decide +kernel)) (by rw [rngD_len]; omega) (fun s H C' ce fp k d es ow hd hiv => ?_) (fun es ow hiv => ?_)) (fun q ρ2 h => ?_)) (fun q ρ2 h => ?_)) (fun p ρ1 h => ?_))
  · obtain ⟨ss, n', q1, q2, rfl, hn', rfl⟩ := hiv
    refine em_weak (em_rnd (rest := []) (X := XSaying l plain 4) D2 (Nat.le_refl _) (e_var 0) (a_cons (e_var 1) (a_cons (e_var 3) a_nil)) hn' ⟨l, plain, hl, rfl, rfl⟩) fun p ρ' h => ?_
    obtain ⟨n2, hn2, ⟨t, t1, t2, t3, rfl⟩, rfl⟩ := h
    refine ⟨t.enc, rfl, ss ++ [t], n2, by rw [List.length_append, q1]; rfl, fun s hs => ?_, by rw [List.map_append]; rfl, hn2, rfl⟩
    rcases List.mem_append.mp hs with hs | hs
    · exact q2 s hs
    · rw [List.mem_singleton.mp hs]
      exact ⟨t1, t2, t3⟩
  · obtain ⟨ss, n', q1, q2, rfl, hn', rfl⟩ := hiv
    rw [rngD_len] at q1
    exact ⟨ss, n', q1, q2, hn', rfl, rfl⟩
  · obtain ⟨ss, n', q1, q2, hn', rfl, rfl⟩ := h
    exact ⟨_, rfl, ss, n', q1, q2, hn', rfl, rfl⟩
  · obtain ⟨ss, n', q1, q2, hn', rfl, rfl⟩ := h
    exact ⟨_, rfl, by rw [List.length_map, q1]; show 1 + m ≤ 100000; omega, n', hn', ⟨ss, q1, q2, rfl⟩, rfl⟩
  · obtain ⟨n2, hn2, ⟨ss, q1, q2, rfl⟩, rfl⟩ := h
    refine s_cons (s1_retM (em_cat (Pc := Rn [some (refP a), some (dat l.enc), some (dat (natD 3)), some (dat (.bool plain)), some (dat (.str kd)), some (dat (natD m)), some (dat (.tuple (.str kd :: ss.map Say.enc))), none] [] a (XSen l plain)) (e_var 6)
      (em_repU (Pc := fun p ρ' => ∃ (j : Nat) (n' : St3), j < 3 ∧ Good n' ∧ p = dat (.tuple (if (if decide (kd ∈ (["within", "most", "apart"] : List Str)) = true then (1 : Int) else 0) = 1 then [.int (1 + (j : Nat))] else [])) ∧ ρ' = ⟨[some (refP a), some (dat l.enc), some (dat (natD 3)), some (dat (.bool plain)), some (dat (.str kd)), some (dat (natD m)), some (dat (.tuple (.str kd :: ss.map Say.enc))), none], [(a, .lst (stL n'))]⟩)
        (em_tup (Po := fun p ρ' => ∃ (j : Nat) (n' : St3), j < 3 ∧ Good n' ∧ p = dat (.tuple [.int (1 + (j : Nat))]) ∧ ρ' = ⟨[some (refP a), some (dat l.enc), some (dat (natD 3)), some (dat (.bool plain)), some (dat (.str kd)), some (dat (natD m)), some (dat (.tuple (.str kd :: ss.map Say.enc))), none], [(a, .lst (stL n'))]⟩)
          (a_m1 (em_add (Pc := fun p ρ' => ∃ (j : Nat) (n' : St3), j < 3 ∧ Good n' ∧ p = dat (.int (1 + (j : Nat))) ∧ ρ' = ⟨[some (refP a), some (dat l.enc), some (dat (natD 3)), some (dat (.bool plain)), some (dat (.str kd)), some (dat (natD m)), some (dat (.tuple (.str kd :: ss.map Say.enc))), none], [(a, .lst (stL n'))]⟩) e_int (em_choice (j := 0) (rest := []) D (show 1 ≤ 3 by decide) 3 (e_var 0) (e_var 2) hn2) (fun q ρ2 h => ?_))) (by decide) (fun ps ρ' h => ?_)) (fun p ρ1 h => ?_)) (fun q ρ2 h => ?_)) (fun p ρ1 h => ?_))
    · obtain ⟨n3, hn3, ⟨j, hj, rfl⟩, rfl⟩ := h
      exact ⟨_, rfl, j, n3, hj, hn3, rfl, rfl⟩
    · obtain ⟨p, rfl, j, n3, hj, hn3, rfl, rfl⟩ := h
      exact ⟨[.int (1 + (j : Nat))], rfl, (show 1 ≤ 1000 by decide), j, n3, hj, hn3, rfl, rfl⟩
    · obtain ⟨j, n3, hj, hn3, rfl, rfl⟩ := h
      refine ⟨[.int (1 + (j : Nat))], if decide (kd ∈ (["within", "most", "apart"] : List Str)) = true then (1 : Int) else 0, rfl, (by simp), by split; exact .inl rfl; exact .inr rfl, ?_, j, n3, hj, hn3, rfl, rfl⟩
      exact EvD.cast (e_intB B (EvD.cB (e_cmp (c_inL (ds := (["within", "most", "apart"] : List Str).map PyData.str) rfl (strs_flat _)) (e_var 4) (e_lst (ds := (["within", "most", "apart"] : List Str).map PyData.str) (a_cons e_str (a_cons e_str (a_cons e_str a_nil))))) (inD_str kd _))) rfl
    · obtain ⟨j, n3, hj, hn3, rfl, rfl⟩ := h
      obtain ⟨sn, r1, r2, r3, r4⟩ := sen_of l plain v hv7 ss (by rw [q1, hm]) q2 j hj (if kd ∈ (["within", "most", "apart"] : List Str) then 1 else 0) (by rw [ekd])
      refine ⟨_, rfl, ?_, n3, hn3, ⟨sn, r1, r2, r3, ?_⟩, rfl⟩
      · have h1 : ∀ c : Bool, (if (if c = true then (1 : Int) else 0) = 1 then [PyData.int (1 + (j : Nat))] else []).length ≤ 1 := by
          intro c; cases c <;> simp
        have := h1 (decide (kd ∈ (["within", "most", "apart"] : List Str)))
        rw [List.length_cons, List.length_map, q1]
        omega
      · rw [← r4, ekd]
        simp only [decide_eq_true_eq]
    · obtain ⟨n3, hn3, hX, rfl⟩ := h
      exact ⟨n3, hn3, hX, rfl⟩
end
end MR
/-! T35: sizes, clauses, standards. -/
namespace MR
open PySem PySem.Spec PyProof.Rows L2
section
variable {G : GC} {L : LC G} {ρ : Rho G} {pos p1 p2 : Pos} {e : Expr} {es : List Expr} {C a : Addr} {sl : List (Option (PV G))} {n : St3}
theorem scLSize : FnScope ["_law_sentence_here"] ["_law_sentence_here"] (defScope (topS 76)) := ⟨rfl, rfl, rfl, by decide +kernel, rfl, by decide +kernel, by decide +kernel⟩
def RLSize (G : GC) : Rel G := fun ps r => ∃ s : Sen, ps = [dat s.enc] ∧ r = dat (.int (s.size : Nat))
theorem fn_lsize (B : Bs G) (F : FunT G 76 "_law_size" ["_law_sentence_here"]) : FnD G 1 "_law_size" ["_law_sentence_here"] (RLSize G) := by
  refine mk_def (k := 0) F scLSize (fun pvs r ⟨_, h, _⟩ => by rw [h]; rfl) fun pvs r ⟨s, h1, h2⟩ f cd A outer s' H E hr => ?_
  subst h1 h2
  cases s with
  | never p =>
    refine s_cons (s1_if (t := false) (EvT.cast (t_cmp (c_inL (ds := (["within", "most", "apart"] : List Str).map PyData.str) rfl (strs_flat _)) (e_ix (x_tup (ds := [.str "never", p.enc]) at0) (e_var 0) e_int) (e_lst (ds := (["within", "most", "apart"] : List Str).map PyData.str) (a_cons e_str (a_cons e_str (a_cons e_str a_nil))))) (by rw [inD_str]; decide +kernel)) (fun h => nomatch h) fun _ => s_nil ?_)
    exact s_cons (s1_ret (e_if (t := true) (t_cmp c_eqS (e_ix (x_tup (ds := [.str "never", p.enc]) at0) (e_var 0) e_int) e_str) (fun _ => e_int) (fun h => nomatch h)) rfl)
  | after p q =>
    refine s_cons (s1_if (t := false) (EvT.cast (t_cmp (c_inL (ds := (["within", "most", "apart"] : List Str).map PyData.str) rfl (strs_flat _)) (e_ix (x_tup (ds := [.str "after", p.enc, q.enc]) at0) (e_var 0) e_int) (e_lst (ds := (["within", "most", "apart"] : List Str).map PyData.str) (a_cons e_str (a_cons e_str (a_cons e_str a_nil))))) (by rw [inD_str]; decide +kernel)) (fun h => nomatch h) fun _ => s_nil ?_)
    exact s_cons (s1_ret (e_if (t := false) (EvT.cast (t_cmp c_eqS (e_ix (x_tup (ds := [.str "after", p.enc, q.enc]) at0) (e_var 0) e_int) e_str) (by decide +kernel)) (fun h => nomatch h) (fun _ => e_int)) rfl)
  | «until» p q r =>
    refine s_cons (s1_if (t := false) (EvT.cast (t_cmp (c_inL (ds := (["within", "most", "apart"] : List Str).map PyData.str) rfl (strs_flat _)) (e_ix (x_tup (ds := [.str "until", p.enc, q.enc, r.enc]) at0) (e_var 0) e_int) (e_lst (ds := (["within", "most", "apart"] : List Str).map PyData.str) (a_cons e_str (a_cons e_str (a_cons e_str a_nil))))) (by rw [inD_str]; decide +kernel)) (fun h => nomatch h) fun _ => s_nil ?_)
    exact s_cons (s1_ret (e_if (t := false) (EvT.cast (t_cmp c_eqS (e_ix (x_tup (ds := [.str "until", p.enc, q.enc, r.enc]) at0) (e_var 0) e_int) e_str) (by decide +kernel)) (fun h => nomatch h) (fun _ => e_int)) rfl)
  | within p q k =>
    refine s_cons (s1_if (t := true) (EvT.cast (t_cmp (c_inL (ds := (["within", "most", "apart"] : List Str).map PyData.str) rfl (strs_flat _)) (e_ix (x_tup (ds := [.str "within", p.enc, q.enc, .int k]) at0) (e_var 0) e_int) (e_lst (ds := (["within", "most", "apart"] : List Str).map PyData.str) (a_cons e_str (a_cons e_str (a_cons e_str a_nil))))) (by rw [inD_str]; decide +kernel)) (fun _ => ?_) (fun h => nomatch h))
    exact s_cons (s1_ret (EvD.cI (e_bin b_add (e_ix (x_tup (ds := [.str "within", p.enc, q.enc, .int k]) (i := -1) rfl) (e_var 0) (e_neg e_int)) e_int) (show _ = ((k + 1 : Nat) : Int) by omega)) rfl)
  | first p q =>
    refine s_cons (s1_if (t := false) (EvT.cast (t_cmp (c_inL (ds := (["within", "most", "apart"] : List Str).map PyData.str) rfl (strs_flat _)) (e_ix (x_tup (ds := [.str "first", p.enc, q.enc]) at0) (e_var 0) e_int) (e_lst (ds := (["within", "most", "apart"] : List Str).map PyData.str) (a_cons e_str (a_cons e_str (a_cons e_str a_nil))))) (by rw [inD_str]; decide +kernel)) (fun h => nomatch h) fun _ => s_nil ?_)
    exact s_cons (s1_ret (e_if (t := false) (EvT.cast (t_cmp c_eqS (e_ix (x_tup (ds := [.str "first", p.enc, q.enc]) at0) (e_var 0) e_int) e_str) (by decide +kernel)) (fun h => nomatch h) (fun _ => e_int)) rfl)
  | most p k =>
    refine s_cons (s1_if (t := true) (EvT.cast (t_cmp (c_inL (ds := (["within", "most", "apart"] : List Str).map PyData.str) rfl (strs_flat _)) (e_ix (x_tup (ds := [.str "most", p.enc, .int k]) at0) (e_var 0) e_int) (e_lst (ds := (["within", "most", "apart"] : List Str).map PyData.str) (a_cons e_str (a_cons e_str (a_cons e_str a_nil))))) (by rw [inD_str]; decide +kernel)) (fun _ => ?_) (fun h => nomatch h))
    exact s_cons (s1_ret (EvD.cI (e_bin b_add (e_ix (x_tup (ds := [.str "most", p.enc, .int k]) (i := -1) rfl) (e_var 0) (e_neg e_int)) e_int) (show _ = ((k + 1 : Nat) : Int) by omega)) rfl)
  | apart p k =>
    refine s_cons (s1_if (t := true) (EvT.cast (t_cmp (c_inL (ds := (["within", "most", "apart"] : List Str).map PyData.str) rfl (strs_flat _)) (e_ix (x_tup (ds := [.str "apart", p.enc, .int k]) at0) (e_var 0) e_int) (e_lst (ds := (["within", "most", "apart"] : List Str).map PyData.str) (a_cons e_str (a_cons e_str (a_cons e_str a_nil))))) (by rw [inD_str]; decide +kernel)) (fun _ => ?_) (fun h => nomatch h))
    exact s_cons (s1_ret (EvD.cI (e_bin b_add (e_ix (x_tup (ds := [.str "apart", p.enc, .int k]) (i := -1) rfl) (e_var 0) (e_neg e_int)) e_int) (show _ = ((k + 1 : Nat) : Int) by omega)) rfl)
def sizes : List Sen → Nat
  | [] => 1
  | s :: ss => s.size * sizes ss
theorem sizes_snoc (s : Sen) : ∀ ss : List Sen, sizes (ss ++ [s]) = sizes ss * s.size
  | [] => by show s.size * 1 = 1 * s.size; omega
  | t :: ss => by
    show t.size * sizes (ss ++ [s]) = t.size * sizes ss * s.size
    rw [sizes_snoc s ss, Nat.mul_assoc]
theorem rise_snoc {l : List Int} {x : Int} (h : riseI l) (hx : ∀ y ∈ l, y < x) : riseI (l ++ [x]) := fun k a b h1 h2 => by
  by_cases hk : k + 1 < l.length
  · rw [List.getElem?_append_left (by omega)] at h1
    rw [List.getElem?_append_left hk] at h2
    exact h k a b h1 h2
  · by_cases hk2 : k < l.length
    · rw [List.getElem?_append_left hk2] at h1
      rw [List.getElem?_append_right (by omega)] at h2
      have e : k + 1 - l.length = 0 := by omega
      rw [e] at h2
      cases h2
      exact hx a (List.mem_of_getElem? h1)
    · rw [List.getElem?_eq_none (by rw [List.length_append]; simp; omega)] at h2
      cases h2
structure DrawnCl (l : Lt) (cl : List Cla) : Prop where
  n1 : 1 ≤ cl.length
  n3 : cl.length ≤ 3
  ok : ∀ c ∈ cl, c.Ok l
  rise : riseI (cl.map fun c => (c.num : Int))
  top : ∀ c ∈ cl, c.num ≤ 30
  size : sizes (cl.map Cla.sen) ≤ 60
theorem scLCl : FnScope ["_law_state_here", "_law_letters_here", "_law_most", "_law_found", "_law_size_here", "_law_number", "_law_lap", "_law_sentence_here"] ["_law_state_here", "_law_letters_here", "_law_most"] (defScope (topS 77)) := ⟨rfl, rfl, rfl, by decide +kernel, rfl, by decide +kernel, by decide +kernel⟩
def XCl (l : Lt) (r : PV G) : Prop := ∃ cl : List Cla, DrawnCl l cl ∧ r = dat (.tuple (cl.map Cla.enc))
def ACl (args : List (PV G)) (X : PV G → Prop) : Prop := ∃ l : Lt, l.Ok ∧ args = [dat l.enc, dat (natD 3)] ∧ X = XCl l
theorem opts_ok : (["", "", "wide", "quick"] : List Str).all (fun x => decide (x = "") || wordB x) = true := by decide +kernel
theorem fn_lcl (B : Bs G) (F : FunT G 77 "_law_clauses" ["_law_state_here", "_law_letters_here", "_law_most"]) (D : FnM G 1 "_law_choice" ["_law_state_here", "_law_many"] (RRnd AChoice)) (D2 : FnM G 4 "_law_sentence" ["_law_state_here", "_law_letters_here", "_law_great", "_law_plain"] (RRnd ASen)) (D3 : FnD G 1 "_law_size" ["_law_sentence_here"] (RLSize G)) : FnM G 5 "_law_clauses" ["_law_state_here", "_law_letters_here", "_law_most"] (RRnd ACl) := by
  refine mk_defM (k := 4) F scLCl (fun pvs own Pw ⟨_, _, _, _, _, ⟨_, _, h, _⟩, h2, _⟩ => by rw [h2, h]; rfl) fun pvs own Pw ⟨a, n, args, X, hn, ⟨l, hl, hX1, hX2⟩, h1, h2, h3⟩ f cd A outer s H E hr => ?_
  subst hX1 hX2 h1 h2 h3
  refine s_cons (s1_par3M 3 4 5 (am3 (em_ownL (ds := []) a_nil) (fun p ρ1 _ => e_int (i := 1)) (fun p ρ1 q ρ2 _ _ => e_int (i := 0))) ?_)
  rintro ps ρ1 ⟨p, ρ2, q, ρ3, r, ⟨c, rfl, rfl⟩, ⟨rfl, rfl⟩, ⟨rfl, rfl⟩, rfl⟩
  refine ⟨_, _, _, rfl, ?_⟩
  refine s_cons (s1_forR 6 (im_rng (Pi := fun ps ρ' => ∃ (m : Nat) (n' : St3), 1 ≤ m ∧ m ≤ 3 ∧ Good n' ∧ ps = (rngD m).map dat ∧ ρ' = ⟨[some (refP a), some (dat l.enc), some (dat (natD 3)), some (refP c), some (dat (natD 1)), some (dat (natD 0)), none, none], [(c, .lst []), (a, .lst (stL n'))]⟩) B.range
      (em_add (Pc := fun p ρ' => ∃ (m : Nat) (n' : St3), 1 ≤ m ∧ m ≤ 3 ∧ Good n' ∧ p = dat (natD m) ∧ ρ' = ⟨[some (refP a), some (dat l.enc), some (dat (natD 3)), some (refP c), some (dat (natD 1)), some (dat (natD 0)), none, none], [(c, .lst []), (a, .lst (stL n'))]⟩) e_int (em_choice (j := 0) (rest := [(c, .lst [])]) D (show 1 ≤ 4 by decide) 3 (e_var 0) (e_var 2) hn) (fun q ρ2 h => ?_)) (fun q ρ2 h => ?_))
    (fun ds k ρ => 1 ≤ ds.length ∧ ds.length ≤ 3 ∧ ∃ (cl : List Cla) (num : Nat) (n' : St3) (s6 s7 : Option (PV G)), cl.length ≤ k ∧ (1 ≤ k → 1 ≤ cl.length) ∧ (∀ c ∈ cl, c.Ok l) ∧ riseI (cl.map fun c => (c.num : Int)) ∧ (∀ c ∈ cl, c.num ≤ num) ∧ num ≤ 9 * k ∧ sizes (cl.map Cla.sen) ≤ 60 ∧ Good n' ∧
      ρ = ⟨[some (refP a), some (dat l.enc), some (dat (natD 3)), some (refP c), some (dat (natD (sizes (cl.map Cla.sen)))), some (dat (natD num)), s6, s7], [(c, .lst (cl.map Cla.enc)), (a, .lst (stL n'))]⟩) (fun ps ρ1 h => ?_) (fun ds k d ρ1 hd h => ?_) (fun ds ρ1 h => ?_))
  · obtain ⟨n', hn', ⟨v, hv, rfl⟩, rfl⟩ := h
    exact ⟨_, rfl, 1 + v, n', by omega, by omega, hn', by show dat (.int (1 + ((v : Nat) : Int))) = dat (.int ((1 + v : Nat) : Int)); rw [show (1 : Int) + ((v : Nat) : Int) = ((1 + v : Nat) : Int) by omega], rfl⟩
  · obtain ⟨m, n', m1, m3, hn', rfl, rfl⟩ := h
    exact ⟨m, rfl, by omega, m, n', m1, m3, hn', rfl, rfl⟩
  · obtain ⟨m, n', m1, m3, hn', rfl, rfl⟩ := h
    exact ⟨rngD m, rfl, by rw [rngD_len]; exact m1, by rw [rngD_len]; exact m3, [], 0, n', none, none, Nat.le_refl _, (fun h => by omega), (fun c h => by cases h), (fun k a b h => by simp at h), (fun c h => by cases h), Nat.zero_le _, by decide, hn', rfl⟩
  · obtain ⟨d1, d3, cl, num, n', s6, s7, c1, c2, c3, c4, c5, c6, c7, hn', rfl⟩ := h
    have hkd : k < ds.length := (List.getElem?_eq_some_iff.mp hd).1
    refine s_cons (s1_par2M 7 5 (am2 (Pb := fun p _ q ρ' => ∃ (v : Nat) (n3 : St3), v < 9 ∧ Good n3 ∧ q = dat (natD (num + 1 + v)) ∧ ρ' = ⟨[some (refP a), some (dat l.enc), some (dat (natD 3)), some (refP c), some (dat (natD (sizes (cl.map Cla.sen)))), some (dat (natD num)), some (dat d), s7], [(c, .lst (cl.map Cla.enc)), (a, .lst (stL n3))]⟩)
      (em_rnd (rest := [(c, .lst (cl.map Cla.enc))]) (X := XSen l false) D2 (Nat.le_refl _) (e_var 0) (a_cons (e_var 1) (a_cons e_int (a_cons e_bl a_nil))) hn' ⟨l, false, hl, rfl, rfl⟩) (fun p ρ1 h => by
        obtain ⟨n2, hn2, h2, rfl⟩ := h
        refine em_add (i := ((num + 1 : Nat) : Int)) (EvD.cI (e_bin b_add (e_var 5) e_int) (show _ = ((num + 1 : Nat) : Int) by omega)) (em_choice (j := 0) (rest := [(c, .lst (cl.map Cla.enc))]) D (show 1 ≤ 4 by decide) 9 (e_var 0) e_int hn2) (fun q ρ2 h => ?_)
        obtain ⟨n3, hn3, ⟨v, hv, rfl⟩, rfl⟩ := h
        exact ⟨_, rfl, v, n3, hv, hn3, by show dat (.int (((num + 1 : Nat) : Int) + ((v : Nat) : Int))) = dat (.int ((num + 1 + v : Nat) : Int)); rw [show ((num + 1 : Nat) : Int) + ((v : Nat) : Int) = ((num + 1 + v : Nat) : Int) by omega], rfl⟩)) ?_)
    rintro ps ρ1 ⟨p, ρ2, q, ⟨n2, hn2, ⟨t, t1, t2, t3, rfl⟩, rfl⟩, ⟨v, n3, hv, hn3, rfl, rfl⟩, rfl⟩
    refine ⟨_, _, rfl, ?_⟩
    have hts : t.size ≤ 4 := by
      have : t.size ≤ t.num + 1 := by cases t <;> simp [Sen.size, Sen.num]
      omega
    have cm : CMul ((sizes (cl.map Cla.sen) : Nat) : Int) ((t.size : Nat) : Int) := .inl ⟨by omega, by omega⟩
    have esz : ((sizes (cl.map Cla.sen) : Nat) : Int) * ((t.size : Nat) : Int) = ((sizes (cl.map Cla.sen) * t.size : Nat) : Int) := by rw [Int.natCast_mul]
    refine s_cons (s1_if (t := decide (sizes (cl.map Cla.sen) * t.size ≤ 60)) (EvT.cast (t_cmp c_le (EvD.cI (e_bin (b_mul cm) (e_var 4) (e_call D3 (show 1 ≤ 4 by decide) (a_cons (e_var 7) a_nil) ⟨t, rfl, rfl⟩)) esz) e_int) (decide_eq_decide.mpr (by omega))) (fun ht => ?_) fun hf => ?_)
    · have ht : sizes (cl.map Cla.sen) * t.size ≤ 60 := of_decide_eq_true ht
      refine s_cons (s1_set 4 (EvD.cI (e_bin (b_mul cm) (e_var 4) (e_call D3 (show 1 ≤ 4 by decide) (a_cons (e_var 7) a_nil) ⟨t, rfl, rfl⟩)) esz) ?_)
      refine s_cons (s1_appendM 0 0 (Pa := fun p ρ' => ∃ (o : Str) (n4 : St3), (o = "" ∨ wordB o = true) ∧ Good n4 ∧ p = dat (.tuple [natD (num + 1 + v), .str o, t.enc]) ∧ ρ' = ⟨[some (refP a), some (dat l.enc), some (dat (natD 3)), some (refP c), some (dat (natD (sizes (cl.map Cla.sen) * t.size))), some (dat (natD (num + 1 + v))), some (dat d), some (dat t.enc)], [(c, .lst (cl.map Cla.enc)), (a, .lst (stL n4))]⟩) (e_var 3) rfl
        (em_tup (am3 (Pa := fun p ρ' => p = dat (natD (num + 1 + v)) ∧ ρ' = ⟨[some (refP a), some (dat l.enc), some (dat (natD 3)), some (refP c), some (dat (natD (sizes (cl.map Cla.sen) * t.size))), some (dat (natD (num + 1 + v))), some (dat d), some (dat t.enc)], [(c, .lst (cl.map Cla.enc)), (a, .lst (stL n3))]⟩)
          (Pb := fun _ _ q ρ' => ∃ (o : Str) (n4 : St3), (o = "" ∨ wordB o = true) ∧ Good n4 ∧ q = dat (.str o) ∧ ρ' = ⟨[some (refP a), some (dat l.enc), some (dat (natD 3)), some (refP c), some (dat (natD (sizes (cl.map Cla.sen) * t.size))), some (dat (natD (num + 1 + v))), some (dat d), some (dat t.enc)], [(c, .lst (cl.map Cla.enc)), (a, .lst (stL n4))]⟩)
          (Pc := fun _ _ q ρ2 r ρ' => r = dat t.enc ∧ ρ' = ρ2) (e_var 5) (fun p ρ1 h => by
            obtain ⟨rfl, rfl⟩ := h
            refine em_weak (em_pick (j := 0) (rest := [(c, .lst (cl.map Cla.enc))]) (ds := (["", "", "wide", "quick"] : List Str).map PyData.str) (e_lst (ds := (["", "", "wide", "quick"] : List Str).map PyData.str) (a_cons e_str (a_cons e_str (a_cons e_str (a_cons e_str a_nil))))) D (show 1 ≤ 4 by decide) (e_var 0) e_int hn3) fun p ρ' h => ?_
            obtain ⟨n4, hn4, ⟨u, dd, hu, rfl⟩, rfl⟩ := h
            obtain ⟨o, ho, rfl⟩ := map_get hu
            have := List.all_eq_true.mp opts_ok _ (List.mem_of_getElem? ho)
            rw [Bool.or_eq_true, decide_eq_true_eq] at this
            exact ⟨o, n4, this, hn4, rfl, rfl⟩) (fun p ρ1 q ρ2 h1 h2 => by
            obtain ⟨o, n4, _, _, rfl, rfl⟩ := h2
            exact e_var 7)) (by decide) (fun ps ρ' h => ?_)) (by rw [List.length_map]; omega) (fun p ρ1 h => ?_))
      · obtain ⟨p, ρ1, q, ρ2, r, ⟨rfl, _⟩, ⟨o, n4, ho, hn4, rfl, rfl⟩, ⟨rfl, rfl⟩, rfl⟩ := h
        exact ⟨[natD (num + 1 + v), .str o, t.enc], rfl, (show 3 ≤ 1000 by decide), o, n4, ho, hn4, rfl, rfl⟩
      · obtain ⟨o, n4, ho, hn4, rfl, rfl⟩ := h
        have e1 : sizes ((cl ++ [Cla.mk (num + 1 + v) o t]).map Cla.sen) = sizes (cl.map Cla.sen) * t.size := by rw [List.map_append]; exact sizes_snoc t _
        refine ⟨_, rfl, rfl, s_nil (s_nil ⟨d1, d3, cl ++ [Cla.mk (num + 1 + v) o t], num + 1 + v, n4, some (dat d), some (dat t.enc), ?_, fun _ => ?_, fun c hc => ?_, ?_, fun c hc => ?_, by omega, by rw [e1]; exact ht, hn4, ?_⟩)⟩
        · rw [List.length_append]; simp; omega
        · rw [List.length_append]; simp
        · rcases List.mem_append.mp hc with hc | hc
          · exact c3 c hc
          · rw [List.mem_singleton.mp hc]
            exact ⟨by show 1 ≤ num + 1 + v; omega, by show num + 1 + v ≤ 99; omega, ho, t1⟩
        · rw [List.map_append]
          refine rise_snoc c4 fun y hy => ?_
          obtain ⟨c', hc', rfl⟩ := List.mem_map.mp hy
          have := c5 c' hc'
          show ((c'.num : Nat) : Int) < ((num + 1 + v : Nat) : Int)
          omega
        · rcases List.mem_append.mp hc with hc | hc
          · have := c5 c hc
            omega
          · rw [List.mem_singleton.mp hc]
            exact Nat.le_refl _
        · rw [e1, List.map_append]
          rfl
    · have hf : ¬ sizes (cl.map Cla.sen) * t.size ≤ 60 := of_decide_eq_false hf
      refine s_nil (s_nil ⟨d1, d3, cl, num + 1 + v, n3, some (dat d), some (dat t.enc), by omega, fun h1 => ?_, c3, c4, fun c hc => by have := c5 c hc; omega, by omega, c7, hn3, rfl⟩)
      cases cl with
      | nil => exact absurd (show 1 * t.size ≤ 60 by omega) hf
      | cons c cl => simp
  · obtain ⟨d1, d3, cl, num, n', s6, s7, c1, c2, c3, c4, c5, c6, c7, hn', rfl⟩ := h
    refine st_frz Part.first (View.refl.set 3 rfl (imp_lst (ds := cl.map Cla.enc) (by simp))) ?_
    exact s_cons (s1_ret (e_tuple B (e_var 3)) ⟨n', hn', ⟨cl, ⟨c2 d1, by omega, c3, c4, fun c hc => by have := c5 c hc; omega, c7⟩, rfl⟩, rfl⟩)
end
end MR
/-! T36: standards, told, parted, numbered, written out. -/
namespace MR
open PySem PySem.Spec PyProof.Rows L2
section
variable {G : GC} {L : LC G} {ρ : Rho G} {pos p1 p2 : Pos} {e : Expr} {es : List Expr} {C a : Addr} {sl : List (Option (PV G))} {n : St3}
structure DrawnStd (S : Std) : Prop where
  l : S.l.Ok
  r1 : S.range.length ≤ 1
  r : ∀ s ∈ S.range, s.Ok S.l ∧ s.plain = true
  rs : sizes S.range ≤ 4
  c : DrawnCl S.l S.cl
theorem scLStd : FnScope ["_law_state_here", "_law_most", "_law_letters_here", "_law_some", "_law_sentence_here"] ["_law_state_here", "_law_most"] (defScope (topS 78)) := ⟨rfl, rfl, rfl, by decide +kernel, rfl, by decide +kernel, by decide +kernel⟩
def XStd (r : PV G) : Prop := ∃ S : Std, DrawnStd S ∧ r = dat S.enc
def AStd (args : List (PV G)) (X : PV G → Prop) : Prop := args = [dat (natD 3)] ∧ X = XStd
structure RangeDr (l : Lt) (range : List Sen) : Prop where
  r1 : range.length ≤ 1
  r : ∀ s ∈ range, s.Ok l ∧ s.plain = true
  rs : sizes range ≤ 4
theorem fn_lstd (F : FunT G 78 "_law_standard" ["_law_state_here", "_law_most"]) (D : FnM G 1 "_law_choice" ["_law_state_here", "_law_many"] (RRnd AChoice)) (D1 : FnM G 2 "_law_letters" ["_law_state_here"] (RRnd ALetters)) (D2 : FnM G 4 "_law_sentence" ["_law_state_here", "_law_letters_here", "_law_great", "_law_plain"] (RRnd ASen)) (D3 : FnD G 1 "_law_size" ["_law_sentence_here"] (RLSize G)) (D4 : FnM G 5 "_law_clauses" ["_law_state_here", "_law_letters_here", "_law_most"] (RRnd ACl)) : FnM G 6 "_law_standard" ["_law_state_here", "_law_most"] (RRnd AStd) := by
  refine mk_defM (k := 5) F scLStd (fun pvs own Pw ⟨_, _, _, _, _, ⟨h, _⟩, h2, _⟩ => by rw [h2, h]; rfl) fun pvs own Pw ⟨a, n, args, X, hn, ⟨hX1, hX2⟩, h1, h2, h3⟩ f cd A outer s H E hr => ?_
  subst hX1 hX2 h1 h2 h3
  refine s_cons (s1_par2M 2 3 (am2 (Pb := fun _ ρ1 q ρ' => q = dat (.tuple []) ∧ ρ' = ρ1) (em_rnd (rest := []) D1 (show 2 ≤ 5 by decide) (e_var 0) a_nil hn ⟨rfl, rfl⟩) (fun p ρ1 h => e_tup (ds := []) a_nil)) ?_)
  rintro ps ρ1 ⟨p, ρ2, q, ⟨n1, hn1, ⟨l, hl, rfl⟩, rfl⟩, ⟨rfl, rfl⟩, rfl⟩
  refine ⟨_, _, rfl, ?_⟩
  refine s_cons (s1_ifM (tm_eqI (Pt := fun t ρ' => ∃ n', Good n' ∧ ρ' = ⟨[some (refP a), some (dat (natD 3)), some (dat l.enc), some (dat (.tuple [])), none], [(a, .lst (stL n'))]⟩) (em_choice (j := 0) (rest := []) D (show 1 ≤ 5 by decide) 2 (e_var 0) e_int hn1) (fun q ρ2 h => ?_)) (fun ρ1 h => ?_) (fun ρ1 h => s_nil ?_))
  · obtain ⟨n', hn', ⟨v, hv, rfl⟩, rfl⟩ := h
    exact ⟨_, rfl, n', hn', rfl⟩
  · obtain ⟨n2, hn2, rfl⟩ := h
    refine s_cons (s1_setM 4 (em_rnd (rest := []) (X := XSen l true) D2 (show 4 ≤ 5 by decide) (e_var 0) (a_cons (e_var 2) (a_cons e_int (a_cons e_bl a_nil))) hn2 ⟨l, true, hl, rfl, rfl⟩) ?_)
    rintro p ρ1 ⟨n3, hn3, ⟨t, t1, t2, t3, rfl⟩, rfl⟩
    have hR : ∃ range : List Sen, RangeDr l range ∧ PyData.tuple (if decide (t.size ≤ 4) = true then [t.enc] else []) = .tuple (range.map Sen.enc) := by
      by_cases ht : t.size ≤ 4
      · exact ⟨[t], ⟨Nat.le_refl _, fun s hs => by rw [List.mem_singleton.mp hs]; exact ⟨t1, t3 rfl⟩, by show t.size * 1 ≤ 4; omega⟩, by rw [decide_eq_true ht]; rfl⟩
      · exact ⟨[], ⟨Nat.zero_le _, (fun s hs => by cases hs), by decide⟩, by rw [decide_eq_false ht]; rfl⟩
    refine s_cons (s1_set 3 (p := dat (.tuple (if decide (t.size ≤ 4) = true then [t.enc] else []))) (e_if (t := decide (t.size ≤ 4)) (EvT.cast (t_cmp c_le (e_call D3 (show 1 ≤ 5 by decide) (a_cons (e_var 4) a_nil) ⟨t, rfl, rfl⟩) e_int) (decide_eq_decide.mpr (by omega))) (fun h => EvD.cast (e_tup (ds := [t.enc]) (a_cons (e_var 4) a_nil)) (by rw [h]; rfl)) (fun h => EvD.cast (e_tup (ds := []) a_nil) (by rw [h]; rfl))) (s_nil ?_))
    obtain ⟨range, hR, e⟩ := hR
    rw [e]
    refine s_cons (s1_retM (Pa := fun p ρ' => ∃ n', Good n' ∧ XStd p ∧ ρ'.ow = [(a, .lst (stL n'))]) (em_tup (am3 (Pb := fun _ ρ1 q ρ' => q = dat (.tuple (range.map Sen.enc)) ∧ ρ' = ρ1) (Pc := fun _ _ _ _ => Rn [some (refP a), some (dat (natD 3)), some (dat l.enc), some (dat (.tuple (range.map Sen.enc))), some (dat t.enc)] [] a (XCl l)) (e_var 2) (fun p ρ1 h => by obtain ⟨rfl, rfl⟩ := h; exact e_var 3) (fun p ρ1 q ρ2 h h2 => by
      obtain ⟨rfl, rfl⟩ := h
      obtain ⟨rfl, rfl⟩ := h2
      exact em_rnd (rest := []) (X := XCl l) D4 (Nat.le_refl _) (e_var 0) (a_cons (e_var 2) (a_cons (e_var 1) a_nil)) hn3 ⟨l, hl, rfl, rfl⟩)) (by decide) (fun ps ρ' h => ?_)) (fun p ρ1 h => h))
    obtain ⟨p, ρ1, q, ρ2, r, ⟨rfl, rfl⟩, ⟨rfl, rfl⟩, ⟨n4, hn4, ⟨cl, hcl, rfl⟩, rfl⟩, rfl⟩ := h
    exact ⟨[l.enc, .tuple (range.map Sen.enc), .tuple (cl.map Cla.enc)], rfl, (show 3 ≤ 1000 by decide), n4, hn4, ⟨⟨l, range, cl⟩, ⟨hl, hR.r1, hR.r, hR.rs, hcl⟩, rfl⟩, rfl⟩
  · obtain ⟨n2, hn2, rfl⟩ := h
    refine s_cons (s1_retM (Pa := fun p ρ' => ∃ n', Good n' ∧ XStd p ∧ ρ'.ow = [(a, .lst (stL n'))]) (em_tup (am3 (Pb := fun _ ρ1 q ρ' => q = dat (.tuple []) ∧ ρ' = ρ1) (Pc := fun _ _ _ _ => Rn [some (refP a), some (dat (natD 3)), some (dat l.enc), some (dat (.tuple [])), none] [] a (XCl l)) (e_var 2) (fun p ρ1 h => by obtain ⟨rfl, rfl⟩ := h; exact e_var 3) (fun p ρ1 q ρ2 h h2 => by
      obtain ⟨rfl, rfl⟩ := h
      obtain ⟨rfl, rfl⟩ := h2
      exact em_rnd (rest := []) (X := XCl l) D4 (Nat.le_refl _) (e_var 0) (a_cons (e_var 2) (a_cons (e_var 1) a_nil)) hn2 ⟨l, hl, rfl, rfl⟩)) (by decide) (fun ps ρ' h => ?_)) (fun p ρ1 h => h))
    obtain ⟨p, ρ1, q, ρ2, r, ⟨rfl, rfl⟩, ⟨rfl, rfl⟩, ⟨n4, hn4, ⟨cl, hcl, rfl⟩, rfl⟩, rfl⟩ := h
    exact ⟨[l.enc, .tuple [], .tuple (cl.map Cla.enc)], rfl, (show 3 ≤ 1000 by decide), n4, hn4, ⟨⟨l, [], cl⟩, ⟨hl, Nat.zero_le _, (fun s hs => by cases hs), (show (1 : Nat) ≤ 4 by decide), hcl⟩, rfl⟩, rfl⟩
/-! told -/
def toldD (l : Lt) (b : Bool) (m : Option (List (List (Nat × Nat)))) (k : Option (List (Nat × List (Option Nat)))) : PyData := .list [.bool b, madeD l m, asksD l k]
theorem scTold : FnScope ["_law_standard_here", "_law_owns"] ["_law_standard_here", "_law_owns"] (defScope (topS 80)) := ⟨rfl, rfl, rfl, by decide +kernel, rfl, by decide +kernel, by decide +kernel⟩
def RTold (G : GC) : Rel G := fun ps r => ∃ (S : Std) (cs : List Str) (g : Gm) (ls : Lost) (m : Option (List (List (Nat × Nat)))) (k : Option (List (Nat × List (Option Nat)))), S.Ok ∧ ClaimsOk cs ∧ Plays S.l S.range (sensOf S.cl cs) g ls ∧ Made g ls m ∧ Asks g ls k ∧ ps = [dat S.enc, dat (strsD cs)] ∧ r = dat (toldD S.l (keptB ls (some (0, 0))) m k)
theorem fn_told (F : FunT G 80 "_law_told" ["_law_standard_here", "_law_owns"]) (D1 : FnK G 15 "can_keep" ["standard", "claims"] 1 ["claims"] (RCanKeep G)) (D2 : FnK G 15 "made" ["standard", "claims"] 1 ["claims"] (RMade G)) (D3 : FnK G 15 "asker" ["standard", "claims"] 1 ["claims"] (RAsker G)) : FnD G 16 "_law_told" ["_law_standard_here", "_law_owns"] (RTold G) := by
  refine mk_def (k := 15) F scTold (fun pvs r ⟨_, _, _, _, _, _, _, _, _, _, _, h, _⟩ => by rw [h]; rfl) fun pvs r ⟨S, cs, g, ls, m, k, hS, hc, hp, hm, hk, h1, h2⟩ f cd A outer s H E hr => ?_
  subst h1 h2
  exact s_cons (s1_ret (e_lst (ds := [.bool (keptB ls (some (0, 0))), madeD S.l m, asksD S.l k]) (a_cons (e_callk D1 (Nat.le_refl _) (a_cons (e_var 0) a_nil) (e_var 1) ⟨S, cs, g, ls, hS, hc, hp, rfl, rfl⟩) (a_cons (e_callk D2 (Nat.le_refl _) (a_cons (e_var 0) a_nil) (e_var 1) ⟨S, cs, g, ls, m, hS, hc, hp, hm, rfl, rfl⟩) (a_cons (e_callk D3 (Nat.le_refl _) (a_cons (e_var 0) a_nil) (e_var 1) ⟨S, cs, g, ls, k, hS, hc, hp, hk, rfl, rfl⟩) a_nil)))) rfl)
/-! parted -/
def Std.more (S : Std) (cs : List Cla) : Std := ⟨S.l, S.range, S.cl ++ cs⟩
def Std.single (S : Std) (p q : Say) : Std := S.more [⟨95, "", .never (.or p q)⟩]
def Std.twofold (S : Std) (p q : Say) : Std := S.more [⟨95, "", .never p⟩, ⟨96, "", .never q⟩]
theorem scParted : FnScope ["_law_state_here", "_law_standard_here", "_law_letters_here", "_law_some", "_law_clauses_here", "_law_one", "_law_other", "_law_single"] ["_law_state_here", "_law_standard_here"] (defScope (topS 81)) := ⟨rfl, rfl, rfl, by decide +kernel, rfl, by decide +kernel, by decide +kernel⟩
def XParted (S : Std) (r : PV G) : Prop := ∃ p q : Say, p.Ok S.l ∧ p.depth = 1 ∧ q.Ok S.l ∧ q.depth = 1 ∧ r = dat (.list [(S.single p q).enc, (S.twofold p q).enc])
def AParted (args : List (PV G)) (X : PV G → Prop) : Prop := ∃ S : Std, DrawnStd S ∧ args = [dat S.enc] ∧ X = XParted S
theorem fn_parted (F : FunT G 81 "_law_parted" ["_law_state_here", "_law_standard_here"]) (D2 : FnM G 2 "_law_atom" ["_law_state_here", "_law_letters_here", "_law_plain"] (RRnd AAtom)) : FnM G 3 "_law_parted" ["_law_state_here", "_law_standard_here"] (RRnd AParted) := by
  refine mk_defM (k := 2) F scParted (fun pvs own Pw ⟨_, _, _, _, _, ⟨_, _, h, _⟩, h2, _⟩ => by rw [h2, h]; rfl) fun pvs own Pw ⟨a, n, args, X, hn, ⟨S, hS, hX1, hX2⟩, h1, h2, h3⟩ f cd A outer s H E hr => ?_
  subst hX1 hX2 h1 h2 h3
  obtain ⟨l, range, cl⟩ := S
  have c3 := hS.c.n3
  have c3 : cl.length ≤ 3 := c3
  refine s_cons (s1_asg (e_var 1) (g_tupD (ds := [l.enc, .tuple (range.map Sen.enc), .tuple (cl.map Cla.enc)]) (gs_cons (g_name 2) (gs_cons (g_name 3) (gs_cons (g_name 4) gs_nil)))) ?_)
  refine s_cons (s1_par2M 5 6 (am2 (Pb := fun _ _ => Rn [some (refP a), some (dat (Std.enc ⟨l, range, cl⟩)), some (dat l.enc), some (dat (.tuple (range.map Sen.enc))), some (dat (.tuple (cl.map Cla.enc))), none, none, none] [] a (XAtom l false)) (em_rnd (rest := []) (X := XAtom l false) D2 (Nat.le_refl _) (e_var 0) (a_cons (e_var 2) (a_cons e_bl a_nil)) hn ⟨l, false, hS.l, rfl, rfl⟩) (fun p ρ1 h => by
    obtain ⟨n2, hn2, h2, rfl⟩ := h
    exact em_rnd (rest := []) (X := XAtom l false) D2 (Nat.le_refl _) (e_var 0) (a_cons (e_var 2) (a_cons e_bl a_nil)) hn2 ⟨l, false, hS.l, rfl, rfl⟩)) ?_)
  rintro ps ρ1 ⟨p, ρ2, q, ⟨n2, hn2, ⟨t, t1, t2, t3, rfl⟩, rfl⟩, ⟨n3, hn3, ⟨u, u1, u2, u3, rfl⟩, rfl⟩, rfl⟩
  refine ⟨_, _, rfl, ?_⟩
  have e1 : cl.map Cla.enc ++ [.tuple [.int 95, .str "", .tuple [.str "never", .tuple [.str "or", t.enc, u.enc]]]] = (cl ++ [Cla.mk 95 "" (.never (.or t u))]).map Cla.enc := by rw [List.map_append]; rfl
  have e2 : cl.map Cla.enc ++ [.tuple [.int 95, .str "", .tuple [.str "never", t.enc]], .tuple [.int 96, .str "", .tuple [.str "never", u.enc]]] = (cl ++ [Cla.mk 95 "" (.never t), Cla.mk 96 "" (.never u)]).map Cla.enc := by rw [List.map_append]; rfl
  refine s_cons (s1_set 7 (e_tup (ds := [l.enc, .tuple (range.map Sen.enc), .tuple (cl.map Cla.enc ++ [.tuple [.int 95, .str "", .tuple [.str "never", .tuple [.str "or", t.enc, u.enc]]]])]) (a_cons (e_var 2) (a_cons (e_var 3) (a_cons (e_bin (b_cat (by rw [List.length_map]; simp; omega)) (e_var 4) (e_tup (ds := [.tuple [.int 95, .str "", .tuple [.str "never", .tuple [.str "or", t.enc, u.enc]]]]) (a_cons (e_tup (ds := [.int 95, .str "", .tuple [.str "never", .tuple [.str "or", t.enc, u.enc]]]) (a_cons e_int (a_cons e_str (a_cons (e_tup (ds := [.str "never", .tuple [.str "or", t.enc, u.enc]]) (a_cons e_str (a_cons (e_tup (ds := [.str "or", t.enc, u.enc]) (a_cons e_str (a_cons (e_var 5) (a_cons (e_var 6) a_nil)))) a_nil))) a_nil)))) a_nil))) a_nil)))) ?_)
  refine s_cons (s1_ret (e_lst (ds := [.tuple [l.enc, .tuple (range.map Sen.enc), .tuple (cl.map Cla.enc ++ [.tuple [.int 95, .str "", .tuple [.str "never", .tuple [.str "or", t.enc, u.enc]]]])], .tuple [l.enc, .tuple (range.map Sen.enc), .tuple (cl.map Cla.enc ++ [.tuple [.int 95, .str "", .tuple [.str "never", t.enc]], .tuple [.int 96, .str "", .tuple [.str "never", u.enc]]])]])
    (a_cons (e_var 7) (a_cons (e_tup (ds := [l.enc, .tuple (range.map Sen.enc), .tuple (cl.map Cla.enc ++ [.tuple [.int 95, .str "", .tuple [.str "never", t.enc]], .tuple [.int 96, .str "", .tuple [.str "never", u.enc]]])]) (a_cons (e_var 2) (a_cons (e_var 3) (a_cons (e_bin (b_cat (by rw [List.length_map]; simp; omega)) (e_var 4) (e_tup (ds := [.tuple [.int 95, .str "", .tuple [.str "never", t.enc]], .tuple [.int 96, .str "", .tuple [.str "never", u.enc]]]) (a_cons (e_tup (ds := [.int 95, .str "", .tuple [.str "never", t.enc]]) (a_cons e_int (a_cons e_str (a_cons (e_tup (ds := [.str "never", t.enc]) (a_cons e_str (a_cons (e_var 5) a_nil))) a_nil)))) (a_cons (e_tup (ds := [.int 96, .str "", .tuple [.str "never", u.enc]]) (a_cons e_int (a_cons e_str (a_cons (e_tup (ds := [.str "never", u.enc]) (a_cons e_str (a_cons (e_var 6) a_nil))) a_nil)))) a_nil)))) a_nil)))) a_nil))) ?_)
  refine ⟨n3, hn3, ⟨t, u, t1, t2, u1, u2, ?_⟩, rfl⟩
  rw [e1, e2]
  rfl
/-! numbered -/
def renumC (i : Nat) (c : Cla) : Cla := ⟨3 * i + 2, c.opt, c.sen⟩
def Std.renum (S : Std) : Std := ⟨S.l, S.range, S.cl.reverse.mapIdx renumC⟩
theorem scNumbered : FnScope ["_law_standard_here", "_law_clauses_here", "_law_at", "_law_one"] ["_law_standard_here"] (defScope (topS 82)) := ⟨rfl, rfl, rfl, by decide +kernel, rfl, by decide +kernel, by decide +kernel⟩
def RNumbered (G : GC) : Rel G := fun ps r => ∃ S : Std, S.cl.length ≤ 100 ∧ ps = [dat S.enc] ∧ r = dat S.renum.enc
theorem fn_numbered (B : Bs G) (F : FunT G 82 "_law_numbered" ["_law_standard_here"]) : FnD G 1 "_law_numbered" ["_law_standard_here"] (RNumbered G) := by
  refine mk_def (k := 0) F scNumbered (fun pvs r ⟨_, _, h, _⟩ => by rw [h]; rfl) fun pvs r ⟨S, hl, h1, h2⟩ f cd A outer s H E hr => ?_
  subst h1 h2
  obtain ⟨l, range, cl⟩ := S
  have hl : cl.length ≤ 100 := hl
  refine s_cons (s1_lc 1 (lcP (own := [("_law_at", 2), ("_law_one", 3)]) 2 3 ((cl.reverse.mapIdx renumC).map Cla.enc) (ItD.cast (i_enumT B.enumerate (e_revT (e_ix (x_tup at2) (e_var 0) e_int))) (enumQ_eq _)) (blk_body (by decide +kernel)) (by rw [enumQ_len]; simp) (by rw [enumQ_len]; simp; omega) fun s H C' cl' fp k q g hq hg => ?_) ?_)
  · obtain ⟨d, hd, rfl⟩ := enumQ_get hq
    rw [← List.map_reverse] at hd
    obtain ⟨c, hc, rfl⟩ := map_get hd
    obtain ⟨c2, hc2, rfl⟩ := map_get hg
    rw [List.getElem?_mapIdx, hc] at hc2
    have hc2 := Option.some.inj hc2
    subst hc2
    exact EvD.cast (e_bin (b_cat (ds := [.int ((3 * k + 2 : Nat) : Int)]) (es := [.str c.opt, c.sen.enc]) (show 1 + 2 ≤ 100000 by decide)) (e_tup (ds := [.int ((3 * k + 2 : Nat) : Int)]) (a_cons (EvD.cI (e_bin b_add (e_bin (b_mul (i := 3) (j := ((k : Nat) : Int)) (.inl ⟨by decide, by decide⟩)) e_int (e_var 2)) e_int) (show _ = ((3 * k + 2 : Nat) : Int) by omega)) a_nil)) (EvD.cast (e_slT (e_var 3) (o_some (i := ((1 : Nat) : Int)) e_int) o_none) (show _ = PyData.tuple [.str c.opt, c.sen.enc] by rw [cut_from _ 1 (by simp)]; rfl))) rfl
  · refine s_cons (s1_ret (EvD.cast (e_bin (b_cat (ds := [l.enc, .tuple (range.map Sen.enc)]) (es := [.tuple ((cl.reverse.mapIdx renumC).map Cla.enc)]) (show 2 + 1 ≤ 100000 by decide)) (EvD.cast (e_slT (e_var 0) o_none (o_some (i := ((2 : Nat) : Int)) e_int)) (show _ = PyData.tuple [l.enc, .tuple (range.map Sen.enc)] by rw [cut_to _ 2 (by simp)]; rfl)) (e_tup (ds := [.tuple ((cl.reverse.mapIdx renumC).map Cla.enc)]) (a_cons (e_tuple B (e_var 1)) a_nil))) rfl) rfl)
/-! written out -/
def Std.plainOf (S : Std) (cs : List Str) : Std := ⟨S.l, S.range, (S.cl.filter (Cla.binds cs)).map fun c => ⟨c.num, "", c.sen⟩⟩
theorem scWritten : FnScope ["_law_standard_here", "_law_owns", "_law_clauses_here", "_law_one"] ["_law_standard_here", "_law_owns"] (defScope (topS 83)) := ⟨rfl, rfl, rfl, by decide +kernel, rfl, by decide +kernel, by decide +kernel⟩
def RWritten (G : GC) : Rel G := fun ps r => ∃ (S : Std) (cs : List Str), S.cl.length ≤ 100 ∧ ps = [dat S.enc, dat (strsD cs)] ∧ r = dat (S.plainOf cs).enc
theorem fn_written (B : Bs G) (F : FunT G 83 "_law_written_out" ["_law_standard_here", "_law_owns"]) : FnD G 1 "_law_written_out" ["_law_standard_here", "_law_owns"] (RWritten G) := by
  refine mk_def (k := 0) F scWritten (fun pvs r ⟨_, _, _, h, _⟩ => by rw [h]; rfl) fun pvs r ⟨S, cs, hl, h1, h2⟩ f cd A outer s H E hr => ?_
  subst h1 h2
  obtain ⟨l, range, cl⟩ := S
  have hl : cl.length ≤ 100 := hl
  refine s_cons (s1_lc 2 (LcR.cast (lcNIf (own := [("_law_one", 3)]) (ds := cl.map Cla.enc) 3 (cl.map fun c => if c.binds cs then some (Cla.enc ⟨c.num, "", c.sen⟩) else none) (i_tup (e_ix (x_tup at2) (e_var 0) e_int)) (blk_body (by decide +kernel)) (by simp) (by rw [List.length_map]; omega) (fun s H C' ce fp k d x hd hx => ?_) (fun s H C' ce fp k d x hd hx => ?_)) (by rw [filter_map_if])) ?_)
  · obtain ⟨c, hc, rfl⟩ := map_get hd
    obtain ⟨c2, hc2, rfl⟩ := map_get hx
    rw [hc] at hc2
    cases hc2
    exact EvT.cast (t_w (w_or (t_cmp c_eqS (e_ix (x_tup at1) (e_var 3) e_int) e_str) fun _ => w_or1 (t_cmp (c_inT rfl (flat_strs cs)) (e_ix (x_tup at1) (e_var 3) e_int) (e_var 1)))) (by show (decide (c.opt = "") || inD (.str c.opt) (cs.map PyData.str)) = _; rw [inD_str]; show Cla.binds cs c = Option.isSome (if Cla.binds cs c then _ else _); cases Cla.binds cs c <;> rfl)
  · obtain ⟨c, hc, rfl⟩ := map_get hd
    obtain ⟨c2, hc2, h⟩ := map_get hx
    rw [hc] at hc2
    cases hc2
    split at h
    · cases h
      exact e_tup (ds := [.int (c.num : Nat), .str "", c.sen.enc]) (a_cons (e_ix (x_tup at0) (e_var 3) e_int) (a_cons e_str (a_cons (e_ix (x_tup at2) (e_var 3) e_int) a_nil)))
    · cases h
  · have e : ((cl.filter (Cla.binds cs)).map fun c => Cla.enc ⟨c.num, "", c.sen⟩) = ((cl.filter (Cla.binds cs)).map fun c => Cla.mk c.num "" c.sen).map Cla.enc := by rw [List.map_map]; rfl
    rw [e]
    obtain ⟨cl2, hcl2⟩ : ∃ cl2, cl2 = (cl.filter (Cla.binds cs)).map fun c => Cla.mk c.num "" c.sen := ⟨_, rfl⟩
    rw [← hcl2]
    refine s_cons (s1_ret (EvD.cast (e_bin (b_cat (ds := [l.enc, .tuple (range.map Sen.enc)]) (es := [.tuple (cl2.map Cla.enc)]) (show 2 + 1 ≤ 100000 by decide)) (EvD.cast (e_slT (e_var 0) o_none (o_some (i := ((2 : Nat) : Int)) e_int)) (show _ = PyData.tuple [l.enc, .tuple (range.map Sen.enc)] by rw [cut_to _ 2 (by simp)]; rfl)) (e_tup (ds := [.tuple (cl2.map Cla.enc)]) (a_cons (e_tuple B (e_var 2)) a_nil))) rfl) ?_)
    subst hcl2
    rfl
end
end MR
/-! M8: the words that sentences together let live. -/
namespace MR
open PySem
/-- words of places below n -/
def InW (n : Nat) (w : List Nat) : Prop := ∀ a ∈ w, a < n
theorem InW.head {n a : Nat} {w : List Nat} (h : InW n (a :: w)) : a < n := h a List.mem_cons_self
theorem InW.tail {n a : Nat} {w : List Nat} (h : InW n (a :: w)) : InW n w := fun b hb => h b (List.mem_cons_of_mem _ hb)
theorem alive_out {n : Nat} {R : Rows} (hR : RowsOk n R) : ∀ {w : List Nat} {s : Nat}, s < R.length → ¬ InW n w → alive (rowAt R) s w = false
  | [], s, _, h => absurd (fun a ha => by cases ha) h
  | a :: w, s, hs, h => by
    rw [alive_cons]
    cases e : (rowAt R s).getD a none with
    | none => rfl
    | some t =>
      have hm := getD_some_mem e
      refine alive_out hR ((hR.row hs).2.2 t hm) fun hw => h fun b hb => ?_
      rcases List.mem_cons.mp hb with rfl | hb
      · have hl := (hR.row hs).2.1
        by_cases hlt : b < n
        · exact hlt
        · rw [List.getD_eq_getElem?_getD, List.getElem?_eq_none (by omega)] at e
          cases e
      · exact hw b hb
theorem Watch.alive {l : Lt} {s : Sen} {out : Rows} (h : Watch l s out) (w : List Nat) : MR.alive (rowAt out) 0 w = MR.alive (succS l s) 0 w := by
  obtain ⟨o, _, hb, hR, hL⟩ := h
  exact (hL.alive hR w).trans (tab_alive0 hb w)
theorem Joined.alive {n : Nat} {W : List Rows} {out : Rows} (h : Joined n W out) (w : List Nat) : MR.alive (rowAt out) 0 w = MR.alive (succJ W n) (zerosOf W) w := by
  obtain ⟨o, _, hb, hR, hL⟩ := h
  exact (hL.alive hR w).trans (tab_alive0 hb w)
def allAlive : List Rows → List Nat → List Nat → Bool
  | R :: W, s :: ss, w => alive (rowAt R) s w && allAlive W ss w
  | _, _, _ => true
theorem step_all (a : Nat) (w : List Nat) : ∀ (W : List Rows) (ss : List Nat), ss.length = W.length → allAlive W ss (a :: w) = match prodStep W ss a with
    | none => false
    | some t => allAlive W t w
  | [], [], _ => rfl
  | R :: W, s :: ss, h => by
    have ih := step_all a w W ss (by simpa using h)
    show (alive (rowAt R) s (a :: w) && allAlive W ss (a :: w)) = _
    rw [ih, alive_cons]
    unfold prodStep
    have e : foundOf (R :: W) a (s :: ss) = (rowAt R s).getD a none :: foundOf W a ss := rfl
    rw [e, List.all_cons, List.map_cons]
    cases (rowAt R s).getD a none with
    | none => rfl
    | some t =>
      cases (foundOf W a ss).all Option.isSome with
      | false =>
        show (alive (rowAt R) t w && false) = false
        rw [Bool.and_false]
      | true => rfl
theorem prodStep_len {W : List Rows} {ss t : List Nat} {a : Nat} (h : ss.length = W.length) (e : prodStep W ss a = some t) : t.length = W.length := by
  unfold prodStep at e
  split at e
  · cases e
    unfold foundOf
    rw [List.length_map, List.length_map, List.length_zip]
    omega
  · cases e
theorem succJ_getD {W : List Rows} {n a : Nat} (s : List Nat) (h : a < n) : (succJ W n s).getD a none = prodStep W s a := by
  unfold succJ
  rw [List.getD_eq_getElem?_getD, List.getElem?_map, List.getElem?_range h]
  rfl
theorem alive_prod {W : List Rows} {n : Nat} : ∀ (w : List Nat) (ss : List Nat), InW n w → ss.length = W.length → alive (succJ W n) ss w = allAlive W ss w
  | [], ss, _, h => by
    show true = _
    induction W generalizing ss with
    | nil =>
      cases ss with
      | nil => rfl
      | cons s ss => simp at h
    | cons R W ih =>
      cases ss with
      | nil => simp at h
      | cons s ss =>
        show true = (true && allAlive W ss [])
        rw [← ih ss (by simpa using h)]
        rfl
  | a :: w, ss, hw, h => by
    rw [alive_cons, succJ_getD ss hw.head, step_all a w W ss h]
    cases e : prodStep W ss a with
    | none => rfl
    | some t => exact alive_prod w t hw.tail (prodStep_len h e)
theorem all_zero (w : List Nat) : ∀ W : List Rows, allAlive W (zerosOf W) w = W.all fun R => alive (rowAt R) 0 w
  | [] => rfl
  | R :: W => by
    show (alive (rowAt R) 0 w && allAlive W (zerosOf W) w) = _
    rw [all_zero w W]
    rfl
theorem Watches.cons {l : Lt} {s : Sen} {ss : List Sen} {R : Rows} {W : List Rows} (h : Watches l (s :: ss) (R :: W)) : Watch l s R ∧ Watches l ss W :=
  ⟨h.2 0 s R rfl rfl, by simpa using h.1, fun i s' R' h1 h2 => h.2 (i + 1) s' R' h1 h2⟩
theorem watches_alive {l : Lt} (w : List Nat) : ∀ {ss : List Sen} {W : List Rows}, Watches l ss W → (W.all fun R => alive (rowAt R) 0 w) = ss.all fun s => alive (succS l s) 0 w
  | [], [], _ => rfl
  | [], R :: W, h => by have := h.1; simp at this
  | s :: ss, [], h => by have := h.1; simp at this
  | s :: ss, R :: W, h => by
    obtain ⟨h1, h2⟩ := h.cons
    rw [List.all_cons, List.all_cons, h1.alive w, watches_alive w h2]
/-- sentences together let live what each lets live -/
theorem Together.alive {l : Lt} {ss : List Sen} {out : Rows} (h : Together l ss out) {w : List Nat} (hw : InW l.beats.length w) : MR.alive (rowAt out) 0 w = ss.all fun s => MR.alive (succS l s) 0 w := by
  obtain ⟨W, hW, hJ⟩ := h
  rw [hJ.alive w, alive_prod w _ hw (by unfold zerosOf; rw [List.length_replicate]), all_zero, watches_alive w hW]
theorem Together.dif {l : Lt} {ss : List Sen} {out : Rows} (h : Together l ss out) {s t : Nat} (hs : s < out.length) (ht : t < out.length) (e : ∀ w, InW l.beats.length w → MR.alive (rowAt out) s w = MR.alive (rowAt out) t w) : s = t := by
  have hok := h.ok
  obtain ⟨W, hW, o, _, hb, hR, hL⟩ := h
  refine hL.dif hR hs ht fun w => ?_
  by_cases hw : InW l.beats.length w
  · exact e w hw
  · rw [alive_out hok hs hw, alive_out hok ht hw]
/-- what s lets live, s' lets live, too -/
def Sim (n : Nat) (R : Rows) (s : Nat) (R' : Rows) (s' : Nat) : Prop := ∀ w, InW n w → alive (rowAt R) s w = true → alive (rowAt R') s' w = true
theorem Sim.dead {n : Nat} {R R' : Rows} {s s' a : Nat} (h : Sim n R s R' s') (ha : a < n) (e : (rowAt R' s').getD a none = none) : (rowAt R s).getD a none = none := by
  cases e2 : (rowAt R s).getD a none with
  | none => rfl
  | some t =>
    have := h [a] (fun b hb => by rw [List.mem_singleton.mp hb]; exact ha) (by rw [alive_cons, e2]; rfl)
    rw [alive_cons, e] at this
    cases this
theorem Sim.step {n : Nat} {R R' : Rows} {s s' a t t' : Nat} (h : Sim n R s R' s') (ha : a < n) (e : (rowAt R s).getD a none = some t) (e' : (rowAt R' s').getD a none = some t') : Sim n R t R' t' := fun w hw hl => by
  have := h (a :: w) (fun b hb => by
    rcases List.mem_cons.mp hb with rfl | hb
    · exact ha
    · exact hw b hb) (by rw [alive_cons, e]; exact hl)
  rw [alive_cons, e'] at this
  exact this
theorem Sim.refl {n : Nat} {R : Rows} {s : Nat} : Sim n R s R s := fun _ _ h => h
/-- more sentences let less live -/
theorem sim_more {l : Lt} {ss ts : List Sen} {R R' : Rows} (h : Together l (ss ++ ts) R) (h' : Together l ss R') : Sim l.beats.length R 0 R' 0 := fun w hw hl => by
  rw [h.alive hw, List.all_append, Bool.and_eq_true] at hl
  rw [h'.alive hw]
  exact hl.1
/-- a search through a one to one map -/
theorem bfs_iso {σ τ : Type} [DecidableEq σ] [DecidableEq τ] {succ : σ → List (Option σ)} {succ' : τ → List (Option τ)} (P : σ → Prop) (f : σ → τ) (inj : ∀ x y, P x → P y → f x = f y → x = y) (hs : ∀ s, P s → succ' (f s) = (succ s).map (Option.map f)) (hc : ∀ s, P s → ∀ x, some x ∈ succ s → P x) {o : List σ} {n : Nat} {g : List σ} (h : Bfs succ o n g) : (∀ x ∈ o, P x) → Bfs succ' (o.map f) n (g.map f) ∧ ∀ x ∈ g, P x := by
  induction h with
  | @done o =>
    intro hp
    refine ⟨?_, hp⟩
    have : o.length = (o.map f).length := by rw [List.length_map]
    rw [this]
    exact .done
  | @step o n s g e _ ih =>
    intro hp
    have ps := hp s (List.mem_of_getElem? e)
    have hp2 : ∀ x ∈ visit o (succ s), P x := fun x hx => by
      rcases visit_mem.mp hx with hx | hx
      · exact hp x hx
      · exact hc s ps x hx
    obtain ⟨h1, h2⟩ := ih hp2
    refine ⟨.step (s := f s) (by rw [List.getElem?_map, e]; rfl) ?_, h2⟩
    rw [hs s ps, visit_map fun x y hx hy => inj x y (hp2 x (visit_mem.mpr hx)) (hp2 y (visit_mem.mpr hy))]
    exact h1
theorem ix_iso {σ τ : Type} [DecidableEq σ] [DecidableEq τ] {f : σ → τ} : ∀ {o : List σ} {x : σ}, (∀ y ∈ o, f y = f x → y = x) → ix (o.map f) (f x) = ix o x
  | [], x, _ => rfl
  | y :: o, x, h => by
    unfold ix
    rw [List.map_cons, List.idxOf_cons, List.idxOf_cons]
    by_cases e : y = x
    · subst e
      simp
    · have h1 : (f y == f x) = false := by simpa using fun z => e (h y List.mem_cons_self z)
      have h2 : (y == x) = false := by simpa using e
      rw [h1, h2]
      have ih := ix_iso (o := o) fun z hz => h z (List.mem_cons_of_mem _ hz)
      unfold ix at ih
      simp [ih]
theorem tab_iso {σ τ : Type} [DecidableEq σ] [DecidableEq τ] {succ : σ → List (Option σ)} {succ' : τ → List (Option τ)} (P : σ → Prop) (f : σ → τ) (inj : ∀ x y, P x → P y → f x = f y → x = y) (hs : ∀ s, P s → succ' (f s) = (succ s).map (Option.map f)) (hc : ∀ s, P s → ∀ x, some x ∈ succ s → P x) {o : List σ} (ho : ∀ x ∈ o, P x) : tabOf succ' (o.map f) = tabOf succ o := by
  unfold tabOf
  rw [List.map_map]
  refine List.map_congr_left fun s hm => ?_
  show toRow (o.map f) (succ' (f s)) = toRow o (succ s)
  rw [hs s (ho s hm)]
  unfold toRow
  rw [List.map_map]
  refine List.map_congr_left fun x hx => ?_
  cases x with
  | none => rfl
  | some y => exact congrArg some (ix_iso fun z hz e => inj z y (ho z hz) (hc s (ho s hm) y hx) e)
end MR
/-! M9: games exist; what says as much has the same game. -/
namespace MR
open PySem
theorem prod_sizes {l : Lt} : ∀ {ss : List Sen} {W : List Rows}, (∀ s ∈ ss, s.Ok l) → Watches l ss W → prodLen W ≤ sizes ss
  | [], [], _, _ => Nat.le_refl _
  | [], R :: W, _, h => by have := h.1; simp at this
  | s :: ss, [], _, h => by have := h.1; simp at this
  | s :: ss, R :: W, ho, h => by
    obtain ⟨h1, h2⟩ := h.cons
    rw [prodLen_cons]
    exact Nat.mul_le_mul (h1.len (ho s List.mem_cons_self)) (prod_sizes (fun s hs => ho s (List.mem_cons_of_mem _ hs)) h2)
theorem together_small {l : Lt} {ss : List Sen} (ho : ∀ s ∈ ss, s.Ok l) {m : Nat} (hm : m ≤ 1000) (h : sizes ss ≤ m) : ∃ out, Together l ss out ∧ out.length ≤ m := by
  obtain ⟨W, hW⟩ := watches_ex ho
  have hp := prod_sizes ho hW
  obtain ⟨out, h1, h2⟩ := together_ex hW (by omega)
  exact ⟨out, h1, by omega⟩
theorem Together.small {l : Lt} {ss : List Sen} {R : Rows} (h : Together l ss R) (ho : ∀ s ∈ ss, s.Ok l) {m : Nat} (hm : m ≤ 1000) (hz : sizes ss ≤ m) : R.length ≤ m := by
  obtain ⟨out, h1, h2⟩ := together_small ho hm hz
  rw [h.det h1]
  exact h2
/-- a game of given tables -/
theorem plays_of {l : Lt} (hl : l.Ok) {range ss : List Sen} (hr : ∀ s ∈ range, s.Ok l) (hs : ∀ s ∈ ss, s.Ok l) (n1 : range.length ≤ 100) (n2 : ss.length ≤ 100) {lim rows : Rows} (h1 : Together l range lim) (h2 : Together l ss rows) (m1 : lim.length ≤ 4) (m2 : rows.length ≤ 60) {ls : Lost} (h : LostOf ⟨l, lim, rows⟩ ls) : Plays l range ss ⟨l, lim, rows⟩ ls :=
  ⟨⟨hl, h1.ok, h2.ok, by show lim.length ≤ 1000; omega, by show rows.length ≤ 1000; omega⟩, rfl, hr, hs, n1, n2, h1, h2, m1, m2, h⟩
theorem plays_ex {l : Lt} (hl : l.Ok) {range ss : List Sen} (hr : ∀ s ∈ range, s.Ok l) (hs : ∀ s ∈ ss, s.Ok l) (n1 : range.length ≤ 100) (n2 : ss.length ≤ 100) (z1 : sizes range ≤ 4) (z2 : sizes ss ≤ 60) : ∃ g ls, Plays l range ss g ls := by
  obtain ⟨lim, t1, k1⟩ := together_small hr (by decide) z1
  obtain ⟨rows, t2, k2⟩ := together_small hs (by decide) z2
  obtain ⟨ls, hls⟩ := lostOf_ex (g := ⟨l, lim, rows⟩) ⟨hl, t1.ok, t2.ok, by show lim.length ≤ 1000; omega, by show rows.length ≤ 1000; omega⟩
  exact ⟨_, ls, plays_of hl hr hs n1 n2 t1 t2 k1 k2 hls⟩
/-- other sentences with the same table: the same game -/
theorem Plays.other {l : Lt} {range ss ts : List Sen} {g : Gm} {ls : Lost} (h : Plays l range ss g ls) (ht : ∀ s ∈ ts, s.Ok l) (n2 : ts.length ≤ 100) (h2 : Together l ts g.rows) : Plays l range ts g ls := ⟨h.ok, h.hl, h.r, ht, h.n1, n2, h.lim, h2, h.m1, h.m2, h.lost⟩
/-! never this or that -/
theorem watch_never {l : Lt} {p : Say} {R : Rows} (hs : (Sen.never p).Ok l) (h : Watch l (.never p) R) : R.length = 1 ∧ ∀ a, (ha : a < l.beats.length) → (rowAt R 0).getD a none = if p.so l.beats[a] then none else some 0 := by
  have h1 := h.len hs
  have h1 : R.length ≤ 1 := h1
  have hok := h.ok
  have hp := hok.pos
  refine ⟨by omega, fun a ha => ?_⟩
  have hal := h.alive [a]
  rw [alive_cons, alive_cons] at hal
  have es : (succS l (.never p) 0).getD a none = if p.so l.beats[a] then none else some 0 := by
    unfold succS
    rw [List.getD_eq_getElem?_getD, List.getElem?_map, List.getElem?_eq_getElem ha]
    rfl
  rw [es] at hal
  cases e : (rowAt R 0).getD a none with
  | none =>
    rw [e] at hal
    by_cases hso : p.so l.beats[a] = true
    · rw [if_pos hso]
    · rw [if_neg hso] at hal
      cases hal
  | some t =>
    have ht := (hok.row hp).2.2 t (getD_some_mem e)
    have ht : t = 0 := by omega
    subst ht
    rw [e] at hal
    by_cases hso : p.so l.beats[a] = true
    · rw [if_pos hso] at hal
      cases hal
    · rw [if_neg hso]
theorem found_app (a : Nat) : ∀ (W V : List Rows) (s t : List Nat), s.length = W.length → foundOf (W ++ V) a (s ++ t) = foundOf W a s ++ foundOf V a t := fun W V s t h => by
  unfold foundOf
  rw [List.zip_append h.symm, List.map_append]
theorem Watches.app {l : Lt} {ss ts : List Sen} {W V : List Rows} (h1 : Watches l ss W) (h2 : Watches l ts V) : Watches l (ss ++ ts) (W ++ V) := by
  refine ⟨by rw [List.length_append, List.length_append, h1.1, h2.1], fun i s R hs hR => ?_⟩
  by_cases hi : i < ss.length
  · rw [List.getElem?_append_left hi] at hs
    rw [List.getElem?_append_left (by rw [h1.1]; exact hi)] at hR
    exact h1.2 i s R hs hR
  · rw [List.getElem?_append_right (by omega)] at hs
    rw [List.getElem?_append_right (by rw [h1.1]; omega), h1.1] at hR
    exact h2.2 _ s R hs hR
theorem Watches.one {l : Lt} {s : Sen} {R : Rows} (h : Watch l s R) : Watches l [s] [R] := ⟨rfl, fun i s' R' h1 h2 => by
  cases i with
  | zero => cases h1; cases h2; exact h
  | succ i => cases h1⟩
theorem zeros_app (W V : List Rows) : zerosOf (W ++ V) = zerosOf W ++ zerosOf V := by
  unfold zerosOf
  rw [List.length_append, List.replicate_append_replicate]
theorem zeros_len (W : List Rows) : (zerosOf W).length = W.length := List.length_replicate
/-- a search over side by side tables, carried over -/
theorem joined_iso {n : Nat} {W V : List Rows} {out : Rows} (P : List Nat → Prop) (f : List Nat → List Nat) (inj : ∀ x y, P x → P y → f x = f y → x = y) (hs : ∀ s, P s → ∀ a, a < n → prodStep V (f s) a = (prodStep W s a).map f) (hc : ∀ s, P s → ∀ a t, a < n → prodStep W s a = some t → P t) (h0 : P (zerosOf W)) (hz : f (zerosOf W) = zerosOf V) (h : Joined n W out) : Joined n V out := by
  obtain ⟨o, ol, hb, hR, hL⟩ := h
  have hs' : ∀ s, P s → succJ V n (f s) = (succJ W n s).map (Option.map f) := fun s ps => by
    unfold succJ
    rw [List.map_map]
    exact List.map_congr_left fun a ha => hs s ps a (List.mem_range.mp ha)
  have hc' : ∀ s, P s → ∀ x, some x ∈ succJ W n s → P x := fun s ps x hx => by
    unfold succJ at hx
    obtain ⟨a, ha, e⟩ := List.mem_map.mp hx
    exact hc s ps a x (List.mem_range.mp ha) e
  obtain ⟨h1, h2⟩ := bfs_iso P f inj hs' hc' hb fun x hx => by rw [List.mem_singleton.mp hx]; exact h0
  have e := tab_iso P f inj hs' hc' h2
  rw [List.map_cons, List.map_nil, hz] at h1
  exact ⟨o.map f, by rw [List.length_map]; exact ol, h1, by rw [e]; exact hR, by rw [e]; exact hL⟩
/-- never this or that: never this, never that -/
theorem together_parted {l : Lt} {ss : List Sen} {p q : Say} {out : Rows} (hpq : (Sen.never (.or p q)).Ok l) (hp : (Sen.never p).Ok l) (hq : (Sen.never q).Ok l) (h : Together l (ss ++ [.never (.or p q)]) out) (hss : ∀ s ∈ ss, s.Ok l) : Together l (ss ++ [.never p, .never q]) out := by
  obtain ⟨W0, hW0, hJ⟩ := h
  obtain ⟨W, hW⟩ := watches_ex hss
  obtain ⟨A, hA, _⟩ := watch_ex hpq
  obtain ⟨Pp, hP, _⟩ := watch_ex hp
  obtain ⟨Q, hQ, _⟩ := watch_ex hq
  have e := hW0.det (hW.app (Watches.one hA))
  subst e
  refine ⟨W ++ [Pp, Q], hW.app (show Watches l [.never p, .never q] [Pp, Q] from (Watches.one hP).app (Watches.one hQ)), ?_⟩
  obtain ⟨a1, a2⟩ := watch_never hpq hA
  obtain ⟨p1, p2⟩ := watch_never hp hP
  obtain ⟨q1, q2⟩ := watch_never hq hQ
  refine joined_iso (fun s => ∃ t, t.length = W.length ∧ s = t ++ [0]) (fun s => s ++ [0]) (fun x y _ _ e => List.append_cancel_right e) (fun s ps a ha => ?_) (fun s ps a t ha e => ?_) ⟨zerosOf W, zeros_len W, zeros_app W [A]⟩ (by rw [zeros_app, zeros_app, List.append_assoc]; rfl) hJ
  · obtain ⟨t, ht, rfl⟩ := ps
    unfold prodStep
    rw [List.append_assoc, found_app a W [Pp, Q] t ([0] ++ [0]) ht, found_app a W [A] t [0] ht]
    have e1 : foundOf [Pp, Q] a ([0] ++ [0]) = [(rowAt Pp 0).getD a none, (rowAt Q 0).getD a none] := rfl
    have e2 : foundOf [A] a [0] = [(rowAt A 0).getD a none] := rfl
    rw [e1, e2, p2 a ha, q2 a ha, a2 a ha]
    have e3 : Say.so l.beats[a] (.or p q) = (p.so l.beats[a] || q.so l.beats[a]) := rfl
    rw [e3]
    rw [List.all_append, List.all_append]
    cases (foundOf W a t).all Option.isSome with
    | false => rfl
    | true =>
      cases p.so l.beats[a] with
      | true => rfl
      | false =>
        cases q.so l.beats[a] with
        | true => rfl
        | false =>
          show some _ = some _
          rw [List.map_append, List.map_append]
          show some (List.map (fun x => x.getD 0) (foundOf W a t) ++ [0, 0]) = some ((List.map (fun x => x.getD 0) (foundOf W a t) ++ [0]) ++ [0])
          rw [List.append_assoc]
          rfl
  · obtain ⟨t0, ht0, rfl⟩ := ps
    unfold prodStep at e
    rw [found_app a W [A] t0 [0] ht0] at e
    have e2 : foundOf [A] a [0] = [(rowAt A 0).getD a none] := rfl
    rw [e2, a2 a ha] at e
    cases hso : Say.so l.beats[a] (.or p q) with
    | true =>
      rw [hso] at e
      have : (foundOf W a t0 ++ [if true = true then none else some 0]).all Option.isSome = false := by
        rw [List.all_append]
        show (_ && false) = false
        rw [Bool.and_false]
      rw [if_neg (by rw [this]; exact Bool.false_ne_true)] at e
      cases e
    | false =>
      rw [hso] at e
      by_cases hall : (foundOf W a t0 ++ [if false = true then none else some 0]).all Option.isSome = true
      · rw [if_pos hall] at e
        have e := Option.some.inj e
        subst e
        refine ⟨(foundOf W a t0).map (·.getD 0), ?_, ?_⟩
        · unfold foundOf
          rw [List.length_map, List.length_map, List.length_zip]
          omega
        · rw [List.map_append]
          rfl
      · rw [if_neg hall] at e
        cases e
theorem zip_rev {α β : Type} : ∀ {a : List α} {b : List β}, a.length = b.length → a.reverse.zip b.reverse = (a.zip b).reverse
  | [], [], _ => rfl
  | x :: a, y :: b, h => by
    have h : a.length = b.length := by simpa using h
    rw [List.reverse_cons, List.reverse_cons, List.zip_append (by rw [List.length_reverse, List.length_reverse, h]), zip_rev h]
    show _ = ((x, y) :: a.zip b).reverse
    rw [List.reverse_cons]
    rfl
theorem Watches.rev {l : Lt} {ss : List Sen} {W : List Rows} (h : Watches l ss W) : Watches l ss.reverse W.reverse := by
  refine ⟨by rw [List.length_reverse, List.length_reverse, h.1], fun i s R hs hR => ?_⟩
  have hi : i < ss.length := by have := (List.getElem?_eq_some_iff.mp hs).1; rwa [List.length_reverse] at this
  rw [List.getElem?_reverse hi] at hs
  rw [List.getElem?_reverse (by rw [h.1]; exact hi), h.1] at hR
  exact h.2 _ s R hs hR
/-- the other way about -/
theorem together_rev {l : Lt} {ss : List Sen} {out : Rows} (h : Together l ss out) : Together l ss.reverse out := by
  obtain ⟨W, hW, hJ⟩ := h
  refine ⟨W.reverse, hW.rev, joined_iso (fun s => s.length = W.length) List.reverse (fun x y _ _ e => List.reverse_inj.mp e) (fun s ps a ha => ?_) (fun s ps a t ha e => prodStep_len ps e) (zeros_len W) ?_ hJ⟩
  · have e : foundOf W.reverse a s.reverse = (foundOf W a s).reverse := by
      unfold foundOf
      rw [zip_rev ps.symm, List.map_reverse]
    unfold prodStep
    rw [e, List.all_reverse]
    cases (foundOf W a s).all Option.isSome with
    | false => rfl
    | true => show some _ = some _; rw [List.map_reverse]
  · unfold zerosOf
    rw [List.length_reverse, List.reverse_replicate]
end MR
/-! M10: what can be kept still can. -/
namespace MR
open PySem
/-- surely lost, among the met pairs -/
inductive Lst (g : Gm) (o : List Pair) : Pair → Prop
  | mk {p : Pair} {k : Nat} : p ∈ o → k ∈ g.insAt p → (∀ x, some x ∈ g.behind p k → Lst g o x) → Lst g o p
theorem isLost_mem {ls : Lost} {p : Pair} (h : p ∈ ls.map (·.1)) : isLost ls p = true := by
  cases e : isLost ls p with
  | true => rfl
  | false => exact absurd h (notLost e)
theorem settle_sound {g : Gm} {o : List Pair} {n : Nat} {ls f : Lost} (h : Settle g o n ls f) : (∀ p, isLost ls p = true → Lst g o p) → ∀ p, isLost f p = true → Lst g o p := by
  induction h with
  | done _ => exact id
  | @step n ls f _ _ ih =>
    intro hl
    refine ih fun p hp => ?_
    by_cases h1 : isLost ls p = true
    · exact hl p h1
    · have h1 : isLost ls p = false := by simpa using h1
      unfold isLost at hp h1
      rw [look_app] at hp
      have h2 : ls.lookup p = none := by
        cases e : ls.lookup p with
        | none => rfl
        | some v => rw [e] at h1; cases h1
      rw [h2] at hp
      obtain ⟨v, hv⟩ : ∃ v, (roundOf g ls (n + 1) o).lookup p = some v := by
        cases e : (roundOf g ls (n + 1) o).lookup p with
        | none => rw [e] at hp; cases hp
        | some v => exact ⟨v, rfl⟩
      have hm := look_mem hv
      unfold roundOf at hm
      obtain ⟨q, hqo, hq⟩ := List.mem_filterMap.mp hm
      split at hq
      · cases hq
      · cases hk : g.losingIn ls q with
        | none => rw [hk] at hq; cases hq
        | some k =>
          rw [hk] at hq
          cases hq
          have hall := List.find?_some (p := fun given => (g.behind p given).all (lostB ls)) hk
          exact .mk hqo (List.mem_of_find?_eq_some hk) fun x hx => hl x (List.all_eq_true.mp hall _ hx)
theorem lst_lost {g : Gm} {o : List Pair} {f : Lost} (hs : Settle g o 0 [] f) {p : Pair} (h : Lst g o p) : isLost f p = true := by
  induction h with
  | @mk p k hp hk _ ih =>
    cases e : isLost f p with
    | true => rfl
    | false =>
      have := List.find?_eq_none.mp (settle_end hs hp e) k hk
      exfalso
      refine this (List.all_eq_true.mpr fun x hx => ?_)
      cases x with
      | none => rfl
      | some x => exact ih x hx
/-- where the less asked can be lost, the more asked can -/
theorem lst_mono {g g' : Gm} (hg : g.Ok) (hg' : g'.Ok) (hl : g'.l = g.l) {o o' : List Pair} (hb : Bfs g.succ [(0, 0)] 0 o) (hb' : Bfs g'.succ [(0, 0)] 0 o') {p' : Pair} (h : Lst g' o' p') : ∀ p, p ∈ o → g.In p → g'.In p' → Sim g.l.beats.length g'.lim p'.1 g.lim p.1 → Sim g.l.beats.length g.rows p.2 g'.rows p'.2 → Lst g o p := by
  induction h with
  | @mk p' k hp' hk _ ih =>
    intro p hp hin hin' s1 s2
    have hins : g'.ins = g.ins := by unfold Gm.ins; rw [hl]
    have houts : g'.outs = g.outs := by unfold Gm.outs; rw [hl]
    have hat : ∀ a b, g'.at_ a b = g.at_ a b := fun a b => by unfold Gm.at_; rw [houts]
    obtain ⟨k1, a', ha'⟩ := insAt_mem hk
    rw [hins] at k1
    have op : 0 < g.outs := hg.l.o1
    have ha2 : (rowAt g'.lim p'.1).getD (g.at_ k 0) none = some a' := by rw [← hat]; exact ha'
    cases ha : g.asked p k with
    | none =>
      have := s1.dead (Gm.at_lt k1 op) ha
      rw [this] at ha2
      cases ha2
    | some a =>
      have hk2 : k ∈ g.insAt p := List.mem_filter.mpr ⟨List.mem_range.mpr k1, by rw [ha]; rfl⟩
      have s1' := s1.step (Gm.at_lt k1 op) ha2 ha
      refine .mk hp hk2 fun x hx => ?_
      have hx2 := hx
      unfold Gm.behind at hx
      obtain ⟨told, ht, e⟩ := List.mem_map.mp hx
      have ht := List.mem_range.mp ht
      cases hst : g.state p k told with
      | none => rw [hst] at e; cases e
      | some t =>
        rw [hst, ha] at e
        have e : (a, t) = x := Option.some.inj e
        subst e
        have hlt := Gm.at_lt k1 ht
        cases hst' : (rowAt g'.rows p'.2).getD (g.at_ k told) none with
        | none =>
          have := s2.dead hlt hst'
          have hst : (rowAt g.rows p.2).getD (g.at_ k told) none = some t := hst
          rw [this] at hst
          cases hst
        | some t' =>
          have s2' := s2.step hlt hst hst'
          have hx' : some (a', t') ∈ g'.behind p' k := by
            unfold Gm.behind
            refine List.mem_map.mpr ⟨told, List.mem_range.mpr (by rw [houts]; exact ht), ?_⟩
            have : g'.state p' k told = some t' := by unfold Gm.state; rw [hat]; exact hst'
            rw [this, ha']
            rfl
          exact ih (a', t') hx' (a, t) (hb.mem p hp _ (behind_succ k1 ha hx2)) (hin.step hg k1 ha hx2) (hin'.step hg' (by rw [hins]; exact k1) ha' hx') s1' s2'
/-- what is lost with less asked is lost with more asked -/
theorem lost_mono {l : Lt} {range range' ss ss' : List Sen} {g g' : Gm} {ls ls' : Lost} (h : Plays l range ss g ls) (h' : Plays l range' ss' g' ls') (s1 : Sim l.beats.length g'.lim 0 g.lim 0) (s2 : Sim l.beats.length g.rows 0 g'.rows 0) (hl : isLost ls' (0, 0) = true) : isLost ls (0, 0) = true := by
  obtain ⟨o, hb, hs⟩ := h.lost
  obtain ⟨o', hb', hs'⟩ := h'.lost
  refine lst_lost hs (lst_mono h.ok h'.ok (h'.hl.trans h.hl.symm) hb hb' (settle_sound hs' (fun p hp => by cases hp) _ hl) (0, 0) (hb.pre.1.subset List.mem_cons_self) (.begin_ h.ok) (.begin_ h'.ok) ?_ ?_)
  · rw [h.hl]; exact s1
  · rw [h.hl]; exact s2
/-- with a clause fewer what could be kept still can -/
theorem kept_fewer {l : Lt} {range ss ts : List Sen} {g g' : Gm} {ls ls' : Lost} (h : Plays l range (ss ++ ts) g ls) (h' : Plays l range ss g' ls') (hk : isLost ls (0, 0) = false) : isLost ls' (0, 0) = false := by
  cases e : isLost ls' (0, 0) with
  | false => rfl
  | true =>
    have e1 : g'.lim = g.lim := h'.lim.det h.lim
    have := lost_mono h h' (by rw [e1]; exact Sim.refl) (sim_more h.rows h'.rows) e
    rw [hk] at this
    cases this
/-- with a range more, too -/
theorem kept_barred {l : Lt} {range more ss : List Sen} {g g' : Gm} {ls ls' : Lost} (h : Plays l range ss g ls) (h' : Plays l (range ++ more) ss g' ls') (hk : isLost ls (0, 0) = false) : isLost ls' (0, 0) = false := by
  cases e : isLost ls' (0, 0) with
  | false => rfl
  | true =>
    have e1 : g'.rows = g.rows := h'.rows.det h.rows
    have := lost_mono h h' (sim_more h'.lim h.lim) (by rw [e1]; exact Sim.refl) e
    rw [hk] at this
    cases this
end MR
/-! M11: what a standard says beyond itself with a clause fewer is what that clause says anew. -/
namespace MR
open PySem
/-- a kept beat's tables -/
theorem kept_rows {g : Gm} {ls : Lost} {p : Pair} {a : Nat} {x : Pair} (h : (a, x) ∈ g.keptBeats ls p) : (rowAt g.rows p.2).getD a none = some x.2 := by
  obtain ⟨given, told, h1, h2, rfl, h3, _⟩ := kept_mem h
  unfold Gm.behind at h3
  rw [List.getElem?_map, List.getElem?_range h2] at h3
  have h3 : (g.state p given told).map (fun s => ((g.asked p given).getD 0, s)) = some x := Option.some.inj h3
  cases hs : g.state p given told with
  | none => rw [hs] at h3; cases h3
  | some t =>
    rw [hs] at h3
    cases h3
    exact hs
/-- the standing of the one lets live what the game's and the other let live -/
def Res (n : Nat) (R1 G R2 : Rows) (b s : Nat) : Prop := ∀ w, InW n w → alive (rowAt R1) s w = (alive (rowAt G) b w && alive (rowAt R2) 0 w)
theorem Res.dead {n : Nat} {R1 G R2 : Rows} {b s a t : Nat} (h : Res n R1 G R2 b s) (ha : a < n) (hg : (rowAt G b).getD a none = some t) : (rowAt R1 s).getD a none = none ↔ (rowAt R2 0).getD a none = none := by
  have h1 := h [a] (fun b hb => by rw [List.mem_singleton.mp hb]; exact ha)
  rw [alive_cons, alive_cons, alive_cons, hg] at h1
  cases e1 : (rowAt R1 s).getD a none with
  | none =>
    rw [e1] at h1
    cases e2 : (rowAt R2 0).getD a none with
    | none => exact ⟨fun _ => rfl, fun _ => rfl⟩
    | some y => rw [e2] at h1; cases h1
  | some x =>
    rw [e1] at h1
    cases e2 : (rowAt R2 0).getD a none with
    | none => rw [e2] at h1; cases h1
    | some y => exact ⟨fun z => (nomatch z), fun z => (nomatch z)⟩
theorem Res.step {n : Nat} {R1 G R2 : Rows} {b s a t u : Nat} (h : Res n R1 G R2 b s) (ha : a < n) (hg : (rowAt G b).getD a none = some t) (h1 : (rowAt R1 s).getD a none = some u) (h2 : (rowAt R2 0).getD a none = some 0) : Res n R1 G R2 t u := fun w hw => by
  have := h (a :: w) (fun b hb => by
    rcases List.mem_cons.mp hb with rfl | hb
    · exact ha
    · exact hw b hb)
  rw [alive_cons, alive_cons, alive_cons, hg, h1, h2] at this
  exact this
def flat (ord : Ways) : Ways := ord.map fun q => ((q.1.1, 0), q.2)
/-- what the search keeps -/
structure ResOk (g : Gm) (R1 R2 : Rows) (ord : Ways) : Prop where
  res : ∀ q ∈ ord, Res g.l.beats.length R1 g.rows R2 q.1.1.2 q.1.2
  lt : ∀ q ∈ ord, g.In q.1.1 ∧ q.1.2 < R1.length
section
variable {g : Gm} {ls : Lost} {R1 R2 : Rows}
theorem flat_mem {ord : Ways} {x : Pair} : (x, 0) ∈ (flat ord).map (·.1) ↔ ∃ q ∈ ord, q.1.1 = x := by
  unfold flat
  rw [List.map_map]
  constructor
  · intro h
    obtain ⟨q, hq, e⟩ := List.mem_map.mp h
    have e : (q.1.1, 0) = (x, 0) := e
    exact ⟨q, hq, congrArg Prod.fst e⟩
  · rintro ⟨q, hq, rfl⟩
    exact List.mem_map.mpr ⟨q, hq, rfl⟩
theorem flat_put (dif : ∀ s t, s < R1.length → t < R1.length → (∀ w, InW g.l.beats.length w → alive (rowAt R1) s w = alive (rowAt R1) t w) → s = t) {ord : Ways} (h : ResOk g R1 R2 ord) {x : Pair} {t : Nat} {w : List Nat} (hx : g.In x) (ht : t < R1.length) (hr : Res g.l.beats.length R1 g.rows R2 x.2 t) : flat (lbPut ord (x, t) w) = lbPut (flat ord) (x, 0) w ∧ ResOk g R1 R2 (lbPut ord (x, t) w) := by
  by_cases hm : (x, t) ∈ ord.map (·.1)
  · have h2 : (x, 0) ∈ (flat ord).map (·.1) := flat_mem.mpr (by
      obtain ⟨q, hq, e⟩ := List.mem_map.mp hm
      exact ⟨q, hq, congrArg Prod.fst e⟩)
    unfold lbPut
    rw [if_pos hm, if_pos h2]
    exact ⟨rfl, h⟩
  · have h2 : (x, 0) ∉ (flat ord).map (·.1) := fun z => by
      obtain ⟨q, hq, e⟩ := flat_mem.mp z
      obtain ⟨⟨y, s⟩, v⟩ := q
      have e : y = x := e
      subst e
      have hs := (h.lt _ hq).2
      have hr2 := h.res _ hq
      have : s = t := dif s t hs ht fun w hw => (hr2 w hw).trans (hr w hw).symm
      subst this
      exact hm (List.mem_map.mpr ⟨_, hq, rfl⟩)
    unfold lbPut
    rw [if_neg hm, if_neg h2]
    refine ⟨by unfold flat; rw [List.map_append]; rfl, ⟨fun q hq => ?_, fun q hq => ?_⟩⟩
    · rcases List.mem_append.mp hq with hq | hq
      · exact h.res q hq
      · rw [List.mem_singleton.mp hq]; exact hr
    · rcases List.mem_append.mp hq with hq | hq
      · exact h.lt q hq
      · rw [List.mem_singleton.mp hq]; exact ⟨hx, ht⟩
theorem lbGo_flat (hg : g.Ok) (hR1 : RowsOk g.l.beats.length R1) (one : R2.length = 1) (hR2 : RowsOk g.l.beats.length R2) (dif : ∀ s t, s < R1.length → t < R1.length → (∀ w, InW g.l.beats.length w → alive (rowAt R1) s w = alive (rowAt R1) t w) → s = t) {p : Pair} (hp : g.In p) {s : Nat} (hs : s < R1.length) (hr : Res g.l.beats.length R1 g.rows R2 p.2 s) {w : List Nat} : ∀ (kb : List (Nat × Pair)), (∀ q ∈ kb, q ∈ g.keptBeats ls p) → ∀ ord, ResOk g R1 R2 ord →
    (∀ v, lbGo R1 s w kb ord = .inl v → lbGo R2 0 w kb (flat ord) = .inl v) ∧ (∀ ord', lbGo R1 s w kb ord = .inr ord' → lbGo R2 0 w kb (flat ord) = .inr (flat ord') ∧ ResOk g R1 R2 ord')
  | [], _, ord, h => ⟨fun v e => (by cases e), fun ord' e => (by cases e; exact ⟨rfl, h⟩)⟩
  | (a, x) :: kb, hk, ord, h => by
    have hm := hk _ List.mem_cons_self
    obtain ⟨k1, k2⟩ := kept_ok hg hp hm
    have hrow := kept_rows hm
    have hd := hr.dead k2 hrow
    have u1 : ∀ (R : Rows) (s : Nat) (o : Ways), lbGo R s w ((a, x) :: kb) o = match (rowAt R s).getD a none with
      | none => .inl (w ++ [a])
      | some t => lbGo R s w kb (lbPut o (x, t) (w ++ [a])) := fun _ _ _ => rfl
    rw [u1, u1]
    cases e1 : (rowAt R1 s).getD a none with
    | none =>
      rw [hd.mp e1]
      exact ⟨fun v e => (by cases e; rfl), fun ord' e => (by cases e)⟩
    | some t =>
      cases e2 : (rowAt R2 0).getD a none with
      | none => rw [hd.mpr e2] at e1; cases e1
      | some y =>
        have hy := (hR2.row hR2.pos).2.2 y (getD_some_mem e2)
        have hy : y = 0 := by omega
        subst hy
        have ht := row_to hR1 hs e1
        obtain ⟨f1, f2⟩ := flat_put dif h (w := w ++ [a]) k1 ht (hr.step k2 hrow e1 e2)
        have ih := lbGo_flat (w := w) hg hR1 one hR2 dif hp hs hr kb (fun q hq => hk q (List.mem_cons_of_mem _ hq)) _ f2
        rw [f1] at ih
        exact ih
theorem lbr_flat (hg : g.Ok) (hR1 : RowsOk g.l.beats.length R1) (one : R2.length = 1) (hR2 : RowsOk g.l.beats.length R2) (dif : ∀ s t, s < R1.length → t < R1.length → (∀ w, InW g.l.beats.length w → alive (rowAt R1) s w = alive (rowAt R1) t w) → s = t) {m : Nat} {ord : Ways} {n : Nat} {r : Option (List Nat)} (h : LBr g ls R1 m ord n r) : ResOk g R1 R2 ord → LBr g ls R2 m (flat ord) n r := by
  have fl : ∀ {ord : Ways} {n : Nat} {p : Pair} {s : Nat} {w : List Nat}, ord[n]? = some ((p, s), w) → (flat ord)[n]? = some ((p, 0), w) := fun {ord n p s w} e => by unfold flat; rw [List.getElem?_map, e]; rfl
  induction h with
  | done h => exact fun _ => .done (by unfold flat; rw [List.length_map]; exact h)
  | @brk ord n p s w v e hgo =>
    intro hres
    have hm := List.mem_of_getElem? e
    exact .brk (fl e) ((lbGo_flat hg hR1 one hR2 dif (hres.lt _ hm).1 (hres.lt _ hm).2 (hres.res _ hm) _ (fun _ h => h) ord hres).1 v hgo)
  | @step m ord n p s w ord' r e hgo _ ih =>
    intro hres
    have hm := List.mem_of_getElem? e
    obtain ⟨q1, q2⟩ := (lbGo_flat hg hR1 one hR2 dif (hres.lt _ hm).1 (hres.lt _ hm).2 (hres.res _ hm) _ (fun _ h => h) ord hres).2 ord' hgo
    exact .step (fl e) q1 (ih q2)
/-- nothing that is kept breaks what is asked with more -/
theorem lbGo_none (hg : g.Ok) {R : Rows} (hR : RowsOk g.l.beats.length R) {p : Pair} (hp : g.In p) {s : Nat} (hs : s < R.length) (hsim : Sim g.l.beats.length g.rows p.2 R s) {w : List Nat} : ∀ (kb : List (Nat × Pair)), (∀ q ∈ kb, q ∈ g.keptBeats ls p) → ∀ ord, (∀ q ∈ ord, (g.In q.1.1 ∧ q.1.2 < R.length) ∧ Sim g.l.beats.length g.rows q.1.1.2 R q.1.2) →
    ∃ ord', lbGo R s w kb ord = .inr ord' ∧ ∀ q ∈ ord', (g.In q.1.1 ∧ q.1.2 < R.length) ∧ Sim g.l.beats.length g.rows q.1.1.2 R q.1.2
  | [], _, ord, h => ⟨ord, rfl, h⟩
  | (a, x) :: kb, hk, ord, h => by
    have hm := hk _ List.mem_cons_self
    obtain ⟨k1, k2⟩ := kept_ok hg hp hm
    have hrow := kept_rows hm
    have u1 : lbGo R s w ((a, x) :: kb) ord = match (rowAt R s).getD a none with
      | none => .inl (w ++ [a])
      | some t => lbGo R s w kb (lbPut ord (x, t) (w ++ [a])) := rfl
    rw [u1]
    cases e1 : (rowAt R s).getD a none with
    | none =>
      have := hsim.dead k2 e1
      rw [hrow] at this
      cases this
    | some t =>
      refine lbGo_none hg hR hp hs hsim kb (fun q hq => hk q (List.mem_cons_of_mem _ hq)) _ fun q hq => ?_
      unfold lbPut at hq
      split at hq
      · exact h q hq
      · rcases List.mem_append.mp hq with hq | hq
        · exact h q hq
        · rw [List.mem_singleton.mp hq]
          exact ⟨⟨k1, row_to hR hs e1⟩, hsim.step k2 hrow e1⟩
theorem lbr_none (hg : g.Ok) {R : Rows} (hR : RowsOk g.l.beats.length R) {m : Nat} {ord : Ways} {n : Nat} {r : Option (List Nat)} (h : LBr g ls R m ord n r) : (∀ q ∈ ord, (g.In q.1.1 ∧ q.1.2 < R.length) ∧ Sim g.l.beats.length g.rows q.1.1.2 R q.1.2) → r = none := by
  induction h with
  | done _ => exact fun _ => rfl
  | @brk ord n p s w v e hgo =>
    intro hq
    obtain ⟨⟨h1, h2⟩, h3⟩ := hq _ (List.mem_of_getElem? e)
    obtain ⟨o', e', _⟩ := lbGo_none hg hR h1 h2 h3 _ (fun _ h => h) ord hq
    rw [e'] at hgo
    cases hgo
  | @step m ord n p s w ord' r e hgo _ ih =>
    intro hq
    obtain ⟨⟨h1, h2⟩, h3⟩ := hq _ (List.mem_of_getElem? e)
    obtain ⟨o', e', h4⟩ := lbGo_none hg hR h1 h2 h3 _ (fun _ h => h) ord hq
    rw [e'] at hgo
    cases hgo
    exact ih h4
end
/-- beyond with a clause more is news of that clause -/
theorem beyond_news {l : Lt} {range ss : List Sen} {g : Gm} {ls : Lost} (h : Plays l range ss g ls) {p : Say} (hn : (Sen.never p).Ok l) {R1 R2 : Rows} (h1 : Together l (ss ++ [.never p]) R1) (h2 : Watch l (.never p) R2) : ∃ out, LB g ls R1 out ∧ LB g ls R2 out := by
  have hl := h.hl
  have hR1 : RowsOk g.l.beats.length R1 := by rw [hl]; exact h1.ok
  have hR2 : RowsOk g.l.beats.length R2 := by rw [hl]; exact h2.ok
  obtain ⟨out, ho⟩ := lb_ex (ls := ls) h.ok hR1
  refine ⟨out, ho, ?_⟩
  cases ho with
  | lost e => exact .lost e
  | kept e hr =>
    refine .kept e (lbr_flat h.ok hR1 (watch_never hn h2).1 hR2 (fun s t hs ht hw => h1.dif hs ht (by rw [← hl]; exact hw)) hr ⟨fun q hq => ?_, fun q hq => ?_⟩)
    · rw [List.mem_singleton.mp hq]
      intro w hw
      have hw : InW l.beats.length w := by rw [← hl]; exact hw
      rw [h1.alive hw, h.rows.alive hw, h2.alive w, List.all_append]
      simp
    · rw [List.mem_singleton.mp hq]
      exact ⟨.begin_ h.ok, hR1.pos⟩
theorem beyond_none {l : Lt} {range ss ts : List Sen} {g : Gm} {ls : Lost} (h : Plays l range (ss ++ ts) g ls) {R : Rows} (h1 : Together l ss R) : LB g ls R none := by
  have hl := h.hl
  have hR : RowsOk g.l.beats.length R := by rw [hl]; exact h1.ok
  obtain ⟨out, ho⟩ := lb_ex (ls := ls) h.ok hR
  cases ho with
  | lost e => exact .lost e
  | kept e hr =>
    have := lbr_none h.ok hR hr fun q hq => by
      rw [List.mem_singleton.mp hq]
      exact ⟨⟨.begin_ h.ok, hR.pos⟩, by rw [hl]; exact sim_more h.rows h1⟩
    subst this
    exact .kept e hr
end MR
/-! M12: the standards of the law. -/
namespace MR
open PySem
theorem sizes_pos : ∀ ss : List Sen, 1 ≤ sizes ss
  | [] => Nat.le_refl _
  | s :: ss => Nat.mul_le_mul s.size_pos (sizes_pos ss)
theorem sizes_app : ∀ a b : List Sen, sizes (a ++ b) = sizes a * sizes b
  | [], b => by show sizes b = 1 * sizes b; omega
  | s :: a, b => by show s.size * sizes (a ++ b) = s.size * sizes a * sizes b; rw [sizes_app a b, Nat.mul_assoc]
theorem sizes_rev : ∀ a : List Sen, sizes a.reverse = sizes a
  | [] => rfl
  | s :: a => by
    rw [List.reverse_cons, sizes_snoc, sizes_rev a]
    exact Nat.mul_comm _ _
theorem sizes_sub {a b : List Sen} (h : a.Sublist b) : sizes a ≤ sizes b := by
  induction h with
  | slnil => exact Nat.le_refl _
  | @cons a b s _ ih =>
    have : 1 * sizes a ≤ s.size * sizes b := Nat.mul_le_mul s.size_pos ih
    show sizes a ≤ s.size * sizes b
    omega
  | @cons_cons a b s _ ih => exact Nat.mul_le_mul_left _ ih
structure SizeOk (S : Std) : Prop where
  l : S.l.Ok
  rn : S.range.length ≤ 3
  r : ∀ s ∈ S.range, s.Ok S.l
  rp : ∀ s ∈ S.range, s.plain = true
  rs : sizes S.range ≤ 4
  n1 : 1 ≤ S.cl.length
  n8 : S.cl.length ≤ 8
  ok : ∀ c ∈ S.cl, c.Ok S.l
  rise : riseI (S.cl.map fun c => (c.num : Int))
  size : sizes (S.cl.map Cla.sen) ≤ 60
theorem SizeOk.sens {S : Std} (h : SizeOk S) : ∀ s ∈ S.cl.map Cla.sen, s.Ok S.l := fun s hs => by
  obtain ⟨c, hc, rfl⟩ := List.mem_map.mp hs
  exact (h.ok c hc).s
theorem SizeOk.std {S : Std} (h : SizeOk S) : S.Ok := by
  obtain ⟨W, hW⟩ := watches_ex h.r
  obtain ⟨V, hV⟩ := watches_ex h.sens
  have h1 := prod_sizes h.r hW
  have h2 := prod_sizes h.sens hV
  have h3 := h.rs
  have h4 := h.size
  exact ⟨h.l, ⟨h.rn, h.r, h.rp, W, hW, by omega⟩, ⟨h.n1, h.n8, h.ok, h.rise, V, hV, by omega⟩⟩
/-- the sentences that bind -/
theorem sens_sub (cl : List Cla) (cs : List Str) : (sensOf cl cs).Sublist (cl.map Cla.sen) := (List.filter_sublist).map _
theorem SizeOk.plays {S : Std} (h : SizeOk S) (cs : List Str) : ∃ g ls, Plays S.l S.range (sensOf S.cl cs) g ls := by
  have hsub := sens_sub S.cl cs
  have hl := hsub.length_le
  rw [List.length_map] at hl
  have h8 := h.n8
  have hz := sizes_sub hsub
  have h60 := h.size
  exact plays_ex h.l h.r (fun s hs => h.sens s (hsub.subset hs)) (by have := h.rn; omega) (by omega) h.rs (by omega)
theorem DrawnStd.size {S : Std} (h : DrawnStd S) : SizeOk S :=
  ⟨h.l, by have := h.r1; omega, fun s hs => (h.r s hs).1, fun s hs => (h.r s hs).2, h.rs, h.c.n1, by have := h.c.n3; omega, h.c.ok, h.c.rise, h.c.size⟩
theorem never_ok {l : Lt} {p : Say} (hp : p.Ok l) (hd : p.depth ≤ 4) : (Sen.never p).Ok l := ⟨fun q hq => by
  rw [List.mem_singleton.mp hq]
  exact ⟨hp, hd⟩, Nat.le_refl _, by show (1 : Nat) ≤ 6; decide⟩
theorem DrawnStd.more {S : Std} (h : DrawnStd S) {more : List Cla} (hn : more.length ≤ 2) (ho : ∀ c ∈ more, c.Ok S.l) (hr : riseI ((S.cl ++ more).map fun c => (c.num : Int))) (hz : sizes (more.map Cla.sen) = 1) : SizeOk (S.more more) := by
  have h3 := h.c.n3
  have h1 := h.c.n1
  refine ⟨h.l, by have := h.r1; show S.range.length ≤ 3; omega, fun s hs => (h.r s hs).1, fun s hs => (h.r s hs).2, h.rs, ?_, ?_, fun c hc => ?_, hr, ?_⟩
  · show 1 ≤ (S.cl ++ more).length
    rw [List.length_append]
    omega
  · show (S.cl ++ more).length ≤ 8
    rw [List.length_append]
    omega
  · rcases List.mem_append.mp hc with hc | hc
    · exact h.c.ok c hc
    · exact ho c hc
  · show sizes ((S.cl ++ more).map Cla.sen) ≤ 60
    rw [List.map_append, sizes_app, hz]
    have := h.c.size
    omega
theorem DrawnStd.rise1 {S : Std} (h : DrawnStd S) (c : Cla) (hc : c.num = 95) : riseI ((S.cl ++ [c]).map fun c => (c.num : Int)) := by
  rw [List.map_append]
  refine rise_snoc h.c.rise fun y hy => ?_
  obtain ⟨d, hd, rfl⟩ := List.mem_map.mp hy
  have := h.c.top d hd
  show ((d.num : Nat) : Int) < ((c.num : Nat) : Int)
  omega
section
variable {S : Std} {p q : Say}
theorem DrawnStd.single (h : DrawnStd S) (hp : p.Ok S.l) (dp : p.depth = 1) (hq : q.Ok S.l) (dq : q.depth = 1) : SizeOk (S.single p q) :=
  h.more (show 1 ≤ 2 by decide) (fun c hc => by
    rw [List.mem_singleton.mp hc]
    exact ⟨by show 1 ≤ 95; decide, by show 95 ≤ 99; decide, .inl rfl, never_ok ⟨hp, hq⟩ (by show max p.depth q.depth + 1 ≤ 4; omega)⟩) (h.rise1 _ rfl) rfl
theorem DrawnStd.twofold (h : DrawnStd S) (hp : p.Ok S.l) (dp : p.depth = 1) (hq : q.Ok S.l) (dq : q.depth = 1) : SizeOk (S.twofold p q) :=
  h.more (show 2 ≤ 2 by decide) (fun c hc => by
    rcases List.mem_cons.mp hc with rfl | hc
    · exact ⟨by show 1 ≤ 95; decide, by show 95 ≤ 99; decide, .inl rfl, never_ok hp (by omega)⟩
    · rw [List.mem_singleton.mp hc]
      exact ⟨by show 1 ≤ 96; decide, by show 96 ≤ 99; decide, .inl rfl, never_ok hq (by omega)⟩) (by
    have e : S.cl ++ [Cla.mk 95 "" (.never p), Cla.mk 96 "" (.never q)] = (S.cl ++ [Cla.mk 95 "" (.never p)]) ++ [Cla.mk 96 "" (.never q)] := by rw [List.append_assoc]; rfl
    rw [e, List.map_append]
    refine rise_snoc (h.rise1 _ rfl) fun y hy => ?_
    obtain ⟨d, hd, rfl⟩ := List.mem_map.mp hy
    show ((d.num : Nat) : Int) < ((96 : Nat) : Int)
    rcases List.mem_append.mp hd with hd | hd
    · have := h.c.top d hd
      omega
    · rw [List.mem_singleton.mp hd]
      show ((95 : Nat) : Int) < ((96 : Nat) : Int)
      omega) rfl
theorem renum_sens (cl : List Cla) : (cl.mapIdx renumC).map Cla.sen = cl.map Cla.sen := by
  refine List.ext_getElem? fun i => ?_
  rw [List.getElem?_map, List.getElem?_mapIdx, List.getElem?_map]
  cases cl[i]? <;> rfl
theorem DrawnStd.renum (h : DrawnStd S) : SizeOk S.renum := by
  have h3 := h.c.n3
  have h1 := h.c.n1
  have hl : (S.cl.reverse.mapIdx renumC).length = S.cl.length := by rw [List.length_mapIdx, List.length_reverse]
  refine ⟨h.l, by have := h.r1; show S.range.length ≤ 3; omega, fun s hs => (h.r s hs).1, fun s hs => (h.r s hs).2, h.rs, ?_, ?_, fun c hc => ?_, ?_, ?_⟩
  · show 1 ≤ (S.cl.reverse.mapIdx renumC).length
    omega
  · show (S.cl.reverse.mapIdx renumC).length ≤ 8
    omega
  · obtain ⟨i, hi⟩ := List.getElem?_of_mem hc
    have hi : (S.cl.reverse.mapIdx renumC)[i]? = some c := hi
    have hil := (List.getElem?_eq_some_iff.mp hi).1
    rw [List.getElem?_mapIdx] at hi
    cases e : S.cl.reverse[i]? with
    | none => rw [e] at hi; cases hi
    | some d =>
      rw [e] at hi
      have hi := Option.some.inj hi
      subst hi
      have hd := h.c.ok d (by have := List.mem_of_getElem? e; rwa [List.mem_reverse] at this)
      exact ⟨by show 1 ≤ 3 * i + 2; omega, by show 3 * i + 2 ≤ 99; omega, hd.o, hd.s⟩
  · intro k a b h1 h2
    have key : ∀ (k : Nat) (a : Int), ((S.cl.reverse.mapIdx renumC).map fun c => (c.num : Int))[k]? = some a → a = ((3 * k + 2 : Nat) : Int) := fun k a h => by
      rw [List.getElem?_map, List.getElem?_mapIdx] at h
      cases e : S.cl.reverse[k]? with
      | none => rw [e] at h; cases h
      | some d =>
        rw [e] at h
        exact (Option.some.inj h).symm
    rw [key k a h1, key (k + 1) b h2]
    omega
  · show sizes ((S.cl.reverse.mapIdx renumC).map Cla.sen) ≤ 60
    rw [renum_sens, List.map_reverse, sizes_rev]
    exact h.c.size
theorem binds_renum (cs : List Str) (i : Nat) (c : Cla) : (renumC i c).binds cs = c.binds cs := rfl
theorem sens_mapIdx (cs : List Str) : ∀ (cl : List Cla) (f : Nat → Cla → Cla), (∀ i c, (f i c).binds cs = c.binds cs ∧ (f i c).sen = c.sen) → sensOf (cl.mapIdx f) cs = sensOf cl cs
  | [], _, _ => rfl
  | c :: cl, f, h => by
    have ih := sens_mapIdx cs cl (fun i => f (i + 1)) fun i c => h (i + 1) c
    unfold sensOf at ih ⊢
    rw [List.mapIdx_cons, List.filter_cons, List.filter_cons, (h 0 c).1]
    cases c.binds cs with
    | true =>
      show ((f 0 c).sen :: _) = (c.sen :: _)
      rw [(h 0 c).2]
      exact congrArg _ ih
    | false => exact ih
theorem renum_binds (S : Std) (cs : List Str) : sensOf S.renum.cl cs = (sensOf S.cl cs).reverse := by
  show sensOf (S.cl.reverse.mapIdx renumC) cs = _
  rw [sens_mapIdx cs _ renumC fun i c => ⟨rfl, rfl⟩]
  unfold sensOf
  rw [List.filter_reverse, List.map_reverse]
theorem sens_app (a b : List Cla) (cs : List Str) : sensOf (a ++ b) cs = sensOf a cs ++ sensOf b cs := by
  unfold sensOf
  rw [List.filter_append, List.map_append]
theorem binds_blank (cs : List Str) (n : Nat) (s : Sen) : (Cla.mk n "" s).binds cs = true := by unfold Cla.binds; simp
theorem single_sens (S : Std) (p q : Say) (cs : List Str) : sensOf (S.single p q).cl cs = sensOf S.cl cs ++ [.never (.or p q)] := by
  show sensOf (S.cl ++ [_]) cs = _
  rw [sens_app]
  congr 1
theorem twofold_sens (S : Std) (p q : Say) (cs : List Str) : sensOf (S.twofold p q).cl cs = sensOf S.cl cs ++ [.never p, .never q] := by
  show sensOf (S.cl ++ [_, _]) cs = _
  rw [sens_app]
  congr 1
theorem plain_sens (S : Std) (cs : List Str) : sensOf (S.plainOf cs).cl [] = sensOf S.cl cs := by
  show sensOf ((S.cl.filter (Cla.binds cs)).map fun c => Cla.mk c.num "" c.sen) [] = _
  unfold sensOf
  rw [List.filter_eq_self.mpr fun c hc => by
    obtain ⟨d, _, rfl⟩ := List.mem_map.mp hc
    exact binds_blank [] _ _]
  rw [List.map_map]
  rfl
theorem rise_pair {l : List Int} (h : riseI l) : l.Pairwise (· < ·) := by
  induction l with
  | nil => exact .nil
  | cons x l ih =>
    have hl : riseI l := fun k a b h1 h2 => h (k + 1) a b h1 h2
    have ihl := ih hl
    refine .cons (fun y hy => ?_) ihl
    cases l with
    | nil => cases hy
    | cons z l =>
      have hxz : x < z := h 0 x z rfl rfl
      rcases List.mem_cons.mp hy with rfl | hy
      · exact hxz
      · cases ihl with
        | cons h1 _ => exact Int.lt_trans hxz (h1 y hy)
theorem pair_rise {l : List Int} (h : l.Pairwise (· < ·)) : riseI l := fun k a b h1 h2 => by
  obtain ⟨k1, e1⟩ := List.getElem?_eq_some_iff.mp h1
  obtain ⟨k2, e2⟩ := List.getElem?_eq_some_iff.mp h2
  have := List.pairwise_iff_getElem.mp h k (k + 1) k1 k2 (Nat.lt_succ_self k)
  rw [e1, e2] at this
  exact this
theorem DrawnStd.plainOf (h : DrawnStd S) (cs : List Str) (hne : (S.plainOf cs).cl ≠ []) : SizeOk (S.plainOf cs) := by
  have h3 := h.c.n3
  have hle : (S.plainOf cs).cl.length ≤ S.cl.length := by
    show ((S.cl.filter (Cla.binds cs)).map _).length ≤ _
    rw [List.length_map]
    exact List.length_filter_le _ _
  refine ⟨h.l, by have := h.r1; show S.range.length ≤ 3; omega, fun s hs => (h.r s hs).1, fun s hs => (h.r s hs).2, h.rs, List.length_pos_iff.mpr hne, by omega, fun c hc => ?_, ?_, ?_⟩
  · obtain ⟨d, hd, rfl⟩ := List.mem_map.mp hc
    have := h.c.ok d (List.mem_filter.mp hd).1
    exact ⟨this.n1, this.n99, .inl rfl, this.s⟩
  · show riseI (((S.cl.filter (Cla.binds cs)).map fun c => Cla.mk c.num "" c.sen).map fun c => (c.num : Int))
    rw [List.map_map]
    refine pair_rise ?_
    have := rise_pair h.c.rise
    exact this.sublist ((List.filter_sublist (p := Cla.binds cs) (l := S.cl)).map fun c => (c.num : Int))
  · show sizes (((S.cl.filter (Cla.binds cs)).map fun c => Cla.mk c.num "" c.sen).map Cla.sen) ≤ 60
    rw [List.map_map]
    have := sizes_sub ((List.filter_sublist (p := Cla.binds cs) (l := S.cl)).map Cla.sen)
    have h60 := h.c.size
    show sizes ((S.cl.filter (Cla.binds cs)).map Cla.sen) ≤ 60
    omega
def Std.barred (S : Std) : Std := ⟨S.l, S.range ++ [.never (.inn (S.l.ins.getD 0 ""))], S.cl⟩
theorem DrawnStd.barred (h : DrawnStd S) : SizeOk S.barred := by
  have h1 := h.r1
  have hi : S.l.ins.getD 0 "" ∈ S.l.ins := by
    have := h.l.i1
    rw [List.getD_eq_getElem?_getD, List.getElem?_eq_getElem (by omega)]
    exact List.getElem_mem _
  have hb := h.size
  refine ⟨h.l, by show (S.range ++ [_]).length ≤ 3; rw [List.length_append]; simp; omega, fun s hs => ?_, fun s hs => ?_, ?_, hb.n1, hb.n8, hb.ok, hb.rise, hb.size⟩
  · rcases List.mem_append.mp hs with hs | hs
    · exact (h.r s hs).1
    · rw [List.mem_singleton.mp hs]
      exact never_ok hi (by show (1 : Nat) ≤ 4; decide)
  · rcases List.mem_append.mp hs with hs | hs
    · exact (h.r s hs).2
    · rw [List.mem_singleton.mp hs]
      rfl
  · show sizes (S.range ++ [_]) ≤ 4
    rw [sizes_snoc]
    have := h.rs
    show sizes S.range * 1 ≤ 4
    omega
/-- the numbers differ -/
theorem num_inj (h : SizeOk S) {c d : Cla} (hc : c ∈ S.cl) (hd : d ∈ S.cl) (e : c.num = d.num) : c = d := by
  have hp := rise_pair h.rise
  obtain ⟨i, hi⟩ := List.getElem?_of_mem hc
  obtain ⟨j, hj⟩ := List.getElem?_of_mem hd
  obtain ⟨i1, i2⟩ := List.getElem?_eq_some_iff.mp hi
  obtain ⟨j1, j2⟩ := List.getElem?_eq_some_iff.mp hj
  have hnum : ∀ i (hi : i < S.cl.length), (S.cl.map fun c => (c.num : Int))[i]'(by rw [List.length_map]; exact hi) = ((S.cl[i]).num : Int) := fun i hi => List.getElem_map _
  rcases Nat.lt_trichotomy i j with hij | hij | hij
  · have := List.pairwise_iff_getElem.mp hp i j (by rw [List.length_map]; exact i1) (by rw [List.length_map]; exact j1) hij
    rw [hnum i i1, hnum j j1, i2, j2] at this
    omega
  · subst hij
    rw [hi] at hj
    exact Option.some.inj hj
  · have := List.pairwise_iff_getElem.mp hp j i (by rw [List.length_map]; exact j1) (by rw [List.length_map]; exact i1) hij
    rw [hnum i i1, hnum j j1, i2, j2] at this
    omega
/-- what the clause's news leaves out -/
theorem news_facts (h : DrawnStd S) (hp : p.Ok S.l) (dp : p.depth = 1) (hq : q.Ok S.l) (dq : q.depth = 1) (cs : List Str) : 95 ∈ numsOf (S.single p q).cl cs ∧ (S.single p q).cl.filter (fun c => decide (c.num = 95)) = [⟨95, "", .never (.or p q)⟩] ∧ ((S.single p q).cl.filter (otherB (S.single p q).cl cs 95)).map Cla.sen = sensOf S.cl cs := by
  have h1 := h.single hp dp hq dq
  have e : (S.single p q).cl = S.cl ++ [⟨95, "", .never (.or p q)⟩] := rfl
  have low : ∀ c ∈ S.cl, c.num ≠ 95 := fun c hc z => by have := h.c.top c hc; omega
  have hm : Cla.mk 95 "" (.never (.or p q)) ∈ (S.single p q).cl := by rw [e]; exact List.mem_append_right _ List.mem_cons_self
  refine ⟨?_, ?_, ?_⟩
  · exact List.mem_map.mpr ⟨_, List.mem_filter.mpr ⟨hm, binds_blank cs _ _⟩, rfl⟩
  · rw [e, List.filter_append]
    have : S.cl.filter (fun c => decide (c.num = 95)) = [] := List.filter_eq_nil_iff.mpr fun c hc => by simpa using low c hc
    rw [this]
    rfl
  · have hb : ∀ c ∈ (S.single p q).cl, decide (c.num ∈ numsOf (S.single p q).cl cs) = c.binds cs := fun c hc => by
      cases hbc : c.binds cs with
      | true => exact decide_eq_true (List.mem_map.mpr ⟨c, List.mem_filter.mpr ⟨hc, hbc⟩, rfl⟩)
      | false =>
        refine decide_eq_false fun z => ?_
        obtain ⟨d, hd, ed⟩ := List.mem_map.mp z
        obtain ⟨hd1, hd2⟩ := List.mem_filter.mp hd
        have := num_inj h1 hd1 hc ed
        subst this
        rw [hbc] at hd2
        cases hd2
    have hf : (S.single p q).cl.filter (otherB (S.single p q).cl cs 95) = (S.single p q).cl.filter (fun c => !decide (c.num = 95) && c.binds cs) := List.filter_congr fun c hc => by
      unfold otherB
      rw [hb c hc]
    rw [hf, e, List.filter_append]
    have e1 : S.cl.filter (fun c => !decide (c.num = 95) && c.binds cs) = S.cl.filter (Cla.binds cs) := List.filter_congr fun c hc => by
      rw [decide_eq_false (low c hc)]
      rfl
    rw [e1]
    have e2 : ([⟨95, "", .never (.or p q)⟩] : List Cla).filter (fun c => !decide (c.num = 95) && c.binds cs) = [] := rfl
    rw [e2, List.append_nil]
    rfl
end
end MR
/-! T37: the law's state; data that the law holds against one another. -/
namespace MR
open PySem PySem.Spec PyProof.Rows L2
section
variable {G : GC} {L : LC G} {ρ : Rho G} {tg e : Expr} {Po : Post G} {pos : Pos}
/-- target = e, the target's slots told behind -/
theorem s1_asgE {Pa : PV G → Rho G → Prop} (he : EvM L ρ e Pa) (k : ∀ p ρ1, Pa p ρ1 → ∃ is f, TgD L tg p is f ∧ Po.nx ⟨f ρ1.sl, ρ1.ow⟩) (hs : swapsWithSole [tg] e pos.line L.X.env = pure false := by rfl) (hw : swappedStores [tg] e L.X.env = pure none := by rfl)
    (h1 : (assignEach [tg] L.X.env).map (·.2) = [assign tg L.X.env] := by rfl) : S1D L ρ (.Assign [tg] e pos) Po := .mk fun A B0 B σ H D E S => by
  refine WSt.of (ps_asg (WE.pe _ _) (WG.pg _ _) hs hw h1) (he A B0 B σ H _ E fun p ρ1 w v B' H' x E' y => ?_)
  obtain ⟨is, f, hT, hk⟩ := k p ρ1 w
  exact hT A B0 B' ρ1 σ H' v _ E' y fun σ' _ E2 => S.nx _ hk B' σ' H' E2
end
section
variable {G : GC} {L : LC G} {ρ : Rho G} {pos : Pos} {e : Expr} {C : Addr}
theorem lay_blank {n : Nat} {x : Str} (h : x = "" ∨ wordB x = true) : Lay n (.str x) := by
  rcases h with rfl | h
  · exact lay_lit
  · exact lay_word h
theorem getD_word {l : List Str} (h : ∀ x ∈ l, wordB x = true) (k : Nat) : l.getD k "" = "" ∨ wordB (l.getD k "") = true := by
  rw [List.getD_eq_getElem?_getD]
  cases e : l[k]? with
  | none => exact .inl rfl
  | some x => exact .inr (h x (List.mem_of_getElem? e))
theorem lay_made {l : Lt} (hl : l.Ok) (m : Option (List (List (Nat × Nat)))) : Lay 3 (madeD l m) := by
  cases m with
  | none => exact lay_none
  | some f =>
    refine lay_tup fun d hd => ?_
    obtain ⟨r, _, rfl⟩ := List.mem_map.mp hd
    refine lay_tup fun d hd => ?_
    obtain ⟨c, _, rfl⟩ := List.mem_map.mp hd
    refine lay_tup fun d hd => ?_
    rcases List.mem_cons.mp hd with rfl | hd
    · exact lay_blank (getD_word hl.ow _)
    · rw [List.mem_singleton.mp hd]; exact lay_int
theorem lay_asks {l : Lt} (hl : l.Ok) (m : Option (List (Nat × List (Option Nat)))) : Lay 3 (asksD l m) := by
  cases m with
  | none => exact lay_none
  | some f =>
    refine lay_tup fun d hd => ?_
    obtain ⟨r, _, rfl⟩ := List.mem_map.mp hd
    refine lay_tup fun d hd => ?_
    rcases List.mem_cons.mp hd with rfl | hd
    · exact (lay_blank (n := 1) (getD_word hl.iw _))
    · rw [List.mem_singleton.mp hd]
      refine lay_tup fun d hd => ?_
      obtain ⟨x, _, rfl⟩ := List.mem_map.mp hd
      cases x with
      | none => exact lay_none
      | some k => exact lay_int
theorem lay_told {l : Lt} (hl : l.Ok) (b : Bool) (m : Option (List (List (Nat × Nat)))) (k : Option (List (Nat × List (Option Nat)))) : Lay 4 (toldD l b m k) := lay_lst fun d hd => by
  rcases List.mem_cons.mp hd with rfl | hd
  · exact lay_bool
  · rcases List.mem_cons.mp hd with rfl | hd
    · exact lay_made hl m
    · rw [List.mem_singleton.mp hd]; exact lay_asks hl k
theorem lay_run {l : Lt} (hl : l.Ok) (o : Option (List Nat)) : Lay 2 (runD l o) := by
  cases o with
  | none => exact lay_none
  | some w =>
    refine lay_tup fun d hd => ?_
    obtain ⟨a, _, rfl⟩ := List.mem_map.mp hd
    have hb : (l.beats.getD a ("", "")).1 = "" ∨ wordB (l.beats.getD a ("", "")).1 = true := by
      rw [List.getD_eq_getElem?_getD]
      cases e : l.beats[a]? with
      | none => exact .inl rfl
      | some b =>
        have hm := List.mem_of_getElem? e
        unfold Lt.beats at hm
        obtain ⟨i, hi, hm⟩ := List.mem_flatMap.mp hm
        obtain ⟨o, ho, rfl⟩ := List.mem_map.mp hm
        exact .inr (hl.iw i hi)
    have hb2 : (l.beats.getD a ("", "")).2 = "" ∨ wordB (l.beats.getD a ("", "")).2 = true := by
      rw [List.getD_eq_getElem?_getD]
      cases e : l.beats[a]? with
      | none => exact .inl rfl
      | some b =>
        have hm := List.mem_of_getElem? e
        unfold Lt.beats at hm
        obtain ⟨i, hi, hm⟩ := List.mem_flatMap.mp hm
        obtain ⟨o, ho, rfl⟩ := List.mem_map.mp hm
        exact .inr (hl.ow o ho)
    refine lay_tup fun d hd => ?_
    rcases List.mem_cons.mp hd with rfl | hd
    · exact lay_blank hb
    · rw [List.mem_singleton.mp hd]; exact lay_blank hb2
theorem lay_cl {l : Lt} (hl : l.Ok) {cl : List Cla} (h : ∀ c ∈ cl, c.Ok l) : Lay 7 (.tuple (cl.map Cla.enc)) := lay_tup fun d hd => by
  obtain ⟨c, hc, rfl⟩ := List.mem_map.mp hd
  have ho := h c hc
  refine lay_tup fun d hd => ?_
  rcases List.mem_cons.mp hd with rfl | hd
  · exact lay_int
  · rcases List.mem_cons.mp hd with rfl | hd
    · exact lay_blank ho.o
    · rw [List.mem_singleton.mp hd]; exact lay_sen hl ho.s
theorem c_same {k : Nat} {d : PyData} (h : Lay k d) (hk : k ≤ 64) : CmpD L .NotEq (dat d) (dat d) false := c_ne (h.mono hk).shaped (h.mono hk).shaped (SeqAt.eqv_refl d h.1)
theorem c_empty {k : Nat} {ds : List PyData} (h : Lay k (.tuple ds)) (hk : k ≤ 64) : CmpD L .NotEq (dat (.tuple ds)) (dat (.tuple [])) (!ds.isEmpty) := c_ne (h.mono hk).shaped (Lay.shaped (lay_tup (n := 63) fun d hd => by cases hd)) (by
  rw [Bool.not_not]
  cases ds with
  | nil => rfl
  | cons d ds => exact eqv_nil)
/-! the state -/
theorem scCellAt : FnScope ["_law_script", "_law_k"] ["_law_script", "_law_k"] (defScope (topS 69)) := ⟨rfl, rfl, rfl, by decide +kernel, rfl, by decide +kernel, by decide +kernel⟩
def RCellAt (G : GC) : Rel G := fun ps r => ∃ (ns : List Int) (k : Nat), ps = [dat (.list (ns.map PyData.int)), dat (natD k)] ∧ r = dat (.int (ns.getD k 0))
theorem fn_cell_at (B : Bs G) (F : FunT G 69 "_law_cell_at" ["_law_script", "_law_k"]) : FnD G 1 "_law_cell_at" ["_law_script", "_law_k"] (RCellAt G) := by
  refine mk_def (k := 0) F scCellAt (fun pvs r ⟨_, _, h, _⟩ => by rw [h]; rfl) fun pvs r ⟨ns, k, h1, h2⟩ f cd A outer s H E hr => ?_
  subst h1 h2
  refine s_cons (s1_if (t := decide (k < ns.length)) (EvT.cast (t_cmp c_lt (e_var 1) (e_lenL B (e_var 0))) (by rw [List.length_map]; exact decide_eq_decide.mpr (by omega))) (fun ht => ?_) fun hf => s_nil ?_)
  · have ht : k < ns.length := of_decide_eq_true ht
    exact s_cons (s1_ret (e_ix (x_lst (at_map (f := PyData.int) (x := ns.getD k 0) (by rw [List.getD_eq_getElem?_getD, List.getElem?_eq_getElem ht]; rfl))) (e_var 0) (e_var 1)) rfl)
  · have hf : ¬ k < ns.length := of_decide_eq_false hf
    refine s_cons (s1_ret e_int ?_)
    rw [List.getD_eq_getElem?_getD, List.getElem?_eq_none (by omega)]
    rfl
theorem scLState : FnScope ["_law_script", "_law_k", "_law_cell"] ["_law_script", "_law_k"] (defScope (topS 70)) := ⟨rfl, rfl, rfl, by decide +kernel, rfl, by decide +kernel, by decide +kernel⟩
def RLState (G : GC) : RelM G := fun ps own Pw => ∃ (ns : List Int) (k : Nat), ps = [dat (.list (ns.map PyData.int)), dat (natD k)] ∧ own = [] ∧ Pw = fun r ρ' => ∃ (a : Addr) (n : St3), Good n ∧ r = refP a ∧ ρ'.ow = [(a, .lst (stL n))]
theorem fn_lstate (B : Bs G) (F : FunT G 70 "_law_state" ["_law_script", "_law_k"]) (D : FnD G 1 "_law_cell_at" ["_law_script", "_law_k"] (RCellAt G)) : FnM G 2 "_law_state" ["_law_script", "_law_k"] (RLState G) := by
  refine mk_defM (k := 1) F scLState (fun pvs own Pw ⟨_, _, h, _⟩ => by rw [h]; rfl) fun pvs own Pw ⟨ns, k, h1, h2, h3⟩ f cd A outer s H E hr => ?_
  subst h1 h2 h3
  refine s_cons (s1_set 2 (e_call D (Nat.le_refl _) (a_cons (e_var 0) (a_cons (e_var 1) a_nil)) ⟨ns, k, rfl, rfl⟩) ?_)
  generalize ns.getD k 0 = c
  have k1 := Int.emod_nonneg c (show (2147483629 : Int) ≠ 0 by decide)
  have k2 := Int.emod_lt_of_pos c (show (0 : Int) < 2147483629 by decide)
  refine s_cons (s1_retM (em_ownL (ds := [.int (if c - 10 ^ 18 > 0 then c - 10 ^ 18 else 0), .int (c % 2147483629 + 1), .int 0]) (a_cons (e_max B e_int (e_bin b_sub (e_var 2) (e_bin (b_pow (i := 10) (j := 18) ⟨by decide, by decide, by decide⟩) e_int e_int))) (a_cons (e_bin b_add (e_bin (b_mod (j := 2147483629) (by omega)) (e_var 2) e_int) e_int) (a_cons e_int a_nil)))) ?_)
  rintro p ρ1 ⟨a, rfl, rfl⟩
  exact ⟨a, (if c - 10 ^ 18 > 0 then c - 10 ^ 18 else 0, c % 2147483629 + 1, 0), ⟨by show 0 ≤ c % 2147483629 + 1; omega, by show c % 2147483629 + 1 < 2147483648; omega⟩, rfl, rfl⟩
end
end MR
/-! T38: the law. -/
namespace MR
open PySem PySem.Spec PyProof.Rows L2
/-- told of a standard, by its sentences that bind -/
theorem told_rel {G : GC} {S : Std} (h : SizeOk S) {cs : List Str} (hc : ClaimsOk cs) {g : Gm} {ls : Lost} {m : Option (List (List (Nat × Nat)))} {k : Option (List (Nat × List (Option Nat)))} (hp : Plays S.l S.range (sensOf S.cl cs) g ls) (hm : Made g ls m) (hk : Asks g ls k) : RTold G [dat S.enc, dat (strsD cs)] (dat (toldD S.l (keptB ls (some (0, 0))) m k)) := ⟨S, cs, g, ls, m, k, h.std, hc, hp, hm, hk, rfl, rfl⟩
section
variable {G : GC} {L : LC G} {ρ : Rho G} {pos : Pos} {e : Expr} {C : Addr}
theorem scLaw : FnScope ["_law_script", "_law_k", "_law_state_here", "_law_lap", "_law_standard_here", "_law_owns", "_law_told_here", "_law_single", "_law_twofold", "_law_plain", "_law_never", "_law_barred"] ["_law_script"] (defScope (topS 84)) := ⟨rfl, rfl, rfl, by decide +kernel, rfl, by decide +kernel, by decide +kernel⟩
def RLaw (G : GC) : Rel G := fun ps r => ∃ ns : List Int, ns.length ≤ 63 ∧ ps = [dat (.list (ns.map PyData.int))] ∧ r = dat (.bool true)
theorem claims_nil : ClaimsOk [] := ⟨Nat.zero_le _, (fun x h => by cases h), fun k a b h => by simp at h⟩
theorem fn_law {fl : Addr} {fdl : FuncData} (B : Bs G) (F : Fun G.K "law" "law" (topS 84) fl fdl) (D1 : FnM G 2 "_law_state" ["_law_script", "_law_k"] (RLState G)) (D2 : FnM G 6 "_law_standard" ["_law_state_here", "_law_most"] (RRnd AStd)) (D3 : FnM G 2 "_law_claims" ["_law_state_here"] (RRnd AClaims)) (D4 : FnD G 16 "_law_told" ["_law_standard_here", "_law_owns"] (RTold G)) (D5 : FnM G 3 "_law_parted" ["_law_state_here", "_law_standard_here"] (RRnd AParted))
    (D6 : FnD G 1 "_law_numbered" ["_law_standard_here"] (RNumbered G)) (D7 : FnD G 1 "_law_written_out" ["_law_standard_here", "_law_owns"] (RWritten G)) (D8 : FnK G 15 "can_keep" ["standard", "claims"] 1 ["claims"] (RCanKeep G)) (D9 : FnD G 11 "is_standard" ["thing"] (RIsStandard G)) (D10 : FnK G 15 "beyond" ["standard", "other", "claims"] 2 ["claims"] (RBeyond G)) (D11 : FnK G 15 "news" ["standard", "number", "claims"] 2 ["claims"] (RNews G)) :
    FnOk G.P G.w G.K G.mg G.base CX0 17 fl fdl ["_law_script"] (spR (RLaw G)) := by
  refine fnOk_mk (k := 16) F scLaw (fun pvs r ⟨_, _, h, _⟩ => by rw [h]; rfl) fun pvs r ⟨ns, hl, h1, h2⟩ f cd A outer s H E hr => ?_
  subst h1 h2
  refine s_cons (s1_forN (ds := rngD (max 1 (min ns.length 2))) 1 (i_rngM B.range (by omega) (EvD.cI (e_max B e_int (e_min B (e_lenL B (e_var 0)) e_int)) (by rw [List.length_map]; omega)))
    (fun k ρ => ∃ s1 s2 s3 s4 s5 s6 s7 s8 s9 s10 s11, ρ = ⟨[some (dat (.list (ns.map PyData.int))), s1, s2, s3, s4, s5, s6, s7, s8, s9, s10, s11], []⟩) ⟨none, none, none, none, none, none, none, none, none, none, none, rfl⟩ ?_ ?_)
  · rintro k d ρ1 hd ⟨s1, s2, s3, s4, s5, s6, s7, s8, s9, s10, s11, rfl⟩
    obtain ⟨hk, rfl⟩ := rngD_get hd
    refine s_cons (s1_setM 2 (em_callR (own := []) (rest := []) (Pw := fun r ρ' => ∃ (a : Addr) (n : St3), Good n ∧ r = refP a ∧ ρ'.ow = [(a, .lst (stL n))]) D1 (show 2 ≤ 16 by decide) (a_cons (e_var 0) (a_cons (e_var 1) a_nil)) (List.Perm.refl _) ⟨ns, k, rfl, rfl, rfl⟩) ?_)
    rintro p ρ1 ⟨ρc, ⟨a, n0, hn0, rfl, e1⟩, rfl⟩
    rw [e1]
    refine s_cons (s1_forN (ds := rngD 2) 3 (i_rngM B.range (by omega) e_int)
      (fun j ρ => ∃ n s3 s4 s5 s6 s7 s8 s9 s10 s11, Good n ∧ ρ = ⟨[some (dat (.list (ns.map PyData.int))), some (dat (natD k)), some (refP a), s3, s4, s5, s6, s7, s8, s9, s10, s11], [(a, .lst (stL n))]⟩) ⟨n0, s3, s4, s5, s6, s7, s8, s9, s10, s11, hn0, rfl⟩ ?_ ?_)
    · rintro j d ρ1 hd ⟨n, s3, s4, s5, s6, s7, s8, s9, s10, s11, hn, rfl⟩
      obtain ⟨hj, rfl⟩ := rngD_get hd
      refine s_cons (s1_par2M 4 5 (am2 (Pb := fun _ _ => Rn [some (dat (.list (ns.map PyData.int))), some (dat (natD k)), some (refP a), some (dat (natD j)), s4, s5, s6, s7, s8, s9, s10, s11] [] a fun r => ∃ cs : List Str, ClaimsOk cs ∧ r = dat (strsD cs)) (em_rnd (rest := []) (X := XStd) D2 (show 6 ≤ 16 by decide) (e_var 2) (a_cons e_int a_nil) hn ⟨rfl, rfl⟩) (fun p ρ1 h => by
        obtain ⟨n2, hn2, h2, rfl⟩ := h
        exact em_rnd (rest := []) D3 (show 2 ≤ 16 by decide) (e_var 2) a_nil hn2 ⟨rfl, rfl⟩)) ?_)
      rintro ps ρ1 ⟨p, ρ2, q, ⟨n1, hn1, ⟨S, hS, rfl⟩, rfl⟩, ⟨n2, hn2, ⟨cs, hc, rfl⟩, rfl⟩, rfl⟩
      refine ⟨_, _, rfl, ?_⟩
      -- the standard's game
      have hz := hS.size
      obtain ⟨g0, ls0, hp0⟩ := hz.plays cs
      obtain ⟨m0, hm0⟩ := made_ex hp0
      obtain ⟨k0, hk0⟩ := asks_ex hp0
      have c3 := hS.c.n3
      refine s_cons (s1_asgE (em_tupP (am2 (Pa := fun p ρ' => p = dat (toldD S.l (keptB ls0 (some (0, 0))) m0 k0) ∧ ρ' = ⟨[some (dat (.list (ns.map PyData.int))), some (dat (natD k)), some (refP a), some (dat (natD j)), some (dat S.enc), some (dat (strsD cs)), s6, s7, s8, s9, s10, s11], [(a, .lst (stL n2))]⟩)
        (Pb := fun _ _ => Rn [some (dat (.list (ns.map PyData.int))), some (dat (natD k)), some (refP a), some (dat (natD j)), some (dat S.enc), some (dat (strsD cs)), s6, s7, s8, s9, s10, s11] [] a (XParted S)) (e_call D4 (Nat.le_refl _) (a_cons (e_var 4) (a_cons (e_var 5) a_nil)) (told_rel hz hc hp0 hm0 hk0)) (fun p ρ1 h => by
          obtain ⟨rfl, rfl⟩ := h
          exact em_rnd (rest := []) (X := XParted S) D5 (show 3 ≤ 16 by decide) (e_var 2) (a_cons (e_var 4) a_nil) hn2 ⟨S, hS, rfl, rfl⟩)) (by decide) (fun ps ρ' h => by obtain ⟨p, ρ1, q, _, _, rfl⟩ := h; exact (show 2 ≤ 1000 by decide))) (fun p ρ1 h => ?_))
      obtain ⟨ps, rfl, p, ρ2, q, ⟨rfl, rfl⟩, ⟨n3, hn3, ⟨P, Q, hP, dP, hQ, dQ, rfl⟩, rfl⟩, rfl⟩ := h
      refine ⟨_, _, g_tup (gs_cons (g_name 6) (gs_cons (g_lstD (ds := [(S.single P Q).enc, (S.twofold P Q).enc]) (gs_cons (g_name 7) (gs_cons (g_name 8) gs_nil))) gs_nil)), ?_⟩
      -- one clause said as two
      have hz1 := hS.single hP dP hQ dQ
      have hz2 := hS.twofold hP dP hQ dQ
      obtain ⟨g1, ls1, hp1⟩ := hz1.plays cs
      obtain ⟨m1, hm1⟩ := made_ex hp1
      obtain ⟨k1, hk1⟩ := asks_ex hp1
      have es1 := single_sens S P Q cs
      have es2 := twofold_sens S P Q cs
      have hso : ∀ s ∈ sensOf S.cl cs, s.Ok S.l := fun s hs => hz.sens s ((sens_sub S.cl cs).subset hs)
      have nPQ : (Sen.never (.or P Q)).Ok S.l := never_ok ⟨hP, hQ⟩ (by show max P.depth Q.depth + 1 ≤ 4; omega)
      have nP : (Sen.never P).Ok S.l := never_ok hP (by omega)
      have nQ : (Sen.never Q).Ok S.l := never_ok hQ (by omega)
      have hp1' : Plays S.l S.range (sensOf S.cl cs ++ [.never (.or P Q)]) g1 ls1 := by rw [← es1]; exact hp1
      have hsl : (sensOf S.cl cs).length ≤ 3 := by
        unfold sensOf
        rw [List.length_map]
        exact Nat.le_trans (List.length_filter_le _ _) c3
      have hp2 : Plays (S.twofold P Q).l (S.twofold P Q).range (sensOf (S.twofold P Q).cl cs) g1 ls1 := by
        rw [es2]
        refine hp1'.other (fun s hs => ?_) (by rw [List.length_append]; simp; omega) (together_parted nPQ nP nQ hp1'.rows hso)
        rcases List.mem_append.mp hs with hs | hs
        · exact hso s hs
        · rcases List.mem_cons.mp hs with rfl | hs
          · exact nP
          · rw [List.mem_singleton.mp hs]; exact nQ
      refine s_cons (s1_if (t := false) (t_cmp (c_same (lay_told hS.l (keptB ls1 (some (0, 0))) m1 k1) (by decide)) (e_call D4 (Nat.le_refl _) (a_cons (e_var 7) (a_cons (e_var 5) a_nil)) (told_rel hz1 hc hp1 hm1 hk1)) (e_call D4 (Nat.le_refl _) (a_cons (e_var 8) (a_cons (e_var 5) a_nil)) (told_rel hz2 hc hp2 hm1 hk1))) (fun h => nomatch h) fun _ => s_nil ?_)
      -- under other numbers
      have hz3 := hS.renum
      have hp3 : Plays S.renum.l S.renum.range (sensOf S.renum.cl cs) g0 ls0 := by
        rw [renum_binds]
        refine hp0.other (fun s hs => hso s (List.mem_reverse.mp hs)) (by rw [List.length_reverse]; omega) (together_rev hp0.rows)
      refine s_cons (s1_if (t := false) (t_cmp (c_same (lay_told hS.l (keptB ls0 (some (0, 0))) m0 k0) (by decide)) (e_call D4 (Nat.le_refl _) (a_cons (e_call D6 (show 1 ≤ 16 by decide) (a_cons (e_var 4) a_nil) ⟨S, by omega, rfl, rfl⟩) (a_cons (e_var 5) a_nil)) (told_rel hz3 hc hp3 hm0 hk0)) (e_var 6)) (fun h => nomatch h) fun _ => s_nil ?_)
      -- written out
      refine s_cons (s1_set 9 (e_call D7 (show 1 ≤ 16 by decide) (a_cons (e_var 4) (a_cons (e_var 5) a_nil)) ⟨S, cs, by omega, rfl, rfl⟩) ?_)
      have hlay : Lay 7 (.tuple ((S.plainOf cs).cl.map Cla.enc)) := lay_cl hS.l fun c hcm => by
        obtain ⟨d, hd, rfl⟩ := List.mem_map.mp hcm
        have := hS.c.ok d (List.mem_filter.mp hd).1
        exact ⟨this.n1, this.n99, .inl rfl, this.s⟩
      refine s_cons (s1_if (t := false) (EvT.cast (t_w (w_and (u := false) (t_cmp (c_empty hlay (by decide)) (e_ix (x_tup (ds := [S.l.enc, .tuple (S.range.map Sen.enc), .tuple ((S.plainOf cs).cl.map Cla.enc)]) at2) (e_var 9) e_int) (e_tup (ds := []) a_nil)) fun hne => w_and1 (t_cmp (c_same (lay_told hS.l (keptB ls0 (some (0, 0))) m0 k0) (by decide)) (e_call D4 (Nat.le_refl _) (a_cons (e_var 9) (a_cons (e_tup (ds := []) a_nil) a_nil)) (told_rel (S := S.plainOf cs) (cs := []) (hS.plainOf cs (fun z => by rw [z] at hne; cases hne)) claims_nil (by rw [plain_sens]; exact hp0) hm0 hk0)) (e_var 6)))) (Bool.and_false _)) (fun h => nomatch h) fun _ => s_nil ?_)
      -- a clause fewer
      have hkf : keptB ls1 (some (0, 0)) = true → keptB ls0 (some (0, 0)) = true := fun h => by
        have h1 : isLost ls1 (0, 0) = false := by simpa [keptB] using h
        show (!isLost ls0 (0, 0)) = true
        rw [kept_fewer hp1' hp0 h1]
        rfl
      refine s_cons (s1_if (t := false) (EvT.cast (t_w (w_and (t_val (e_callk D8 (show 15 ≤ 16 by decide) (a_cons (e_var 7) a_nil) (e_var 5) ⟨S.single P Q, cs, g1, ls1, hz1.std, hc, hp1, rfl, rfl⟩)) fun _ => w_and1 (t_not (t_val (e_ix (x_lst at0) (e_var 6) e_int))))) (by
        cases e : keptB ls1 (some (0, 0)) with
        | false => rfl
        | true => rw [hkf e]; rfl)) (fun h => nomatch h) fun _ => s_nil ?_)
      -- a range more
      have i1 := hS.l.i1
      have hz4 := hS.barred
      obtain ⟨g4, ls4, hp4⟩ := hz4.plays cs
      have hkb : keptB ls0 (some (0, 0)) = true → keptB ls4 (some (0, 0)) = true := fun h => by
        have h1 : isLost ls0 (0, 0) = false := by simpa [keptB] using h
        show (!isLost ls4 (0, 0)) = true
        rw [kept_barred hp0 hp4 h1]
        rfl
      refine s_cons (s1_set 10 (e_tup (ds := [.str "never", .tuple [.str "in", .str (S.l.ins.getD 0 "")]]) (a_cons e_str (a_cons (e_tup (ds := [.str "in", .str (S.l.ins.getD 0 "")]) (a_cons e_str (a_cons (e_ix (x_tup (at_map (f := PyData.str) (k := 0) (by rw [List.getD_eq_getElem?_getD, List.getElem?_eq_getElem (by omega)]; rfl))) (e_ix (x_tup at0) (e_ix (x_tup at0) (e_var 4) e_int) e_int) e_int) a_nil))) a_nil))) ?_)
      refine s_cons (s1_set 11 (p := dat S.barred.enc) (EvD.cast (e_tup (ds := [S.l.enc, .tuple (S.range.map Sen.enc ++ [.tuple [.str "never", .tuple [.str "in", .str (S.l.ins.getD 0 "")]]]), .tuple (S.cl.map Cla.enc)]) (a_cons (e_ix (x_tup at0) (e_var 4) e_int) (a_cons (e_bin (b_cat (by rw [List.length_map]; have := hS.r1; simp; omega)) (e_ix (x_tup at1) (e_var 4) e_int) (e_tup (ds := [.tuple [.str "never", .tuple [.str "in", .str (S.l.ins.getD 0 "")]]]) (a_cons (e_var 10) a_nil))) (a_cons (e_ix (x_tup at2) (e_var 4) e_int) a_nil)))) (by
        have e : S.range.map Sen.enc ++ [.tuple [.str "never", .tuple [.str "in", .str (S.l.ins.getD 0 "")]]] = (S.range ++ [Sen.never (.inn (S.l.ins.getD 0 ""))]).map Sen.enc := by rw [List.map_append]; rfl
        rw [e]
        rfl)) ?_)
      refine s_cons (s1_if (t := false) (EvT.cast (t_w (w_and (t_val (e_call D9 (show 11 ≤ 16 by decide) (a_cons (e_var 11) a_nil) ⟨S.barred, hz4.std, rfl, rfl⟩)) fun _ => w_and (t_val (e_ix (x_lst at0) (e_var 6) e_int)) fun _ => w_and1 (t_not (t_val (e_callk D8 (show 15 ≤ 16 by decide) (a_cons (e_var 11) a_nil) (e_var 5) ⟨S.barred, cs, g4, ls4, hz4.std, hc, hp4, rfl, rfl⟩))))) (by
        cases e : keptB ls0 (some (0, 0)) with
        | false => rfl
        | true => rw [hkb e]; rfl)) (fun h => nomatch h) fun _ => s_nil ?_)
      -- beyond, news
      obtain ⟨R2, hR2, hR2l⟩ := watch_ex nPQ
      obtain ⟨out, ho1, ho2⟩ := beyond_news hp0 nPQ hp1'.rows hR2
      obtain ⟨f1, f2, f3⟩ := news_facts hS hP dP hQ dQ cs
      refine s_cons (s1_if (t := false) (t_cmp (c_same (lay_run hS.l out) (by decide)) (e_callk D10 (show 15 ≤ 16 by decide) (a_cons (e_var 4) (a_cons (e_var 7) a_nil)) (e_var 5) ⟨S, S.single P Q, cs, g0, ls0, g1.rows, out, hz.std, hz1.std, hc, rfl, rfl, hp0, by rw [es1]; exact hp1'.rows, hp1.m2, ho1, rfl, rfl⟩)
        (e_callk D11 (show 15 ≤ 16 by decide) (a_cons (e_var 7) (a_cons e_int a_nil)) (e_var 5) ⟨S.single P Q, cs, 95, ⟨95, "", .never (.or P Q)⟩, [], g0, ls0, R2, out, hz1.std, hc, f1, f2, by rw [f3]; exact hp0, hR2, Nat.le_trans hR2l (by show 1 ≤ 60; decide), ho2, rfl, rfl⟩)) (fun h => nomatch h) fun _ => s_nil ?_)
      have hbn := beyond_none hp1' hp0.rows
      refine s_cons (s1_if (t := false) (t_cmp c_notN (e_callk D10 (show 15 ≤ 16 by decide) (a_cons (e_var 7) (a_cons (e_var 4) a_nil)) (e_var 5) ⟨S.single P Q, S, cs, g1, ls1, g0.rows, none, hz1.std, hz.std, hc, rfl, rfl, hp1, hp0.rows, hp0.m2, hbn, rfl, rfl⟩) e_non) (fun h => nomatch h) fun _ => s_nil (s_nil ⟨n3, _, _, _, _, _, _, _, _, _, hn3, rfl⟩))
    · rintro ρ1 ⟨n, s3, s4, s5, s6, s7, s8, s9, s10, s11, hn, rfl⟩
      refine st_frz Part.all View.refl (s_nil ⟨some (dat (natD k)), some (refP a), s3, s4, s5, s6, s7, s8, s9, s10, s11, rfl⟩)
  · rintro ρ1 ⟨s1, s2, s3, s4, s5, s6, s7, s8, s9, s10, s11, rfl⟩
    exact s_cons (s1_ret e_bl rfl)
end
end MR
/-! the join -/
namespace MR
open PySem PySem.Spec PyProof.Rows L2
section
variable {G : GC}
theorem fun_of {K : PySem.W.Frag} {x qual : Str} {st : Stmt} {f : Addr} {fd : FuncData} {kws : List (Str × V)} (F : FunD K x qual (defArgs st) (defBody st) (defScope st) [] kws f fd) : Fun K x qual st f fd := by
  obtain ⟨oc, od, dV, kV, doc, pm, an, cdv, ct, osl, e, lk, hcd, hD, _⟩ := F.ex
  rcases hD with ⟨_, rfl⟩ | ⟨z, _⟩
  · exact ⟨⟨oc, od, kV, doc, pm, an, cdv, ct, osl, e, lk, hcd⟩, F.kp⟩
  · exact absurd rfl z
theorem funT_of {i : Nat} {x : Str} {ps : List Str} {f : Addr} {fd : FuncData} (hm : G.mg x = some (.ref f)) (F : FunD G.K x x (defArgs (topS i)) (defBody (topS i)) (defScope (topS i)) [] [] f fd)
    (h : ∀ (kV doc pm : Value) (an : Option Addr) (cdv ct : Value) (us : List Value), us.length = ps.length → bindArgs (PySem.W.fnOf x x (defArgs (topS i)) (defBody (topS i)) (defScope (topS i)) .none kV doc pm an cdv ct) ⟨us, []⟩ = pure (ps.zip us)) : FunT G i x ps := ⟨f, fd, hm, fun_of F, F.bindsN h⟩
theorem funTK_of {st : Stmt} {x : Str} {ps ks : List Str} {n : Nat} {f : Addr} {fd : FuncData} {kws : List (Str × V)} (hm : G.mg x = some (.ref f)) (F : FunD G.K x x (defArgs st) (defBody st) (defScope st) [] kws f fd) (hk : kws ≠ [])
    (h : ∀ (D : Addr) (doc pm : Value) (an : Option Addr) (cdv ct : Value) (us ws : List Value), us.length = n → ws.length = ks.length → bindArgs (PySem.W.fnOf x x (defArgs st) (defBody st) (defScope st) .none (.ref D) doc pm an cdv ct) ⟨us, ks.zip ws⟩ = pure (ps.zip (us ++ ws))) : FunTK G st x ps n ks := by
  obtain ⟨mv, hb⟩ := F.kbinds0 (ps := ps) n ks [] (fun us _ ws => us ++ ws) hk (fun q hq => by cases hq) (fun r1 _ r2 => r1.append r2) (fun D doc pm an cdv ct us mv ws l1 l2 l3 => h D doc pm an cdv ct us ws l1 l3)
  exact ⟨f, fd, _, hm, fun_of F, hb⟩
theorem methT_of {C : Addr} {j : Nat} {m : Str} {ps : List Str} {f : Addr} {fd : FuncData} (hm : Meth G.K C m f) (F : FunD G.K m ("Game." ++ m) (defArgs (methS j)) (defBody (methS j)) (defScope (methS j)) [] [] f fd)
    (h : ∀ (kV doc pm : Value) (an : Option Addr) (cdv ct : Value) (us : List Value), us.length = ps.length → bindArgs (PySem.W.fnOf m ("Game." ++ m) (defArgs (methS j)) (defBody (methS j)) (defScope (methS j)) .none kV doc pm an cdv ct) ⟨us, []⟩ = pure (ps.zip us)) : MethT G C j m ps := ⟨f, fd, hm, fun_of F, F.bindsN h⟩
theorem funL_of {i : Nat} {x : Str} {ps : List Str} {fd : FuncData} (hm : G.mg x = some (.ref (He.ga G.K x))) (F : FunD G.K x x (defArgs (topS i)) (defBody (topS i)) (defScope (topS i)) [] [] (He.ga G.K x) fd)
    (h : ∀ (kV doc pm : Value) (an : Option Addr) (cdv ct : Value) (us : List Value), us.length = ps.length → bindArgs (PySem.W.fnOf x x (defArgs (topS i)) (defBody (topS i)) (defScope (topS i)) .none kV doc pm an cdv ct) ⟨us, []⟩ = pure (ps.zip us))
    (tab : LamX.TabB G.base G.mg (He.cT G.K (x, none)).1 (He.cT G.K (x, none)).2) (mem : ((He.cT G.K (x, none)).2, x ++ ".<locals>." ++ "<lambda>") ∈ G.T) (uniq : ∀ p ∈ G.T, p.1 = (He.cT G.K (x, none)).2 → p.2 = x ++ ".<locals>." ++ "<lambda>") :
    FunL G i x ps (He.cT G.K (x, none)).1 (He.cT G.K (x, none)).2 := by
  have hb := F.bindsN h
  obtain ⟨oc, od, dV, kV, doc, pm, an, cdv, ct, osl, e, lk, hcd, hD, _⟩ := F.ex
  obtain ⟨cc, rfl⟩ := He.codeIn_ref hcd
  have ec : He.codeOf G.K (x, none) = cc := He.codeOf_eq (p := (x, none)) lk (by rw [e])
  have e1 : (He.cT G.K (x, none)).1 = cc := ec
  subst e
  refine ⟨⟨He.ga G.K x, oc, od, dV, kV, doc, pm, an, ct, osl, hm, F.kp, ?_, ?_, ?_⟩, tab, mem, uniq⟩
  · rw [e1]; exact lk
  · rw [e1]; exact hcd
  · rw [e1]; exact hb
end
theorem tupleAt_ok {K : PySem.W.Frag} {t : Addr} {vs : List V} (hy : tupleAt K t vs = true) (H : Hp) : SqT K H t vs := by
  unfold tupleAt at hy
  cases hlk : K.lookup t with
  | none => rw [hlk] at hy; cases hy
  | some ob =>
    obtain ⟨oc, od, dt, osl⟩ := ob
    rw [hlk] at hy
    cases oc with
    | type ty =>
      cases dt with
      | seq items m =>
        obtain ⟨y1, y2⟩ := He.ba (show (decide (ty = "tuple") && (decide (items.size ≤ sizeLine) && He.relAll vs items.toList)) = true from hy)
        obtain ⟨y3, y4⟩ := He.ba y2
        exact .inr ⟨_, items, m, hlk, congrArg Value.type (of_decide_eq_true y1), rfl, of_decide_eq_true y3, He.relAll_ok y4⟩
      | _ => cases hy
    | _ => cases dt <;> cases hy
theorem kinds_ok {K : PySem.W.Frag} (hy : kindsB K = true) {x : Str} {s k : Nat} (hx : kindTab x = some (s, k)) : ∃ u0 v0, PySem.W.nsIn K (He.ga K "KINDS") x = some (some u0) ∧ RelV v0 u0 ∧ ∀ H, Dp K H v0 (.tuple [.int (s : Nat), .int (k : Nat)]) := by
  have hm : (x, s, k) ∈ kindsL := by
    unfold kindTab at hx
    repeat' split at hx
    all_goals (first | (rename_i hxx; subst hxx; cases hx; simp [kindsL]) | cases hx)
  have hq := List.all_eq_true.mp hy _ hm
  dsimp only at hq
  split at hq
  · rename_i t ht
    exact ⟨.ref t, .ref t, ht, rfl, fun H => .tup (tupleAt_ok hq H) (.cons (.int _) (.cons (.int _) .nil))⟩
  · cases hq
/-- what the law is given -/
def spLaw (K : PySem.W.Frag) (T : List (Addr × Str)) : Sp := fun vs H Q _ => LamX.Tabs T H ∧ ∃ (a : Addr) (ns : List Int), ns.length ≤ 63 ∧ vs = [.ref a] ∧ SqL K H a (ns.map V.int) ∧ ∀ H', Q (.bl true) H'
theorem dpa_ints {K : PySem.W.Frag} {H : Hp} : ∀ ns : List Int, DpAll K H (ns.map V.int) (ns.map PyData.int)
  | [] => .nil
  | n :: ns => .cons (.int n) (dpa_ints ns)
def tblT (K : PySem.W.Frag) : List (Addr × Str) := [((He.cT K ("watcher_by", none)).2, "watcher_by" ++ ".<locals>." ++ "<lambda>"), ((He.cT K ("joined_rows", none)).2, "joined_rows" ++ ".<locals>." ++ "<lambda>")]
section
variable {P : Program} {w : World} {K : PySem.W.Frag} {h base : Heap} {mg : Str → Option Value} {fl : Addr} {fdl : FuncData}
theorem law_ok (X : K.In h) (Gn : h.Ns mainGlobals mg) (c : He.SaysX fas fns tabs tfs exB w h K) (FL : FunD K "law" "law" (defArgs (topS 84)) (defBody (topS 84)) (defScope (topS 84)) [] [] fl fdl) (hTB : ∀ p ∈ [He.cT K ("watcher_by", none), He.cT K ("joined_rows", none)], LamX.TabB base mg p.1 p.2) :
    FnOk P w K mg base CX0 17 fl fdl ["_law_script"] (spLaw K (tblT K)) := by
  let G : GC := ⟨P, w, K, mg, base, tblT K⟩
  have hex := c.more
  obtain ⟨x1, x2⟩ := He.ba (show (He.tupB K "BEGIN" [.int 0, .int 0] && (kindsB K && decide ((He.cT K ("watcher_by", none)).2 ≠ (He.cT K ("joined_rows", none)).2))) = true from hex)
  obtain ⟨x2, x3⟩ := He.ba x2
  have x3 : (He.cT K ("watcher_by", none)).2 ≠ (He.cT K ("joined_rows", none)).2 := of_decide_eq_true x3
  have B : Bs G := ⟨He.free_ok X Gn (c.t.d.fact 63 (f := .free "isinstance") rfl), He.free_ok X Gn (c.t.d.fact 64 (f := .free "int") rfl), He.free_ok X Gn (c.t.d.fact 65 (f := .free "bool") rfl), He.free_ok X Gn (c.t.d.fact 66 (f := .free "str") rfl), He.free_ok X Gn (c.t.d.fact 67 (f := .free "tuple") rfl), He.free_ok X Gn (c.t.d.fact 68 (f := .free "len") rfl), He.free_ok X Gn (c.t.d.fact 69 (f := .free "all") rfl), He.free_ok X Gn (c.t.d.fact 70 (f := .free "any") rfl), He.free_ok X Gn (c.t.d.fact 71 (f := .free "zip") rfl), He.free_ok X Gn (c.t.d.fact 72 (f := .free "enumerate") rfl), He.free_ok X Gn (c.t.d.fact 73 (f := .free "range") rfl), He.free_ok X Gn (c.t.d.fact 74 (f := .free "max") rfl), He.free_ok X Gn (c.t.d.fact 75 (f := .free "min") rfl), He.free_ok X Gn (c.t.d.fact 76 (f := .free "list") rfl)⟩
  obtain ⟨es, nn, hkd⟩ := c.t.tab 0 (t := (fun K => He.ga K "KINDS", ["never", "after", "until", "within", "first", "most", "apart"])) rfl
  have Q : Cs G := ⟨He.str_ok X Gn (c.t.d.fact 85 (f := .str "SMALL" "abcdefghijklmnopqrstuvwxyz") rfl), He.int_ok X Gn (c.t.d.fact 77 (f := .int "MOST_LETTERS" 3) rfl), He.int_ok X Gn (c.t.d.fact 78 (f := .int "MOST_DEPTH" 4) rfl), He.int_ok X Gn (c.t.d.fact 79 (f := .int "MOST_NUMBER_sentences" 6) rfl), He.int_ok X Gn (c.t.d.fact 80 (f := .int "MOST_RANGE" 3) rfl), He.int_ok X Gn (c.t.d.fact 81 (f := .int "MOST_CLAUSES" 8) rfl), He.int_ok X Gn (c.t.d.fact 82 (f := .int "MOST_NUMBER_standards" 99) rfl), He.int_ok X Gn (c.t.d.fact 83 (f := .int "MOST_STANDINGS" 60) rfl), He.int_ok X Gn (c.t.d.fact 84 (f := .int "MOST_RANGE_STANDINGS" 4) rfl), ⟨_, es, nn, (He.glo_ok X Gn (c.t.d.fact 61 (f := .glo "KINDS") rfl)), hkd, fun x s k hx => kinds_ok x2 hx⟩, ⟨.ref (He.ga K "BEGIN"), _, (He.glo_ok X Gn (c.t.d.fact 62 (f := .glo "BEGIN") rfl)), rfl, fun H => .tup (He.tupB_ok x1 H) (.cons (.int _) (.cons (.int _) .nil))⟩⟩
  have Kc : GameT G (He.ga K "Game") := ⟨He.cls_ok (c.t.d.fact 86 (f := .cls "Game") rfl), He.noat_ok (c.t.d.fact 97 (f := .noat "Game" "letters") rfl), He.noat_ok (c.t.d.fact 98 (f := .noat "Game" "limits") rfl), He.noat_ok (c.t.d.fact 99 (f := .noat "Game" "rows") rfl), He.noat_ok (c.t.d.fact 100 (f := .noat "Game" "lost") rfl)⟩
  obtain ⟨fd8, F8⟩ := c.t.d.def_ 0 (d := dd0) rfl
  have F8 : FunT G 8 "is_whole" ["thing"] := funT_of (He.glo_ok X Gn (c.t.d.fact 0 (f := .glo "is_whole") rfl)) F8 (fun _ _ _ _ _ _ us hl => match us, hl with | [_], _ => rfl)
  obtain ⟨fd9, F9⟩ := c.t.d.def_ 1 (d := dd1) rfl
  have F9 : FunT G 9 "is_within" ["thing", "least", "most"] := funT_of (He.glo_ok X Gn (c.t.d.fact 1 (f := .glo "is_within") rfl)) F9 (fun _ _ _ _ _ _ us hl => match us, hl with | [_, _, _], _ => rfl)
  obtain ⟨fd10, F10⟩ := c.t.d.def_ 2 (d := dd2) rfl
  have F10 : FunT G 10 "is_word" ["thing"] := funT_of (He.glo_ok X Gn (c.t.d.fact 2 (f := .glo "is_word") rfl)) F10 (fun _ _ _ _ _ _ us hl => match us, hl with | [_], _ => rfl)
  obtain ⟨fd11, F11⟩ := c.t.d.def_ 3 (d := dd3) rfl
  have F11 : FunT G 11 "rises" ["row"] := funT_of (He.glo_ok X Gn (c.t.d.fact 3 (f := .glo "rises") rfl)) F11 (fun _ _ _ _ _ _ us hl => match us, hl with | [_], _ => rfl)
  obtain ⟨fd15, F15⟩ := c.t.d.def_ 4 (d := dd4) rfl
  have F15 : FunT G 15 "are_words" ["thing"] := funT_of (He.glo_ok X Gn (c.t.d.fact 4 (f := .glo "are_words") rfl)) F15 (fun _ _ _ _ _ _ us hl => match us, hl with | [_], _ => rfl)
  obtain ⟨fd16, F16⟩ := c.t.d.def_ 5 (d := dd5) rfl
  have F16 : FunT G 16 "is_letters" ["thing"] := funT_of (He.glo_ok X Gn (c.t.d.fact 5 (f := .glo "is_letters") rfl)) F16 (fun _ _ _ _ _ _ us hl => match us, hl with | [_], _ => rfl)
  obtain ⟨fd17, F17⟩ := c.t.d.def_ 6 (d := dd6) rfl
  have F17 : FunT G 17 "beats_of" ["letters"] := funT_of (He.glo_ok X Gn (c.t.d.fact 6 (f := .glo "beats_of") rfl)) F17 (fun _ _ _ _ _ _ us hl => match us, hl with | [_], _ => rfl)
  obtain ⟨fd18, F18⟩ := c.t.d.def_ 7 (d := dd7) rfl
  have F18 : FunT G 18 "is_saying_by" ["letters", "thing", "depth"] := funT_of (He.glo_ok X Gn (c.t.d.fact 7 (f := .glo "is_saying_by") rfl)) F18 (fun _ _ _ _ _ _ us hl => match us, hl with | [_, _, _], _ => rfl)
  obtain ⟨fd19, F19⟩ := c.t.d.def_ 8 (d := dd8) rfl
  have F19 : FunT G 19 "is_so_by" ["saying", "beat"] := funT_of (He.glo_ok X Gn (c.t.d.fact 8 (f := .glo "is_so_by") rfl)) F19 (fun _ _ _ _ _ _ us hl => match us, hl with | [_, _], _ => rfl)
  obtain ⟨fd20, F20⟩ := c.t.d.def_ 9 (d := dd9) rfl
  have F20 : FunT G 20 "speaks_of_outs" ["saying"] := funT_of (He.glo_ok X Gn (c.t.d.fact 9 (f := .glo "speaks_of_outs") rfl)) F20 (fun _ _ _ _ _ _ us hl => match us, hl with | [_], _ => rfl)
  obtain ⟨fd24, F24⟩ := c.t.d.def_ 10 (d := dd10) rfl
  have F24 : FunT G 24 "is_sentence_by" ["letters", "thing"] := funT_of (He.glo_ok X Gn (c.t.d.fact 10 (f := .glo "is_sentence_by") rfl)) F24 (fun _ _ _ _ _ _ us hl => match us, hl with | [_, _], _ => rfl)
  obtain ⟨fd25, F25⟩ := c.t.d.def_ 11 (d := dd11) rfl
  have F25 : FunT G 25 "is_of_ins" ["sentence"] := funT_of (He.glo_ok X Gn (c.t.d.fact 11 (f := .glo "is_of_ins") rfl)) F25 (fun _ _ _ _ _ _ us hl => match us, hl with | [_], _ => rfl)
  obtain ⟨fd26, F26⟩ := c.t.d.def_ 12 (d := dd12) rfl
  have F26 : FunT G 26 "step_within" ["sentence", "left", "beat"] := funT_of (He.glo_ok X Gn (c.t.d.fact 12 (f := .glo "step_within") rfl)) F26 (fun _ _ _ _ _ _ us hl => match us, hl with | [_, _, _], _ => rfl)
  obtain ⟨fd27, F27⟩ := c.t.d.def_ 13 (d := dd13) rfl
  have F27 : FunT G 27 "step_counted" ["sentence", "state", "beat"] := funT_of (He.glo_ok X Gn (c.t.d.fact 13 (f := .glo "step_counted") rfl)) F27 (fun _ _ _ _ _ _ us hl => match us, hl with | [_, _, _], _ => rfl)
  obtain ⟨fd28, F28⟩ := c.t.d.def_ 14 (d := dd14) rfl
  have F28 : FunT G 28 "step_marked" ["sentence", "state", "beat"] := funT_of (He.glo_ok X Gn (c.t.d.fact 14 (f := .glo "step_marked") rfl)) F28 (fun _ _ _ _ _ _ us hl => match us, hl with | [_, _, _], _ => rfl)
  obtain ⟨fd29, F29⟩ := c.t.d.def_ 15 (d := dd15) rfl
  have F29 : FunT G 29 "step_by" ["sentence", "state", "beat"] := funT_of (He.glo_ok X Gn (c.t.d.fact 15 (f := .glo "step_by") rfl)) F29 (fun _ _ _ _ _ _ us hl => match us, hl with | [_, _, _], _ => rfl)
  obtain ⟨fd31, F31⟩ := c.t.d.def_ 16 (d := dd16) rfl
  have F31 : FunT G 31 "step_rows" ["watchers", "states", "at"] := funT_of (He.glo_ok X Gn (c.t.d.fact 16 (f := .glo "step_rows") rfl)) F31 (fun _ _ _ _ _ _ us hl => match us, hl with | [_, _, _], _ => rfl)
  obtain ⟨fd32, F32⟩ := c.t.d.def_ 17 (d := dd17) rfl
  have F32 : FunT G 32 "renumbered" ["rows"] := funT_of (He.glo_ok X Gn (c.t.d.fact 17 (f := .glo "renumbered") rfl)) F32 (fun _ _ _ _ _ _ us hl => match us, hl with | [_], _ => rfl)
  obtain ⟨fd33, F33⟩ := c.t.d.def_ 18 (d := dd18) rfl
  have F33 : FunT G 33 "classes_of" ["rows"] := funT_of (He.glo_ok X Gn (c.t.d.fact 18 (f := .glo "classes_of") rfl)) F33 (fun _ _ _ _ _ _ us hl => match us, hl with | [_], _ => rfl)
  obtain ⟨fd34, F34⟩ := c.t.d.def_ 19 (d := dd19) rfl
  have F34 : FunT G 34 "least_rows" ["rows"] := funT_of (He.glo_ok X Gn (c.t.d.fact 19 (f := .glo "least_rows") rfl)) F34 (fun _ _ _ _ _ _ us hl => match us, hl with | [_], _ => rfl)
  obtain ⟨fd35, F35⟩ := c.t.d.def_ 20 (d := dd20) rfl
  have F35 : FunT G 35 "machine_by" ["beats", "begin", "step"] := funT_of (He.glo_ok X Gn (c.t.d.fact 20 (f := .glo "machine_by") rfl)) F35 (fun _ _ _ _ _ _ us hl => match us, hl with | [_, _, _], _ => rfl)
  obtain ⟨fd36, F36⟩ := c.t.d.def_ 21 (d := dd21) rfl
  have F36 : FunL G 36 "watcher_by" ["letters", "sentence"] (He.cT K ("watcher_by", none)).1 (He.cT K ("watcher_by", none)).2 := funL_of (G := G) (x := "watcher_by") (He.glo_ok X Gn (c.t.d.fact 21 (f := .glo "watcher_by") rfl)) F36 (fun _ _ _ _ _ _ us hl => match us, hl with | [_, _], _ => rfl) (hTB _ (List.mem_cons_self)) (List.mem_cons_self) (fun p hp e => by rcases List.mem_cons.mp hp with rfl | hp; rfl; rw [List.mem_singleton.mp hp] at e; exact absurd e.symm x3)
  obtain ⟨fd37, F37⟩ := c.t.d.def_ 22 (d := dd22) rfl
  have F37 : FunT G 37 "many_of" ["watchers"] := funT_of (He.glo_ok X Gn (c.t.d.fact 22 (f := .glo "many_of") rfl)) F37 (fun _ _ _ _ _ _ us hl => match us, hl with | [_], _ => rfl)
  obtain ⟨fd38, F38⟩ := c.t.d.def_ 23 (d := dd23) rfl
  have F38 : FunL G 38 "joined_rows" ["letters", "watchers"] (He.cT K ("joined_rows", none)).1 (He.cT K ("joined_rows", none)).2 := funL_of (G := G) (x := "joined_rows") (He.glo_ok X Gn (c.t.d.fact 23 (f := .glo "joined_rows") rfl)) F38 (fun _ _ _ _ _ _ us hl => match us, hl with | [_, _], _ => rfl) (hTB _ (List.mem_cons_of_mem _ List.mem_cons_self)) (List.mem_cons_of_mem _ List.mem_cons_self) (fun p hp e => by rcases List.mem_cons.mp hp with rfl | hp; exact absurd e x3; rw [List.mem_singleton.mp hp])
  obtain ⟨fd39, F39⟩ := c.t.d.def_ 24 (d := dd24) rfl
  have F39 : FunT G 39 "together_by" ["letters", "sentences"] := funT_of (He.glo_ok X Gn (c.t.d.fact 24 (f := .glo "together_by") rfl)) F39 (fun _ _ _ _ _ _ us hl => match us, hl with | [_, _], _ => rfl)
  obtain ⟨fd46, F46⟩ := c.t.d.def_ 25 (d := dd25) rfl
  have F46 : FunT G 46 "is_range" ["letters", "thing"] := funT_of (He.glo_ok X Gn (c.t.d.fact 25 (f := .glo "is_range") rfl)) F46 (fun _ _ _ _ _ _ us hl => match us, hl with | [_, _], _ => rfl)
  obtain ⟨fd47, F47⟩ := c.t.d.def_ 26 (d := dd26) rfl
  have F47 : FunT G 47 "is_clause" ["letters", "thing"] := funT_of (He.glo_ok X Gn (c.t.d.fact 26 (f := .glo "is_clause") rfl)) F47 (fun _ _ _ _ _ _ us hl => match us, hl with | [_, _], _ => rfl)
  obtain ⟨fd48, F48⟩ := c.t.d.def_ 27 (d := dd27) rfl
  have F48 : FunT G 48 "are_clauses" ["letters", "thing"] := funT_of (He.glo_ok X Gn (c.t.d.fact 27 (f := .glo "are_clauses") rfl)) F48 (fun _ _ _ _ _ _ us hl => match us, hl with | [_, _], _ => rfl)
  obtain ⟨fd49, F49⟩ := c.t.d.def_ 28 (d := dd28) rfl
  have F49 : FunT G 49 "is_standard" ["thing"] := funT_of (He.glo_ok X Gn (c.t.d.fact 28 (f := .glo "is_standard") rfl)) F49 (fun _ _ _ _ _ _ us hl => match us, hl with | [_], _ => rfl)
  obtain ⟨fd50, F50⟩ := c.t.d.def_ 29 (d := dd29) rfl
  have F50 : FunT G 50 "are_claims" ["thing"] := funT_of (He.glo_ok X Gn (c.t.d.fact 29 (f := .glo "are_claims") rfl)) F50 (fun _ _ _ _ _ _ us hl => match us, hl with | [_], _ => rfl)
  obtain ⟨fd51, F51⟩ := c.t.d.def_ 30 (d := dd30) rfl
  have F51 : FunT G 51 "need_standard" ["thing"] := funT_of (He.glo_ok X Gn (c.t.d.fact 30 (f := .glo "need_standard") rfl)) F51 (fun _ _ _ _ _ _ us hl => match us, hl with | [_], _ => rfl)
  obtain ⟨fd52, F52⟩ := c.t.d.def_ 31 (d := dd31) rfl
  have F52 : FunT G 52 "need_claims" ["thing"] := funT_of (He.glo_ok X Gn (c.t.d.fact 31 (f := .glo "need_claims") rfl)) F52 (fun _ _ _ _ _ _ us hl => match us, hl with | [_], _ => rfl)
  obtain ⟨fd53, F53⟩ := c.t.d.def_ 32 (d := dd32) rfl
  have F53 : FunT G 53 "need_claimed" ["standard", "claims"] := funT_of (He.glo_ok X Gn (c.t.d.fact 32 (f := .glo "need_claimed") rfl)) F53 (fun _ _ _ _ _ _ us hl => match us, hl with | [_, _], _ => rfl)
  obtain ⟨fd54, F54⟩ := c.t.d.def_ 33 (d := dd33) rfl
  have F54 : FunT G 54 "binding_by" ["standard", "claims"] := funT_of (He.glo_ok X Gn (c.t.d.fact 33 (f := .glo "binding_by") rfl)) F54 (fun _ _ _ _ _ _ us hl => match us, hl with | [_, _], _ => rfl)
  obtain ⟨fd55, F55⟩ := c.t.d.def_ 34 (d := dd34) rfl
  have F55 : FunT G 55 "sentences_by" ["standard", "claims"] := funT_of (He.glo_ok X Gn (c.t.d.fact 34 (f := .glo "sentences_by") rfl)) F55 (fun _ _ _ _ _ _ us hl => match us, hl with | [_, _], _ => rfl)
  obtain ⟨fd56, F56⟩ := c.t.d.def_ 35 (d := dd35) rfl
  have F56 : FunT G 56 "range_rows" ["standard"] := funT_of (He.glo_ok X Gn (c.t.d.fact 35 (f := .glo "range_rows") rfl)) F56 (fun _ _ _ _ _ _ us hl => match us, hl with | [_], _ => rfl)
  obtain ⟨fd60, F60⟩ := c.t.d.def_ 36 (d := dd36) rfl
  have F60 : FunT G 60 "game_of" ["standard", "claims"] := funT_of (He.glo_ok X Gn (c.t.d.fact 36 (f := .glo "game_of") rfl)) F60 (fun _ _ _ _ _ _ us hl => match us, hl with | [_, _], _ => rfl)
  obtain ⟨fd61, F61⟩ := c.t.d.def_ 37 (d := dd37) rfl
  have F61 : FunTK G (topS 61) "can_keep" ["standard", "claims"] 1 ["claims"] := funTK_of (He.glo_ok X Gn (c.t.d.fact 37 (f := .glo "can_keep") rfl)) F61 (fun z => by cases z) (fun _ _ _ _ _ _ us ws hl hl2 => match us, hl, ws, hl2 with | [_], _, [_], _ => rfl)
  obtain ⟨fd62, F62⟩ := c.t.d.def_ 38 (d := dd38) rfl
  have F62 : FunT G 62 "row_of" ["game", "pair", "number"] := funT_of (He.glo_ok X Gn (c.t.d.fact 38 (f := .glo "row_of") rfl)) F62 (fun _ _ _ _ _ _ us hl => match us, hl with | [_, _, _], _ => rfl)
  obtain ⟨fd63, F63⟩ := c.t.d.def_ 39 (d := dd39) rfl
  have F63 : FunTK G (topS 63) "made" ["standard", "claims"] 1 ["claims"] := funTK_of (He.glo_ok X Gn (c.t.d.fact 39 (f := .glo "made") rfl)) F63 (fun z => by cases z) (fun _ _ _ _ _ _ us ws hl hl2 => match us, hl, ws, hl2 with | [_], _, [_], _ => rfl)
  obtain ⟨fd64, F64⟩ := c.t.d.def_ 40 (d := dd40) rfl
  have F64 : FunTK G (topS 64) "asker" ["standard", "claims"] 1 ["claims"] := funTK_of (He.glo_ok X Gn (c.t.d.fact 40 (f := .glo "asker") rfl)) F64 (fun z => by cases z) (fun _ _ _ _ _ _ us ws hl hl2 => match us, hl, ws, hl2 with | [_], _, [_], _ => rfl)
  obtain ⟨fd65, F65⟩ := c.t.d.def_ 41 (d := dd41) rfl
  have F65 : FunT G 65 "least_break" ["game", "rows"] := funT_of (He.glo_ok X Gn (c.t.d.fact 41 (f := .glo "least_break") rfl)) F65 (fun _ _ _ _ _ _ us hl => match us, hl with | [_, _], _ => rfl)
  obtain ⟨fd66, F66⟩ := c.t.d.def_ 42 (d := dd42) rfl
  have F66 : FunTK G (topS 66) "news" ["standard", "number", "claims"] 2 ["claims"] := funTK_of (He.glo_ok X Gn (c.t.d.fact 42 (f := .glo "news") rfl)) F66 (fun z => by cases z) (fun _ _ _ _ _ _ us ws hl hl2 => match us, hl, ws, hl2 with | [_, _], _, [_], _ => rfl)
  obtain ⟨fd67, F67⟩ := c.t.d.def_ 43 (d := dd43) rfl
  have F67 : FunTK G (topS 67) "beyond" ["standard", "other", "claims"] 2 ["claims"] := funTK_of (He.glo_ok X Gn (c.t.d.fact 43 (f := .glo "beyond") rfl)) F67 (fun z => by cases z) (fun _ _ _ _ _ _ us ws hl hl2 => match us, hl, ws, hl2 with | [_, _], _, [_], _ => rfl)
  obtain ⟨fd69, F69⟩ := c.t.d.def_ 44 (d := dd44) rfl
  have F69 : FunT G 69 "_law_cell_at" ["_law_script", "_law_k"] := funT_of (He.glo_ok X Gn (c.t.d.fact 44 (f := .glo "_law_cell_at") rfl)) F69 (fun _ _ _ _ _ _ us hl => match us, hl with | [_, _], _ => rfl)
  obtain ⟨fd70, F70⟩ := c.t.d.def_ 45 (d := dd45) rfl
  have F70 : FunT G 70 "_law_state" ["_law_script", "_law_k"] := funT_of (He.glo_ok X Gn (c.t.d.fact 45 (f := .glo "_law_state") rfl)) F70 (fun _ _ _ _ _ _ us hl => match us, hl with | [_, _], _ => rfl)
  obtain ⟨fd71, F71⟩ := c.t.d.def_ 46 (d := dd46) rfl
  have F71 : FunT G 71 "_law_choice" ["_law_state_here", "_law_many"] := funT_of (He.glo_ok X Gn (c.t.d.fact 46 (f := .glo "_law_choice") rfl)) F71 (fun _ _ _ _ _ _ us hl => match us, hl with | [_, _], _ => rfl)
  obtain ⟨fd72, F72⟩ := c.t.d.def_ 47 (d := dd47) rfl
  have F72 : FunT G 72 "_law_letters" ["_law_state_here"] := funT_of (He.glo_ok X Gn (c.t.d.fact 47 (f := .glo "_law_letters") rfl)) F72 (fun _ _ _ _ _ _ us hl => match us, hl with | [_], _ => rfl)
  obtain ⟨fd73, F73⟩ := c.t.d.def_ 48 (d := dd48) rfl
  have F73 : FunT G 73 "_law_atom" ["_law_state_here", "_law_letters_here", "_law_plain"] := funT_of (He.glo_ok X Gn (c.t.d.fact 48 (f := .glo "_law_atom") rfl)) F73 (fun _ _ _ _ _ _ us hl => match us, hl with | [_, _, _], _ => rfl)
  obtain ⟨fd74, F74⟩ := c.t.d.def_ 49 (d := dd49) rfl
  have F74 : FunT G 74 "_law_saying" ["_law_state_here", "_law_letters_here", "_law_plain"] := funT_of (He.glo_ok X Gn (c.t.d.fact 49 (f := .glo "_law_saying") rfl)) F74 (fun _ _ _ _ _ _ us hl => match us, hl with | [_, _, _], _ => rfl)
  obtain ⟨fd75, F75⟩ := c.t.d.def_ 50 (d := dd50) rfl
  have F75 : FunT G 75 "_law_sentence" ["_law_state_here", "_law_letters_here", "_law_great", "_law_plain"] := funT_of (He.glo_ok X Gn (c.t.d.fact 50 (f := .glo "_law_sentence") rfl)) F75 (fun _ _ _ _ _ _ us hl => match us, hl with | [_, _, _, _], _ => rfl)
  obtain ⟨fd76, F76⟩ := c.t.d.def_ 51 (d := dd51) rfl
  have F76 : FunT G 76 "_law_size" ["_law_sentence_here"] := funT_of (He.glo_ok X Gn (c.t.d.fact 51 (f := .glo "_law_size") rfl)) F76 (fun _ _ _ _ _ _ us hl => match us, hl with | [_], _ => rfl)
  obtain ⟨fd77, F77⟩ := c.t.d.def_ 52 (d := dd52) rfl
  have F77 : FunT G 77 "_law_clauses" ["_law_state_here", "_law_letters_here", "_law_most"] := funT_of (He.glo_ok X Gn (c.t.d.fact 52 (f := .glo "_law_clauses") rfl)) F77 (fun _ _ _ _ _ _ us hl => match us, hl with | [_, _, _], _ => rfl)
  obtain ⟨fd78, F78⟩ := c.t.d.def_ 53 (d := dd53) rfl
  have F78 : FunT G 78 "_law_standard" ["_law_state_here", "_law_most"] := funT_of (He.glo_ok X Gn (c.t.d.fact 53 (f := .glo "_law_standard") rfl)) F78 (fun _ _ _ _ _ _ us hl => match us, hl with | [_, _], _ => rfl)
  obtain ⟨fd79, F79⟩ := c.t.d.def_ 54 (d := dd54) rfl
  have F79 : FunT G 79 "_law_claims" ["_law_state_here"] := funT_of (He.glo_ok X Gn (c.t.d.fact 54 (f := .glo "_law_claims") rfl)) F79 (fun _ _ _ _ _ _ us hl => match us, hl with | [_], _ => rfl)
  obtain ⟨fd80, F80⟩ := c.t.d.def_ 55 (d := dd55) rfl
  have F80 : FunT G 80 "_law_told" ["_law_standard_here", "_law_owns"] := funT_of (He.glo_ok X Gn (c.t.d.fact 55 (f := .glo "_law_told") rfl)) F80 (fun _ _ _ _ _ _ us hl => match us, hl with | [_, _], _ => rfl)
  obtain ⟨fd81, F81⟩ := c.t.d.def_ 56 (d := dd56) rfl
  have F81 : FunT G 81 "_law_parted" ["_law_state_here", "_law_standard_here"] := funT_of (He.glo_ok X Gn (c.t.d.fact 56 (f := .glo "_law_parted") rfl)) F81 (fun _ _ _ _ _ _ us hl => match us, hl with | [_, _], _ => rfl)
  obtain ⟨fd82, F82⟩ := c.t.d.def_ 57 (d := dd57) rfl
  have F82 : FunT G 82 "_law_numbered" ["_law_standard_here"] := funT_of (He.glo_ok X Gn (c.t.d.fact 57 (f := .glo "_law_numbered") rfl)) F82 (fun _ _ _ _ _ _ us hl => match us, hl with | [_], _ => rfl)
  obtain ⟨fd83, F83⟩ := c.t.d.def_ 58 (d := dd58) rfl
  have F83 : FunT G 83 "_law_written_out" ["_law_standard_here", "_law_owns"] := funT_of (He.glo_ok X Gn (c.t.d.fact 58 (f := .glo "_law_written_out") rfl)) F83 (fun _ _ _ _ _ _ us hl => match us, hl with | [_, _], _ => rfl)
  obtain ⟨fdI, FI⟩ := c.t.d.def_ 60 (d := dd60) rfl
  obtain ⟨fm1, M1⟩ := c.t.d.def_ 61 (d := dd61) rfl
  have M1 : MethT G (He.ga K "Game") 1 "at" ["self", "given", "told"] := methT_of (He.meth_ok (c.t.d.fact 88 (f := .meth "Game" "at") rfl)) M1 (fun _ _ _ _ _ _ us hl => match us, hl with | [_, _, _], _ => rfl)
  obtain ⟨fm2, M2⟩ := c.t.d.def_ 62 (d := dd62) rfl
  have M2 : MethT G (He.ga K "Game") 2 "asked" ["self", "pair", "given"] := methT_of (He.meth_ok (c.t.d.fact 89 (f := .meth "Game" "asked") rfl)) M2 (fun _ _ _ _ _ _ us hl => match us, hl with | [_, _, _], _ => rfl)
  obtain ⟨fm3, M3⟩ := c.t.d.def_ 63 (d := dd63) rfl
  have M3 : MethT G (He.ga K "Game") 3 "behind" ["self", "pair", "given"] := methT_of (He.meth_ok (c.t.d.fact 90 (f := .meth "Game" "behind") rfl)) M3 (fun _ _ _ _ _ _ us hl => match us, hl with | [_, _, _], _ => rfl)
  obtain ⟨fm4, M4⟩ := c.t.d.def_ 64 (d := dd64) rfl
  have M4 : MethT G (He.ga K "Game") 4 "ins_at" ["self", "pair"] := methT_of (He.meth_ok (c.t.d.fact 91 (f := .meth "Game" "ins_at") rfl)) M4 (fun _ _ _ _ _ _ us hl => match us, hl with | [_, _], _ => rfl)
  obtain ⟨fm5, M5⟩ := c.t.d.def_ 65 (d := dd65) rfl
  have M5 : MethT G (He.ga K "Game") 5 "met" ["self"] := methT_of (He.meth_ok (c.t.d.fact 92 (f := .meth "Game" "met") rfl)) M5 (fun _ _ _ _ _ _ us hl => match us, hl with | [_], _ => rfl)
  obtain ⟨fm6, M6⟩ := c.t.d.def_ 66 (d := dd66) rfl
  have M6 : MethT G (He.ga K "Game") 6 "kept_beats" ["self", "pair"] := methT_of (He.meth_ok (c.t.d.fact 93 (f := .meth "Game" "kept_beats") rfl)) M6 (fun _ _ _ _ _ _ us hl => match us, hl with | [_, _], _ => rfl)
  obtain ⟨fm7, M7⟩ := c.t.d.def_ 67 (d := dd67) rfl
  have M7 : MethT G (He.ga K "Game") 7 "losing_in" ["self", "pair"] := methT_of (He.meth_ok (c.t.d.fact 94 (f := .meth "Game" "losing_in") rfl)) M7 (fun _ _ _ _ _ _ us hl => match us, hl with | [_, _], _ => rfl)
  obtain ⟨fm8, M8⟩ := c.t.d.def_ 68 (d := dd68) rfl
  have M8 : MethT G (He.ga K "Game") 8 "settle" ["self"] := methT_of (He.meth_ok (c.t.d.fact 95 (f := .meth "Game" "settle") rfl)) M8 (fun _ _ _ _ _ _ us hl => match us, hl with | [_], _ => rfl)
  obtain ⟨fm9, M9⟩ := c.t.d.def_ 69 (d := dd69) rfl
  have M9 : MethT G (He.ga K "Game") 9 "is_kept" ["self", "pair"] := methT_of (He.meth_ok (c.t.d.fact 96 (f := .meth "Game" "is_kept") rfl)) M9 (fun _ _ _ _ _ _ us hl => match us, hl with | [_, _], _ => rfl)
  have d8 := fn_is_whole B F8
  have d9 := fn_is_within B F9 d8
  have d10 := fn_is_word B Q F10
  have d11 := fn_rises B F11
  have d15 := fn_are_words B Q F15 d10
  have d16 := fn_is_letters B F16 d15
  have d17 := fn_beats F17
  have d18 := fn_saying B F18 4
  have d19 := fn_so B F19 4
  have d20 := fn_speaks B F20 4
  have d24 := fn_sentence B Q F24 d18 d9
  have d25 := fn_of_ins B Q F25 d20
  have d26 := fn_within F26 d19
  have d27 := fn_counted B F27 d19
  have d28 := fn_marked B F28 d19
  have d29 := fn_step F29 d19 d26 d27 d28
  have d31 := fn_step_rows B F31
  have d32 := fn_renumbered B F32
  have d33 := fn_classes B F33
  have d34 := fn_least B F34 d33 d32
  have d36 := fn_watcher B F36 F35 d34 d17 d29
  have d37 := fn_many B F37
  have d38 := fn_joined B F38 F35 d34 d17 d31
  have d39 := fn_together F39 d36 d38
  have d46 := fn_is_range B Q F46 d24 d25 d36 d37
  have d47 := fn_is_clause B Q F47 d24 d9 d10
  have d48 := fn_are_clauses B Q F48 d47 d11 d36 d37
  have d49 := fn_is_standard B F49 d16 d46 d48
  have d50 := fn_are_claims B F50 d10 d11
  have d51 := fn_need_s F51 d49
  have d52 := fn_need_c F52 d50
  have d53 := fn_need_cd F53 d51 d52
  have d54 := fn_binding B F54
  have d55 := fn_sentences F55
  have d56 := fn_range_rows F56 d39
  have m1 := fn_at B Kc M1
  have m2 := fn_asked B Kc M2 m1
  have m3 := fn_behind B Kc M3 m1 m2
  have m4 := fn_ins_at B Kc M4 m2
  have m5 := fn_met B Q Kc M5 m3 m4
  have m9 := fn_is_kept Kc M9
  have m6 := fn_kept B Kc M6 m1 m3 m4 m9
  have m7 := fn_losing B Kc M7 m3 m4
  have m8 := fn_settle B Kc M8 m5 m7
  have mkr : MkM G 12 "Game" (He.ga K "Game") ["self", "standard", "sentences"] (RInit G (He.ga K "Game")) := ⟨⟨_, fdI, He.mkr_ok (c.t.d.fact 87 (f := .mkr "Game") rfl), FI.bindsN (ps := ["self", "standard", "sentences"]) (fun _ _ _ _ _ _ us hl => match us, hl with | [_, _, _], _ => rfl), fn_init Kc (fun_of FI) d56 d39 m8⟩, (He.glo_ok X Gn (c.t.d.fact 60 (f := .glo "Game") rfl))⟩
  have d60 := fn_game_of F60 d55 mkr
  have d61 := fn_can_keep Q Kc F61 d53 d60 m9
  have d62 := fn_row_of B Kc F62 m3 m2 m9
  have d63 := fn_made B Q Kc F63 d53 d60 m9 d62
  have d64 := fn_asker B Q Kc F64 d53 d60 m9 m3
  have d65 := fn_least_break B Q Kc F65 d17 m6 m9
  have d66 := fn_news B F66 d53 mkr d8 d54 d65 d36
  have d67 := fn_beyond F67 d51 d52 d56 d60 d65 d39 d55
  have d69 := fn_cell_at B F69
  have d70 := fn_lstate B F70 d69
  have d71 := fn_choice F71
  have d72 := fn_letters F72 d71
  have d73 := fn_atom B F73 d71
  have d74 := fn_lsaying B F74 d71 d73
  have d75 := fn_lsen B F75 d71 d74
  have d76 := fn_lsize B F76
  have d77 := fn_lcl B F77 d71 d75 d76
  have d78 := fn_lstd F78 d71 d72 d75 d76 d77
  have d79 := fn_claims F79 d71
  have d80 := fn_told F80 d61 d63 d64
  have d81 := fn_parted F81 d73
  have d82 := fn_numbered B F82
  have d83 := fn_written B F83
  have L := fn_law (G := G) B (fun_of FL) d70 d78 d79 d80 d81 d82 d83 d61 d49 d67 d66
  refine L.imp fun vs H Q' E hsp => ?_
  obtain ⟨ht, a, ns, hl, rfl, hS, hq⟩ := hsp
  refine ⟨ht, H, [dat (.list (ns.map PyData.int))], dat (.bool true), Ext.refl _, ⟨ns, hl, rfl, rfl⟩, .cons (.lst hS (dpa_ints ns)) .nil, fun v B' H' _ _ _ _ _ y => ?_⟩
  have y : Dp K B' v (.bool true) := y
  cases y
  exact hq H'
theorem law_at {fa : Addr} (X : K.In h) (Gn : h.Ns mainGlobals mg) (c : He.SaysX fas fns tabs tfs exB w h K) (hfa : mg ("law" : Str) = some (.ref fa)) : LamX.LawAtS PySem.Challenge.rw_madetorule_k82_whole_clauses_parted_and w K CX0 17 63 "_law_script" mg fa h := by
  obtain ⟨fdl, FL⟩ := c.t.d.def_ 59 (d := dd59) rfl
  have e := hfa.symm.trans (He.glo_ok X Gn (c.t.d.fact 59 (f := .glo "law") rfl))
  cases e
  have FL : FunD K "law" "law" (defArgs (topS 84)) (defBody (topS 84)) (defScope (topS 84)) [] [] (He.ga K "law") fdl := FL
  have hb := FunD.bindsA (ps := ["_law_script"]) FL fun _ _ _ _ _ _ us hl => match us, hl with | [_], _ => rfl
  have mem : ∀ p ∈ [He.cT K ("watcher_by", none), He.cT K ("joined_rows", none)], ∃ q ∈ tfs, p = He.cT K q := fun p hp => by
    rcases List.mem_cons.mp hp with rfl | hp
    · exact ⟨_, List.mem_cons_self, rfl⟩
    · rw [List.mem_singleton.mp hp]
      exact ⟨_, List.mem_cons_of_mem _ List.mem_cons_self, rfl⟩
  refine ⟨fdl, [He.cT K ("watcher_by", none), He.cT K ("joined_rows", none)], spLaw K (tblT K), fun p hp => ?_, fun p hp => ?_, fun p hp => ?_, fun s u => hb s [u] rfl, fun H a ns hl _ hH hS => ⟨fun p hp => ?_, a, ns, hl, rfl, hS, fun _ => rfl⟩, fun base _ _ hTB => law_ok X Gn c FL hTB⟩
  · obtain ⟨q, hq, rfl⟩ := mem p hp
    exact c.empty q hq
  · obtain ⟨q, hq, rfl⟩ := mem p hp
    exact c.out q hq
  · obtain ⟨q, hq, rfl⟩ := mem p hp
    exact PySem.W.codeHd_of_K X (c.hd q hq)
  · rcases List.mem_cons.mp hp with rfl | hp
    · exact ⟨#[], hH _ List.mem_cons_self, trivial, fun pos cv z => by cases z⟩
    · rw [List.mem_singleton.mp hp]
      exact ⟨#[], hH _ (List.mem_cons_of_mem _ List.mem_cons_self), trivial, fun pos cv z => by cases z⟩
end
end MR
open PySem PySem.W PySem.Calls PyProof.Rows
theorem PySem.Challenge.cw_madetorule_k82_whole_clauses_parted_and_holds : PySem.Challenge.rw_madetorule_k82_whole_clauses_parted_and.Holds := by
  w_on; o_law
  refine HandSHeadRun.head_any (r := MR.theRow) (q := MR.qv) (H := MR.hk) (ob := MR.ob) (M := 6000) (loose := MR.nms) (d := HandSHeadRun.topDef (OpenLaw.row PySem.Challenge.rw_madetorule_k82_whole_clauses_parted_and).prog 84) (kwd := []) MR.ob_eq
    (by kernel_rfl) (fun s => by kernel_rfl) MR.run (by kernel_rfl) (by kernel_rfl) (by kernel_rfl) (by rfl) (by first | assumption | decide +kernel) (by decide +kernel) ⟨rfl, rfl, rfl, rfl, rfl, by decide +kernel⟩ ?hw ?hc
  case hw => w_witness2
  case hc =>
    refine LamX.walk_ofTsE (l := PySem.Challenge.rw_madetorule_k82_whole_clauses_parted_and) (n := 63) (k := 17) (x := "_law_script") (CX := fun _ => L2.CX0) rfl (by decide) (by kernel_rfl) ⟨rfl, by decide, by decide⟩ ?F (fun _ _ _ _ _ z => z)
    intro w mg fa h Y G hmg0
    obtain ⟨K, KX, c⟩ := Y
    have hmg : mg ("law" : PySem.Str) = some (.ref fa) := by
      have e : (HandSHeadRun.topDef (OpenLaw.row PySem.Challenge.rw_madetorule_k82_whole_clauses_parted_and).prog 84).name = ("law" : PySem.Str) := by kernel_rfl
      rw [← e]
      exact hmg0
    exact ⟨K, KX, MR.law_at KX G c hmg⟩
