import PyProof.Rows.All
import Wide.All
import OpenK.AllK
import Wide.FinOn
import HandS.ForMost
import HandS.ForExc
import HandS.CallSlots
import HandS.HeadHook1
import HandS.HeadHook2
import HandS.Lambda
import HandS.HotCalls
import HandS.Defaults
import HandS.IsInst
import HandS.StrMore
import HandS.Style
import HandS.RaiseMore
import HandS.Iter
import KE.GoesMore
import HandS.TryOnly
import HandS.Text
import HandS.More
import HandS.StrSplit
import KE.DatumIndex
import HandS.Ends
import HandS.EndBits
import HandS.Head0
import HandS.Head1
import HandS.Head2
import HandS.HeadHook3
import HandS.HeadHook4
import KE.KItemsList
import HandS.ListItems
import KE.GoesEnum
import KE.KIntText
import KE.IntTextLaws
import PyProof.StrLawsTight
import PyProof.StrLawsOccR
import PyProof.StrLawsLast
import PyProof.StrLawsChain
import HandS.ExcCtx
import HandS.ExcIs
import HandS.ExcBuiltin
import HandS.Hot
import PyProof.ZipIter
import PyProof.StrOps2
import HandS.Small
import HandS.WideBits
import PyProof.NoPylong
import HandS.SortInts
import HandS.Set
import HandS.SetFor
import PyProof.Rows.SetFrom
import HandS.Strs
import HandS.Codes
import HandS.TupSets
import HandS.Conv
import KE.KEqDict
import HandS.DictComp
import HandS.SortKw
import HandS.Keys
import KE.KSortKeySt
import HandS.EndTab
import HandS.NestedK
import KE.DataMinMax
import PyProof.Rows.AssignMoreSeq
import HandS.Nested
import KE.KMinKey
import KE.DataCmp
import HandS.SortRule
import HandS.DeepEq
import PyProof.NeKinds
import PyProof.EqAt
import PyProof.MeetsIn
import HandS.ListEq
import KE.KDictCopyH
import HandS.TryMany
import KE.KExcRaise
import HandS.Deep
import KE.GoesRaise
import PyProof.FString5
import PySem.Challenge.RW_cleanrows_k24_whole_spoilt_texts_of_file
set_option Elab.async false
set_option linter.all false
set_option maxRecDepth 100000
set_option maxHeartbeats 0
namespace Fw
open PySem PySem.Spec PyProof.Rows L2
def noLst (K : PySem.W.Frag) : Bool := K.all fun p => match p.2.cls with
  | .type n => !(decide (n = "list"))
  | _ => true
def isSub (x y : Str) : Bool := x == y || y == ("CleanError" : Str) || y == ("ValueError" : Str)
def clsV (K : PySem.W.Frag) (y : Str) : Value := if y == ("ValueError" : Str) then .type "ValueError" else .ref (He.ga K y)
def excCB (K : PySem.W.Frag) (x : Str) : Bool :=
  He.eqO (PySem.W.findIn K (.ref (He.ga K x)) "__getattribute__") (some (some (.builtin "BaseException.__getattribute__"))) &&
  (He.eqO (PySem.W.findIn K (.ref (He.ga K x)) "__getattr__") (some none) &&
  (decide (PySem.W.subIn K (.ref (He.ga K x)) (.type "BaseException") = some true) &&
  (PySem.W.hasDictIn K (He.ga K x) &&
  (He.eqO (PySem.W.findIn K (.ref (He.ga K x)) "__class__") (some (some (.builtin "object.__class__"))) &&
  (He.eqO (PySem.W.specialIn K (.builtin "object.__class__") "__get__") (some (some (.builtin "getset_descriptor.__get__"))) &&
  (decide (PySem.W.takesIn K (.builtin "object.__class__") = some true) && decide (PySem.W.mroIn K (He.ga K x) (.type "object") = some true)))))))
def excB (L Cs Is : List Str) (K : PySem.W.Frag) : Bool := L.all fun x => (He.Fa.exc x).ok K && (excCB K x && ((Cs.all fun y => decide (PySem.W.exmOne K (.ref (He.ga K x)) (clsV K y) = some (isSub x y))) &&
  Is.all fun y => decide (PySem.W.kitOne K (.ref (He.ga K x)) (clsV K y) = some (isSub x y))))
end Fw
namespace Ww
open PySem PySem.Spec PyProof.Rows L2 Fw
def top (i : Nat) : Stmt := PySem.Challenge.pw_cleanrows_k24_whole_spoilt_texts_of_file.main.body.getD i (.Pass ⟨0, 0, 0, 0⟩)
def clsB : Stmt → List Stmt
  | .ClassDef _ _ _ b _ _ _ _ _ _ _ => b
  | _ => []
def inCls (s : Stmt) (j : Nat) : Stmt := (clsB s).getD j (.Pass ⟨0, 0, 0, 0⟩)
def exL : List Str := ["NoFiles", "NoFile", "NoPlace", "HeldAlready", "NotHeld"]
def exC : List Str := ["CleanError"]
def exI : List Str := ["Full", "Gone", "HeldAlready", "NoDeed", "NoDisk", "NoFile", "NoFiles", "NoHouse", "NoMark", "NoPlace", "NoRoom", "NoRow", "NotBlank", "NotClosed", "NotHeld", "Stopped", "ValueError"]
abbrev s__law_at : Stmt := top 37
def d__law_at : He.DefD := ⟨("_law_at", none), "_law_at", "_law_at", defArgs s__law_at, defBody s__law_at, defScope s__law_at, [], []⟩
abbrev s__law_pot : Stmt := top 38
def d__law_pot : He.DefD := ⟨("_law_pot", none), "_law_pot", "_law_pot", defArgs s__law_pot, defBody s__law_pot, defScope s__law_pot, [], []⟩
abbrev s__law_take : Stmt := top 39
def d__law_take : He.DefD := ⟨("_law_take", none), "_law_take", "_law_take", defArgs s__law_take, defBody s__law_take, defScope s__law_take, [], []⟩
abbrev s__law_drawn : Stmt := top 40
def d__law_drawn : He.DefD := ⟨("_law_drawn", none), "_law_drawn", "_law_drawn", defArgs s__law_drawn, defBody s__law_drawn, defScope s__law_drawn, [], []⟩
abbrev s__law_name : Stmt := top 41
def d__law_name : He.DefD := ⟨("_law_name", none), "_law_name", "_law_name", defArgs s__law_name, defBody s__law_name, defScope s__law_name, [], []⟩
abbrev s__law_names : Stmt := top 42
def d__law_names : He.DefD := ⟨("_law_names", none), "_law_names", "_law_names", defArgs s__law_names, defBody s__law_names, defScope s__law_names, [], []⟩
abbrev s__law_birth : Stmt := top 43
def d__law_birth : He.DefD := ⟨("_law_birth", none), "_law_birth", "_law_birth", defArgs s__law_birth, defBody s__law_birth, defScope s__law_birth, [], []⟩
abbrev s__law_model : Stmt := top 44
def d__law_model : He.DefD := ⟨("_law_model", none), "_law_model", "_law_model", defArgs s__law_model, defBody s__law_model, defScope s__law_model, [], []⟩
abbrev s__law_models : Stmt := top 45
def d__law_models : He.DefD := ⟨("_law_models", none), "_law_models", "_law_models", defArgs s__law_models, defBody s__law_models, defScope s__law_models, [], []⟩
abbrev s__law_words : Stmt := top 46
def d__law_words : He.DefD := ⟨("_law_words", none), "_law_words", "_law_words", defArgs s__law_words, defBody s__law_words, defScope s__law_words, [], []⟩
abbrev s__law_text : Stmt := top 47
def d__law_text : He.DefD := ⟨("_law_text", none), "_law_text", "_law_text", defArgs s__law_text, defBody s__law_text, defScope s__law_text, [], []⟩
abbrev s__law_is_number : Stmt := top 48
def d__law_is_number : He.DefD := ⟨("_law_is_number", none), "_law_is_number", "_law_is_number", defArgs s__law_is_number, defBody s__law_is_number, defScope s__law_is_number, [], []⟩
abbrev s__law_other_word : Stmt := top 49
def d__law_other_word : He.DefD := ⟨("_law_other_word", none), "_law_other_word", "_law_other_word", defArgs s__law_other_word, defBody s__law_other_word, defScope s__law_other_word, [], []⟩
abbrev s__law_spoilt : Stmt := top 50
def d__law_spoilt : He.DefD := ⟨("_law_spoilt", none), "_law_spoilt", "_law_spoilt", defArgs s__law_spoilt, defBody s__law_spoilt, defScope s__law_spoilt, [], []⟩
abbrev s__law_is_name : Stmt := top 51
def d__law_is_name : He.DefD := ⟨("_law_is_name", none), "_law_is_name", "_law_is_name", defArgs s__law_is_name, defBody s__law_is_name, defScope s__law_is_name, [], []⟩
abbrev s__law_model_in : Stmt := top 52
def d__law_model_in : He.DefD := ⟨("_law_model_in", none), "_law_model_in", "_law_model_in", defArgs s__law_model_in, defBody s__law_model_in, defScope s__law_model_in, [], []⟩
abbrev s__law_kept_in : Stmt := top 53
def d__law_kept_in : He.DefD := ⟨("_law_kept_in", none), "_law_kept_in", "_law_kept_in", defArgs s__law_kept_in, defBody s__law_kept_in, defScope s__law_kept_in, [], []⟩
abbrev s__law_due : Stmt := top 54
def d__law_due : He.DefD := ⟨("_law_due", none), "_law_due", "_law_due", defArgs s__law_due, defBody s__law_due, defScope s__law_due, [], []⟩
abbrev s_FilesReader_next_word : Stmt := inCls (top 32) 1
def d_FilesReader_next_word : He.DefD := ⟨("FilesReader", some "next_word"), "next_word", "FilesReader.next_word", defArgs s_FilesReader_next_word, defBody s_FilesReader_next_word, defScope s_FilesReader_next_word, [], []⟩
abbrev s_is_made_of : Stmt := top 26
def d_is_made_of : He.DefD := ⟨("is_made_of", none), "is_made_of", "is_made_of", defArgs s_is_made_of, defBody s_is_made_of, defScope s_is_made_of, [], []⟩
abbrev s_is_number : Stmt := top 28
def d_is_number : He.DefD := ⟨("is_number", none), "is_number", "is_number", defArgs s_is_number, defBody s_is_number, defScope s_is_number, [], []⟩
abbrev s_FilesReader_number : Stmt := inCls (top 32) 2
def d_FilesReader_number : He.DefD := ⟨("FilesReader", some "number"), "number", "FilesReader.number", defArgs s_FilesReader_number, defBody s_FilesReader_number, defScope s_FilesReader_number, [], []⟩
abbrev s_is_name : Stmt := top 27
def d_is_name : He.DefD := ⟨("is_name", none), "is_name", "is_name", defArgs s_is_name, defBody s_is_name, defScope s_is_name, [], []⟩
abbrev s_FilesReader_name : Stmt := inCls (top 32) 3
def d_FilesReader_name : He.DefD := ⟨("FilesReader", some "name"), "name", "FilesReader.name", defArgs s_FilesReader_name, defBody s_FilesReader_name, defScope s_FilesReader_name, [], []⟩
abbrev s_FilesReader_files_told : Stmt := inCls (top 32) 4
def d_FilesReader_files_told : He.DefD := ⟨("FilesReader", some "files_told"), "files_told", "FilesReader.files_told", defArgs s_FilesReader_files_told, defBody s_FilesReader_files_told, defScope s_FilesReader_files_told, [], []⟩
abbrev s_Files___init__ : Stmt := inCls (top 20) 0
def d_Files___init__ : He.DefD := ⟨("Files", some "__init__"), "__init__", "Files.__init__", defArgs s_Files___init__, defBody s_Files___init__, defScope s_Files___init__, [], []⟩
abbrev s_Files_names : Stmt := inCls (top 20) 1
def d_Files_names : He.DefD := ⟨("Files", some "names"), "names", "Files.names", defArgs s_Files_names, defBody s_Files_names, defScope s_Files_names, [], []⟩
abbrev s_Files_births_of : Stmt := inCls (top 20) 2
def d_Files_births_of : He.DefD := ⟨("Files", some "births_of"), "births_of", "Files.births_of", defArgs s_Files_births_of, defBody s_Files_births_of, defScope s_Files_births_of, [], []⟩
abbrev s_Files_cut : Stmt := inCls (top 20) 6
def d_Files_cut : He.DefD := ⟨("Files", some "cut"), "cut", "Files.cut", defArgs s_Files_cut, defBody s_Files_cut, defScope s_Files_cut, [], []⟩
abbrev s_Files_put : Stmt := inCls (top 20) 5
def d_Files_put : He.DefD := ⟨("Files", some "put"), "put", "Files.put", defArgs s_Files_put, defBody s_Files_put, defScope s_Files_put, [], []⟩
abbrev s_files_with : Stmt := top 33
def d_files_with : He.DefD := ⟨("files_with", none), "files_with", "files_with", defArgs s_files_with, defBody s_files_with, defScope s_files_with, [], []⟩
abbrev s_Files_held : Stmt := inCls (top 20) 10
def d_Files_held : He.DefD := ⟨("Files", some "held"), "held", "Files.held", defArgs s_Files_held, defBody s_Files_held, defScope s_Files_held, [], []⟩
abbrev s_Files_hold : Stmt := inCls (top 20) 7
def d_Files_hold : He.DefD := ⟨("Files", some "hold"), "hold", "Files.hold", defArgs s_Files_hold, defBody s_Files_hold, defScope s_Files_hold, [], []⟩
abbrev s_files_read : Stmt := top 34
def d_files_read : He.DefD := ⟨("files_read", none), "files_read", "files_read", defArgs s_files_read, defBody s_files_read, defScope s_files_read, [], []⟩
abbrev s_FilesReader___init__ : Stmt := inCls (top 32) 0
def d_FilesReader___init__ : He.DefD := ⟨("FilesReader", some "__init__"), "__init__", "FilesReader.__init__", defArgs s_FilesReader___init__, defBody s_FilesReader___init__, defScope s_FilesReader___init__, [], []⟩
abbrev s_Files_many : Stmt := inCls (top 20) 3
def d_Files_many : He.DefD := ⟨("Files", some "many"), "many", "Files.many", defArgs s_Files_many, defBody s_Files_many, defScope s_Files_many, [], []⟩
abbrev s_Files_birth : Stmt := inCls (top 20) 4
def d_Files_birth : He.DefD := ⟨("Files", some "birth"), "birth", "Files.birth", defArgs s_Files_birth, defBody s_Files_birth, defScope s_Files_birth, [], []⟩
abbrev s_files_words : Stmt := top 30
def d_files_words : He.DefD := ⟨("files_words", none), "files_words", "files_words", defArgs s_files_words, defBody s_files_words, defScope s_files_words, [], []⟩
abbrev s_Files_want_held : Stmt := inCls (top 20) 8
def d_Files_want_held : He.DefD := ⟨("Files", some "want_held"), "want_held", "Files.want_held", defArgs s_Files_want_held, defBody s_Files_want_held, defScope s_Files_want_held, [], []⟩
abbrev s_Files_of_held : Stmt := inCls (top 20) 11
def d_Files_of_held : He.DefD := ⟨("Files", some "of_held"), "of_held", "Files.of_held", defArgs s_Files_of_held, defBody s_Files_of_held, defScope s_Files_of_held, [], []⟩
abbrev s_files_text : Stmt := top 31
def d_files_text : He.DefD := ⟨("files_text", none), "files_text", "files_text", defArgs s_files_text, defBody s_files_text, defScope s_files_text, [], []⟩
abbrev s_read_files : Stmt := top 35
def d_read_files : He.DefD := ⟨("read_files", none), "read_files", "read_files", defArgs s_read_files, defBody s_read_files, defScope s_read_files, [], []⟩
abbrev s__law_rows : Stmt := top 55
def d__law_rows : He.DefD := ⟨("_law_rows", none), "_law_rows", "_law_rows", defArgs s__law_rows, defBody s__law_rows, defScope s__law_rows, [], []⟩
abbrev s__law_refusal : Stmt := top 56
def d__law_refusal : He.DefD := ⟨("_law_refusal", none), "_law_refusal", "_law_refusal", defArgs s__law_refusal, defBody s__law_refusal, defScope s__law_refusal, [], []⟩
abbrev s__law_told : Stmt := top 57
def d__law_told : He.DefD := ⟨("_law_told", none), "_law_told", "_law_told", defArgs s__law_told, defBody s__law_told, defScope s__law_told, [], []⟩
abbrev s_law : Stmt := top 58
def d_law : He.DefD := ⟨("law", none), "law", "law", defArgs s_law, defBody s_law, defScope s_law, [], []⟩
def fa : List He.Fa := [.free "len", .free "min", .free "max", .free "range", .glo "_law_at", .glo "_law_pot", .free "divmod", .glo "_law_take", .glo "_law_drawn", .glo "_law_name", .glo "_law_names", .glo "_law_birth", .glo "_law_model", .glo "_law_models", .free "str", .free "sorted", .glo "_law_words", .glo "_law_text", .glo "_law_is_number", .free "int", .glo "_law_other_word", .glo "_law_spoilt", .free "isinstance", .glo "_law_is_name", .free "all", .glo "_law_model_in", .glo "_law_kept_in", .glo "_law_due", .glo "NoFiles", .cls "FilesReader", .noat "FilesReader" "at", .noat "FilesReader" "words", .meth "FilesReader" "next_word", .glo "is_made_of", .int "MOST_FIGURES" (18), .str "FIGURES" "0123456789", .glo "is_number", .meth "FilesReader" "number", .int "MOST_NAME" (6), .str "SMALL" "abcdefghijklmnopqrstuvwxyz", .glo "is_name", .meth "FilesReader" "name", .meth "FilesReader" "files_told", .cls "Files", .noat "Files" "own_births", .noat "Files" "own_held", .mkr "Files", .glo "Files", .meth "Files" "names", .glo "NoFile", .meth "Files" "births_of", .glo "NoPlace", .meth "Files" "cut", .free "enumerate", .meth "Files" "put", .glo "files_with", .meth "Files" "held", .glo "HeldAlready", .free "dict", .meth "Files" "hold", .glo "files_read", .mkr "FilesReader", .glo "FilesReader", .meth "Files" "many", .meth "Files" "birth", .glo "files_words", .glo "NotHeld", .meth "Files" "want_held", .meth "Files" "of_held", .glo "files_text", .glo "read_files", .glo "_law_rows", .glo "NoDeed", .glo "Gone", .glo "Full", .glo "NoHouse", .glo "NoDisk", .glo "NoRow", .glo "NoRoom", .glo "NoMark", .glo "Stopped", .glo "NotClosed", .glo "NotBlank", .free "ValueError", .glo "_law_refusal", .glo "CleanError", .glo "_law_told", .glo "law"]
def fn : List He.DefD := [d__law_at, d__law_pot, d__law_take, d__law_drawn, d__law_name, d__law_names, d__law_birth, d__law_model, d__law_models, d__law_words, d__law_text, d__law_is_number, d__law_other_word, d__law_spoilt, d__law_is_name, d__law_model_in, d__law_kept_in, d__law_due, d_FilesReader_next_word, d_is_made_of, d_is_number, d_FilesReader_number, d_is_name, d_FilesReader_name, d_FilesReader_files_told, d_Files___init__, d_Files_names, d_Files_births_of, d_Files_cut, d_Files_put, d_files_with, d_Files_held, d_Files_hold, d_files_read, d_FilesReader___init__, d_Files_many, d_Files_birth, d_files_words, d_Files_want_held, d_Files_of_held, d_files_text, d_read_files, d__law_rows, d__law_refusal, d__law_told, d_law]
def ts : List He.Tab := []
def ex (K : PySem.W.Frag) : Bool := (fun K => noLst K && excB exL exC exI K) K
abbrev RowR : PySem.W.OpenRow := PySem.W.OpenLaw.row PySem.Challenge.rw_cleanrows_k24_whole_spoilt_texts_of_file
abbrev hkX : PySem.W.Hook := He.hookX 4 fa fn ts [] ex
def obX (s : PySem.W.SharedT) : He.AlX := He.obsX 4 fa fn ts [] ex (HandSHeadRun.getT s)
theorem obX_eq (s : PySem.W.SharedT) : obX s = hkX.obs s.abs := He.obsX_eq (HandSHeadRun.getT_eq s)
def looseN : List Str := (["_wall", "__name__", "CleanError", "NoRow", "NoDisk", "Full", "Stopped", "NoFile", "NoPlace", "HeldAlready", "NotHeld", "NoFiles", "NoMark", "NoRoom", "Gone", "NotClosed", "NotBlank", "NoDeed", "NoHouse", "Files", "FIGURES", "SMALL", "MOST_FIGURES", "MOST_NAME", "is_made_of", "is_name", "is_number", "files_words", "files_text", "FilesReader"] : List Str) ++ (["files_with", "files_read", "read_files", "_law_at", "_law_pot", "_law_take", "_law_drawn", "_law_name", "_law_names", "_law_birth", "_law_model", "_law_models", "_law_words", "_law_text", "_law_is_number", "_law_other_word", "_law_spoilt", "_law_is_name", "_law_model_in", "_law_kept_in", "_law_due", "_law_rows", "_law_refusal", "_law_told"] : List Str)
theorem runX0 (w : World) : HandSHeadRun.RunEq RowR (PySem.W.view RowR.prog [58]) hkX obX 40000 looseN (w.withFollow "special-get-raises" false) := by intro os; kernel_rfl
theorem runX1 (w : World) : HandSHeadRun.RunEq RowR (PySem.W.view RowR.prog [58]) hkX obX 40000 looseN (w.withFollow "special-get-raises" true) := by intro os; kernel_rfl
theorem runX (w : World) : HandSHeadRun.RunEq RowR (PySem.W.view RowR.prog [58]) hkX obX 40000 looseN w :=
  PySem.W.byRow2 "special-get-raises" (P := fun w => HandSHeadRun.RunEq RowR (PySem.W.view RowR.prog [58]) hkX obX 40000 looseN w) runX0 runX1 w
end Ww
set_option maxHeartbeats 4000000
set_option maxRecDepth 100000
set_option maxHeartbeats 4000000

namespace Fw
open PySem L2

inductive D where
  | non | bl (b : Bool) | int (i : Int) | str (x : Str)
  | lst (ds : List D) | tup (ds : List D)
  | obj (l : Nat)
  | err (c : Str) (a : Nat)

inductive Cl where
  | dead
  | lst (ds : List D)
  | dic (kvs : List (Key × D))
  | shut (kvs : List (Key × D))
  | ins (c : Str) (fs : List (Str × D))
  /-- a code object's table, at a known place: the codes that are made bear the name q -/
  | tab (f : PySem.W.Frag → Addr) (q : Str)
  /-- the dict {True: t, False: f} -/
  | bdc (t f : D)
  /-- a dict with truths for keys -/
  | bdp (kvs : List (Bool × D))

abbrev Gr := List Cl

structure Wd where
  F : Hp
  mm : Nat → Addr
  n : Nat
  fr : Hp

mutual
def Rep (K : PySem.W.Frag) (w : Wd) : V → D → Prop
  | v, .non => v = .non
  | v, .bl b => v = .bl b
  | v, .int i => v = .int i
  | v, .str x => v = .str x
  | v, .lst ds => ∃ a xs, v = .ref a ∧ Rd w.F a (.lst xs) ∧ RepL K w xs ds
  | v, .tup ds => ∃ a xs, v = .ref a ∧ SqT K w.F a xs ∧ RepL K w xs ds
  | v, .obj l => l < w.n ∧ v = .ref (w.mm l)
  | v, .err _ a => v = .ref a
def RepL (K : PySem.W.Frag) (w : Wd) : List V → List D → Prop
  | xs, [] => xs = []
  | xs, d :: ds => ∃ x r, xs = x :: r ∧ Rep K w x d ∧ RepL K w r ds
end
def Exn (F F' : Hp) : Prop := ∀ a o, F a = some o → F' a = some o
theorem Exn.refl (F : Hp) : Exn F F := fun _ _ h => h
theorem Exn.trans {F G H : Hp} (p : Exn F G) (q : Exn G H) : Exn F H := fun a o h => q a o (p a o h)
theorem Exn.rd {F F' : Hp} {a : Addr} {u : HO} (e : Exn F F') (h : Rd F a u) : Rd F' a u := by
  rcases h with h | ⟨o, h⟩
  · exact .inl (e a _ h)
  · exact .inr ⟨o, e a _ h⟩
theorem Exn.sqT {K : PySem.W.Frag} {F F' : Hp} {a : Addr} {xs : List V} (e : Exn F F') (h : SqT K F a xs) : SqT K F' a xs := by
  rcases h with (h | ⟨o, h⟩) | h
  · exact .inl (.inl (e a _ h))
  · exact .inl (.inr ⟨o, e a _ h⟩)
  · exact .inr h
theorem Exn.free {F F' : Hp} {a : Addr} (e : Exn F F') (h : F' a = none) : F a = none := by
  cases q : F a with
  | none => rfl
  | some o => rw [e a o q] at h; cases h
theorem Exn.add {F : Hp} {p : Addr} {o : HO} (h : F p = none) : Exn F (upd F p o) := fun a u q => by
  rw [upd_ne (ne_of_none q h)]; exact q
theorem Exn.add2 {F H : Hp} {p : Addr} {o : HO} (e : Exn F H) : Exn (upd F p o) (upd H p o) := fun a u q => by
  by_cases z : a = p
  · subst z; rw [upd_same] at q ⊢; exact q
  · rw [upd_ne z] at q ⊢; exact e a u q

structure Wd.Lo (w w' : Wd) : Prop where
  ex : Exn w.F w'.F
  same : ∀ l, l < w.n → w'.mm l = w.mm l
  le : w.n ≤ w'.n
structure Wd.Le (w w' : Wd) : Prop where
  ex : Exn w.F w'.F
  same : ∀ l, l < w.n → w'.mm l = w.mm l
  le : w.n ≤ w'.n
  fr : Exn w.fr w'.fr
theorem Wd.Le.lo {w w' : Wd} (h : w.Le w') : w.Lo w' := ⟨h.ex, h.same, h.le⟩
theorem Wd.Le.refl (w : Wd) : w.Le w := ⟨Exn.refl _, fun _ _ => rfl, Nat.le_refl _, Exn.refl _⟩
theorem Wd.Le.trans {a b c : Wd} (p : a.Le b) (q : b.Le c) : a.Le c :=
  ⟨p.ex.trans q.ex, fun l h => (q.same l (Nat.lt_of_lt_of_le h p.le)).trans (p.same l h), Nat.le_trans p.le q.le, p.fr.trans q.fr⟩

mutual
theorem Rep.mono0 {K : PySem.W.Frag} {w w' : Wd} (e : w.Lo w') : ∀ (v : V) (d : D), Rep K w v d → Rep K w' v d
  | v, .non, h => by simp only [Rep] at h ⊢; exact h
  | v, .bl b, h => by simp only [Rep] at h ⊢; exact h
  | v, .int i, h => by simp only [Rep] at h ⊢; exact h
  | v, .str x, h => by simp only [Rep] at h ⊢; exact h
  | v, .lst ds, h => by
    simp only [Rep] at h ⊢
    obtain ⟨a, xs, h1, h2, h3⟩ := h
    exact ⟨a, xs, h1, e.ex.rd h2, RepL.mono0 e xs ds h3⟩
  | v, .tup ds, h => by
    simp only [Rep] at h ⊢
    obtain ⟨a, xs, h1, h2, h3⟩ := h
    exact ⟨a, xs, h1, e.ex.sqT h2, RepL.mono0 e xs ds h3⟩
  | v, .obj l, h => by
    simp only [Rep] at h ⊢
    exact ⟨Nat.lt_of_lt_of_le h.1 e.le, by rw [e.same l h.1]; exact h.2⟩
  | v, .err c a, h => by simp only [Rep] at h ⊢; exact h
theorem RepL.mono0 {K : PySem.W.Frag} {w w' : Wd} (e : w.Lo w') : ∀ (xs : List V) (ds : List D), RepL K w xs ds → RepL K w' xs ds
  | xs, [], h => by simp only [RepL] at h ⊢; exact h
  | xs, d :: ds, h => by
    simp only [RepL] at h ⊢
    obtain ⟨x, r, h1, h2, h3⟩ := h
    exact ⟨x, r, h1, Rep.mono0 e x d h2, RepL.mono0 e r ds h3⟩
end
theorem Rep.mono {K : PySem.W.Frag} {w w' : Wd} (e : w.Le w') (v : V) (d : D) (h : Rep K w v d) : Rep K w' v d := Rep.mono0 e.lo v d h
theorem RepL.mono {K : PySem.W.Frag} {w w' : Wd} (e : w.Le w') (v : List V) (d : List D) (h : RepL K w v d) : RepL K w' v d := RepL.mono0 e.lo v d h

theorem RepL.length {K : PySem.W.Frag} {w : Wd} : ∀ {ds : List D} {xs : List V}, RepL K w xs ds → xs.length = ds.length
  | [], xs, h => by simp only [RepL] at h; subst h; rfl
  | d :: ds, xs, h => by
    simp only [RepL] at h
    obtain ⟨x, r, rfl, _, h3⟩ := h
    simp [RepL.length h3]
theorem RepL.get {K : PySem.W.Frag} {w : Wd} : ∀ {ds : List D} {xs : List V} {i : Nat} {d : D}, RepL K w xs ds → ds[i]? = some d → ∃ v, xs[i]? = some v ∧ Rep K w v d
  | [], _, i, d, _, e => by simp at e
  | c :: ds, xs, 0, d, h, e => by
    simp only [RepL] at h
    obtain ⟨x, r, rfl, h2, _⟩ := h
    simp at e; subst e
    exact ⟨x, rfl, h2⟩
  | c :: ds, xs, i + 1, d, h, e => by
    simp only [RepL] at h
    obtain ⟨x, r, rfl, _, h3⟩ := h
    simp at e
    obtain ⟨v, hv, hr⟩ := RepL.get h3 e
    exact ⟨v, by simpa using hv, hr⟩
theorem RepL.app {K : PySem.W.Frag} {w : Wd} {es : List D} {ys : List V} (h2 : RepL K w ys es) : ∀ {ds : List D} {xs : List V}, RepL K w xs ds → RepL K w (xs ++ ys) (ds ++ es)
  | [], xs, h => by simp only [RepL] at h; subst h; exact h2
  | d :: ds, xs, h => by
    simp only [RepL] at h
    obtain ⟨x, r, rfl, a, b⟩ := h
    simp only [List.cons_append, RepL]
    exact ⟨x, r ++ ys, rfl, a, RepL.app h2 b⟩
theorem RepL.set {K : PySem.W.Frag} {w : Wd} {v : V} {e : D} (hv : Rep K w v e) : ∀ {ds : List D} {xs : List V} {i : Nat}, RepL K w xs ds → RepL K w (xs.set i v) (ds.set i e)
  | [], xs, i, h => by simp only [RepL] at h; subst h; simp [RepL]
  | d :: ds, xs, 0, h => by
    simp only [RepL] at h
    obtain ⟨x, r, rfl, a, b⟩ := h
    simp only [List.set_cons_zero, RepL]
    exact ⟨v, r, rfl, hv, b⟩
  | d :: ds, xs, i + 1, h => by
    simp only [RepL] at h
    obtain ⟨x, r, rfl, a, b⟩ := h
    simp only [List.set_cons_succ, RepL]
    exact ⟨x, r.set i v, rfl, a, RepL.set hv b⟩
theorem RepL.one {K : PySem.W.Frag} {w : Wd} {v : V} {d : D} (h : Rep K w v d) : RepL K w [v] [d] := by
  simp only [RepL]; exact ⟨v, [], rfl, h, rfl⟩
theorem RepL.take {K : PySem.W.Frag} {w : Wd} (k : Nat) : ∀ {ds : List D} {xs : List V}, RepL K w xs ds → RepL K w (xs.take k) (ds.take k) := by
  induction k with
  | zero => intro ds xs _; simp [RepL]
  | succ k ih =>
    intro ds xs h
    cases ds with
    | nil => simp only [RepL] at h; subst h; simp [RepL]
    | cons d ds =>
      simp only [RepL] at h
      obtain ⟨x, r, rfl, a, b⟩ := h
      simp only [List.take_succ_cons, RepL]
      exact ⟨x, r.take k, rfl, a, ih b⟩
theorem RepL.drop {K : PySem.W.Frag} {w : Wd} (k : Nat) : ∀ {ds : List D} {xs : List V}, RepL K w xs ds → RepL K w (xs.drop k) (ds.drop k) := by
  induction k with
  | zero => intro ds xs h; simpa using h
  | succ k ih =>
    intro ds xs h
    cases ds with
    | nil => simp only [RepL] at h; subst h; simp [RepL]
    | cons d ds =>
      simp only [RepL] at h
      obtain ⟨x, r, rfl, a, b⟩ := h
      simp only [List.drop_succ_cons]
      exact ih b
def RepF (K : PySem.W.Frag) (w : Wd) (fs : List (Str × V)) (ds : List (Str × D)) : Prop :=
  fs.map (·.1) = ds.map (·.1) ∧ RepL K w (fs.map (·.2)) (ds.map (·.2))
def RepK (K : PySem.W.Frag) (w : Wd) (fs : List (Key × V)) (ds : List (Key × D)) : Prop :=
  fs.map (·.1) = ds.map (·.1) ∧ RepL K w (fs.map (·.2)) (ds.map (·.2))

def BdO (a : Addr) (vt vf : Value) (h : Heap) : Prop := ∃ o es ep, h.get? a = some o ∧ o.ExactDict ∧ o.data = .dict es ep ∧ es.toList = [⟨hashInt 1, .bool true, vt⟩, ⟨hashInt 0, .bool false, vf⟩]
def BdL (a : Addr) (vs : List (Bool × Value)) (h : Heap) : Prop := (a == sysModules) = false ∧ ∃ o es ep, h.get? a = some o ∧ o.ExactDict ∧ o.data = .dict es ep ∧ es.toList = vs.map (fun p => (⟨hashInt (if p.1 = true then 1 else 0), .bool p.1, p.2⟩ : DictEntry)) ∧ (vs.map (·.1)).Nodup
def CellAt (K : PySem.W.Frag) (w : Wd) (H : Hp) (a : Addr) : Cl → Prop
  | .dead => True
  | .lst ds => w.F a = none ∧ ∃ xs, H a = some (.lst xs) ∧ RepL K w xs ds
  | .dic kvs => w.F a = none ∧ ∃ xs, H a = some (.dK xs) ∧ RepK K w xs kvs
  | .shut kvs => w.F a = none ∧ ∃ o xs, H a = some (.frz o (.dK xs)) ∧ RepK K w xs kvs
  | .ins c fs => w.F a = none ∧ ∃ dx xs, H a = some (.ins (He.ga K c) dx xs) ∧ RepF K w xs fs
  | .tab f q => w.F a = none ∧ a = f K ∧ ∃ ps : Array Value, H a = some (.tbl ps) ∧ TriplesOk ps.toList ∧ ∀ (pos : Pos) (cv : Value), codeAmong pos ps.toList = some cv → ∃ c, cv = .ref c ∧ w.F c = some (LamX.CodeO c q)
  | .bdc t f => w.F a = none ∧ ∃ xt xf vt vf, H a = some (.ext (BdO a vt vf)) ∧ RelV xt vt ∧ RelV xf vf ∧ Rep K w xt t ∧ Rep K w xf f
  | .bdp kvs => w.F a = none ∧ ∃ xs vs, H a = some (.ext (BdL a vs)) ∧ vs.map (·.1) = kvs.map (·.1) ∧ Vals xs (vs.map (·.2)) ∧ RepL K w xs (kvs.map (·.2))

def Cl.live : Cl → Bool
  | .dead => false
  | _ => true
def Cl.op : Cl → Bool
  | .dead => false
  | .shut _ => false
  | _ => true
theorem op_live {c : Cl} (h : c.op = true) : c.live = true := by cases c <;> first | rfl | cases h
structure SG (K : PySem.W.Frag) (w : Wd) (g : Gr) (H : Hp) : Prop where
  ex : Exn w.F H
  n : w.n = g.length
  cell : ∀ l c, g[l]? = some c → CellAt K w H (w.mm l) c
  inj : ∀ l l' c c', g[l]? = some c → g[l']? = some c' → c.live = true → c'.live = true → w.mm l = w.mm l' → l = l'
  fx : Exn w.fr H
  ff : ∀ a o, w.fr a = some o → w.F a = none
  fc : ∀ a o l c, w.fr a = some o → g[l]? = some c → c.op = true → w.mm l ≠ a

theorem CellAt.mono {K : PySem.W.Frag} {w w' : Wd} {H H' : Hp} {a : Addr} {c : Cl} (e : w.Lo w') (hF : c.live = true → w.F a = none → w'.F a = none) (hH : c.live = true → H' a = H a) (h : CellAt K w H a c) : CellAt K w' H' a c := by
  cases c with
  | dead => trivial
  | lst ds =>
    obtain ⟨f, xs, h1, h2⟩ := h
    exact ⟨hF rfl f, xs, (hH rfl).trans h1, RepL.mono0 e _ _ h2⟩
  | dic ds =>
    obtain ⟨f, xs, h1, h2, h3⟩ := h
    exact ⟨hF rfl f, xs, (hH rfl).trans h1, h2, RepL.mono0 e _ _ h3⟩
  | shut ds =>
    obtain ⟨f, o, xs, h1, h2, h3⟩ := h
    exact ⟨hF rfl f, o, xs, (hH rfl).trans h1, h2, RepL.mono0 e _ _ h3⟩
  | ins c fs =>
    obtain ⟨f, dx, xs, h1, h2, h3⟩ := h
    exact ⟨hF rfl f, dx, xs, (hH rfl).trans h1, h2, RepL.mono0 e _ _ h3⟩
  | tab fa q =>
    obtain ⟨f, ea, ps, h1, h2, h3⟩ := h
    exact ⟨hF rfl f, ea, ps, (hH rfl).trans h1, h2, fun pos cv hc => let ⟨c, e1, e2⟩ := h3 pos cv hc; ⟨c, e1, e.ex _ _ e2⟩⟩
  | bdc t u =>
    obtain ⟨f, xt, xf, vt, vf, h1, h2, h3, h4, h5⟩ := h
    exact ⟨hF rfl f, xt, xf, vt, vf, (hH rfl).trans h1, h2, h3, Rep.mono0 e _ _ h4, Rep.mono0 e _ _ h5⟩
  | bdp kvs =>
    obtain ⟨f, xs, vs, h1, h2, h3, h4⟩ := h
    exact ⟨hF rfl f, xs, vs, (hH rfl).trans h1, h2, h3, RepL.mono0 e _ _ h4⟩
theorem CellAt.some {K : PySem.W.Frag} {w : Wd} {H : Hp} {a : Addr} {c : Cl} (h : CellAt K w H a c) (l : c.live = true) : w.F a = none ∧ ∃ o, H a = some o := by
  cases c with
  | dead => cases l
  | lst ds => obtain ⟨f, xs, h1, _⟩ := h; exact ⟨f, _, h1⟩
  | dic ds => obtain ⟨f, xs, h1, _⟩ := h; exact ⟨f, _, h1⟩
  | shut ds => obtain ⟨f, o, xs, h1, _⟩ := h; exact ⟨f, _, h1⟩
  | ins c fs => obtain ⟨f, dx, xs, h1, _⟩ := h; exact ⟨f, _, h1⟩
  | tab fa q => obtain ⟨f, ea, ps, h1, _⟩ := h; exact ⟨f, _, h1⟩
  | bdc t u => obtain ⟨f, xt, xf, vt, vf, h1, _⟩ := h; exact ⟨f, _, h1⟩
  | bdp kvs => obtain ⟨f, xs, vs, h1, _⟩ := h; exact ⟨f, _, h1⟩

section
variable {K : PySem.W.Frag} {w : Wd} {g : Gr} {H : Hp} {p : Addr}
theorem SG.allocF (S : SG K w g H) (hp : H p = none) (o : HO) : SG K { w with F := upd w.F p o } g (upd H p o) ∧ w.Le { w with F := upd w.F p o } := by
  have hf : w.F p = none := S.ex.free hp
  have hr : w.fr p = none := S.fx.free hp
  have le : w.Le { w with F := upd w.F p o } := ⟨Exn.add hf, fun _ _ => rfl, Nat.le_refl _, Exn.refl _⟩
  refine ⟨⟨Exn.add2 S.ex, S.n, fun l c h => ?_, S.inj, S.fx.trans (Exn.add hp), fun a u h => ?_, S.fc⟩, le⟩
  · have q := S.cell l c h
    have ne : c.live = true → w.mm l ≠ p := fun lv z => by
      obtain ⟨_, o', h'⟩ := q.some lv
      rw [z, hp] at h'; cases h'
    exact q.mono le.lo (fun lv f => by show upd w.F p o (w.mm l) = none; rw [upd_ne (ne lv)]; exact f) (fun lv => upd_ne (ne lv))
  · show upd w.F p o a = none
    rw [upd_ne (ne_of_none h hr)]; exact S.ff a u h
theorem SG.grow (S : SG K w g H) {H' : Hp} (e : Exn H H') : SG K w g H' :=
  ⟨S.ex.trans e, S.n, fun l c h => by
    have q := S.cell l c h
    refine q.mono (Wd.Le.refl _).lo (fun _ f => f) (fun lv => ?_)
    obtain ⟨_, o, h'⟩ := q.some lv
    rw [h', e _ _ h'], S.inj, S.fx.trans e, S.ff, S.fc⟩
def Wd.more (w : Wd) (p : Addr) : Wd := ⟨w.F, fun l => if l = w.n then p else w.mm l, w.n + 1, w.fr⟩
theorem Wd.le_more (w : Wd) (p : Addr) : w.Le (w.more p) :=
  ⟨Exn.refl _, fun l h => if_neg (Nat.ne_of_lt h), Nat.le_succ _, Exn.refl _⟩
theorem Wd.more_at (w : Wd) (p : Addr) : (w.more p).mm w.n = p := if_pos rfl
theorem SG.allocC (S : SG K w g H) (hp : H p = none) {o : HO} {c : Cl} (hc : CellAt K (w.more p) (upd H p o) p c) : SG K (w.more p) (g ++ [c]) (upd H p o) := by
  have nep : ∀ l c', g[l]? = some c' → c'.live = true → w.mm l ≠ p := fun l c' h lv z => by
    obtain ⟨_, o', h'⟩ := (S.cell l c' h).some lv
    rw [z, hp] at h'; cases h'
  have lt : ∀ l c', g[l]? = some c' → l < w.n := fun l c' h => by
    rw [S.n]; exact (List.getElem?_eq_some_iff.mp h).1
  have old : ∀ l c', (g ++ [c])[l]? = some c' → (g[l]? = some c' ∧ (w.more p).mm l = w.mm l) ∨ (c' = c ∧ (w.more p).mm l = p ∧ l = w.n) := fun l c' h => by
    by_cases z : l < g.length
    · rw [List.getElem?_append_left z] at h
      exact .inl ⟨h, if_neg (Nat.ne_of_lt (lt l c' h))⟩
    · have e : l = g.length := by
        have := (List.getElem?_eq_some_iff.mp h).1
        simp at this; omega
      subst e
      rw [List.getElem?_append_right (Nat.le_refl _)] at h
      simp at h
      exact .inr ⟨h.symm, if_pos S.n.symm, S.n.symm⟩
  have hr : w.fr p = none := S.fx.free hp
  refine ⟨S.ex.trans (Exn.add hp), by simp [Wd.more, S.n], fun l c' h => ?_, fun l l' c1 c2 h1 h2 v1 v2 e => ?_, S.fx.trans (Exn.add hp), S.ff, fun a o' l c' h1 h2 v => ?_⟩
  · rcases old l c' h with ⟨h1, e⟩ | ⟨rfl, e, _⟩
    · rw [e]
      exact (S.cell l c' h1).mono (w.le_more p).lo (fun _ f => f) (fun lv => upd_ne (nep l c' h1 lv))
    · rw [e]; exact hc
  · rcases old l c1 h1 with ⟨q1, e1⟩ | ⟨rfl, e1, z1⟩ <;> rcases old l' c2 h2 with ⟨q2, e2⟩ | ⟨rfl, e2, z2⟩
    · rw [e1, e2] at e; exact S.inj l l' c1 c2 q1 q2 v1 v2 e
    · rw [e1, e2] at e; exact absurd e (nep l c1 q1 v1)
    · rw [e1, e2] at e; exact absurd e.symm (nep l' c2 q2 v2)
    · exact z1.trans z2.symm
  · rcases old l c' h2 with ⟨q1, e1⟩ | ⟨_, e1, _⟩
    · rw [e1]; exact S.fc a o' l c' h1 q1 v
    · rw [e1]; exact (ne_of_none h1 hr).symm
theorem SG.setC (S : SG K w g H) {l : Nat} {c0 c : Cl} (h0 : g[l]? = some c0) (lo : c0.op = true) {o : HO} (hc : CellAt K w (upd H (w.mm l) o) (w.mm l) c) (hl : c.op = true) : SG K w (g.set l c) (upd H (w.mm l) o) := by
  have lv := op_live lo
  have hlt : l < g.length := (List.getElem?_eq_some_iff.mp h0).1
  obtain ⟨f0, o0, e0⟩ := (S.cell l c0 h0).some lv
  have old : ∀ k c', (g.set l c)[k]? = some c' → (k ≠ l ∧ g[k]? = some c') ∨ (k = l ∧ c' = c) := fun k c' h => by
    by_cases z : l = k
    · subst z
      rw [List.getElem?_set_self hlt] at h
      exact .inr ⟨rfl, (Option.some.inj h).symm⟩
    · rw [List.getElem?_set_ne z] at h
      exact .inl ⟨fun e => z e.symm, h⟩
  have ne : ∀ k c', k ≠ l → g[k]? = some c' → c'.live = true → w.mm k ≠ w.mm l := fun k c' z h v e => z (S.inj k l c' c0 h h0 v lv e)
  refine ⟨fun a u q => ?_, by simp [S.n], fun k c' h => ?_, fun k k' c1 c2 h1 h2 v1 v2 e => ?_, fun a u q => ?_, S.ff, fun a u k c' q h v => ?_⟩
  · have : a ≠ w.mm l := fun z => by rw [z, f0] at q; cases q
    rw [upd_ne this]; exact S.ex a u q
  · rcases old k c' h with ⟨z, q⟩ | ⟨rfl, rfl⟩
    · exact (S.cell k c' q).mono (Wd.Le.refl _).lo (fun _ f => f) (fun v => upd_ne (ne k c' z q v))
    · exact hc
  · rcases old k c1 h1 with ⟨z1, q1⟩ | ⟨rfl, rfl⟩ <;> rcases old k' c2 h2 with ⟨z2, q2⟩ | ⟨rfl, rfl⟩
    · exact S.inj k k' c1 c2 q1 q2 v1 v2 e
    · exact absurd e (ne k c1 z1 q1 v1)
    · exact absurd e.symm (ne k' c2 z2 q2 v2)
    · rfl
  · rw [upd_ne (S.fc a u l c0 q h0 lo).symm]; exact S.fx a u q
  · rcases old k c' h with ⟨_, h1⟩ | ⟨rfl, _⟩
    · exact S.fc a u k c' q h1 v
    · exact S.fc a u k c0 q h0 lo
theorem SG.freeze (S : SG K w g H) {l : Nat} {ds : List D} (h0 : g[l]? = some (.lst ds)) : ∃ w', w.Le w' ∧ SG K w' (g.set l .dead) H ∧ Rep K w' (.ref (w.mm l)) (.lst ds) := by
  obtain ⟨f0, xs, e0, r0⟩ := S.cell l _ h0
  have hlt : l < g.length := (List.getElem?_eq_some_iff.mp h0).1
  have le : w.Le { w with F := upd w.F (w.mm l) (.lst xs) } := ⟨Exn.add f0, fun _ _ => rfl, Nat.le_refl _, Exn.refl _⟩
  have back : ∀ (j : Nat) (c : Cl), (g.set l .dead)[j]? = some c → c.live = true → g[j]? = some c := fun j c h v => by
    by_cases z : l = j
    · subst z
      rw [List.getElem?_set_self hlt] at h
      rw [← Option.some.inj h] at v; cases v
    · rw [List.getElem?_set_ne z] at h; exact h
  refine ⟨{ w with F := upd w.F (w.mm l) (.lst xs) }, le, ⟨fun a u q => ?_, by simp [S.n], fun k c' h => ?_, fun k k' c1 c2 h1 h2 v1 v2 e => S.inj k k' c1 c2 (back k c1 h1 v1) (back k' c2 h2 v2) v1 v2 e, S.fx, fun a u q => ?_, fun a u k c' q h v => S.fc a u k c' q (back k c' h (op_live v)) v⟩, ?_⟩
  · by_cases z : a = w.mm l
    · subst z
      have q' : upd w.F (w.mm l) (HO.lst xs) (w.mm l) = some u := q
      rw [upd_same] at q'; rw [← q']; exact e0
    · have q' : upd w.F (w.mm l) (HO.lst xs) a = some u := q
      rw [upd_ne z] at q'; exact S.ex a u q'
  · by_cases z : l = k
    · subst z
      rw [List.getElem?_set_self hlt] at h
      rw [← Option.some.inj h]; trivial
    · rw [List.getElem?_set_ne z] at h
      refine (S.cell k c' h).mono le.lo (fun v f => ?_) (fun _ => rfl)
      have : w.mm k ≠ w.mm l := fun e => z (S.inj k l c' _ h h0 v rfl e).symm
      show upd w.F (w.mm l) (.lst xs) (w.mm k) = none
      rw [upd_ne this]; exact f
  · show upd w.F (w.mm l) (.lst xs) a = none
    rw [upd_ne (S.fc a u l _ q h0 rfl).symm]; exact S.ff a u q
  · simp only [Rep]
    exact ⟨_, xs, rfl, .inl upd_same, RepL.mono le _ _ r0⟩
theorem SG.cut (S : SG K w g H) (k : Nat) (hk : k ≤ g.length) (hlow : ∀ c, c ∈ g.take k → ∀ a, CellAt K w H a c → CellAt K { w with n := k } H a c) : SG K { w with n := k } (g.take k) H := by
  have old : ∀ j c, (g.take k)[j]? = some c → g[j]? = some c ∧ c ∈ g.take k := fun j c h => by
    have hj := (List.getElem?_eq_some_iff.mp h).1
    rw [List.length_take] at hj
    refine ⟨?_, List.mem_of_getElem? h⟩
    rw [List.getElem?_take_of_lt (by omega)] at h; exact h
  refine ⟨S.ex, by simp; omega, fun j c h => ?_, fun j j' c1 c2 h1 h2 v1 v2 e => S.inj j j' c1 c2 (old j c1 h1).1 (old j' c2 h2).1 v1 v2 e, S.fx, S.ff, fun a u j c q h v => S.fc a u j c q (old j c h).1 v⟩
  obtain ⟨q, m⟩ := old j c h
  exact hlow c m _ (S.cell j c q)
theorem SG.aside (S : SG K w g H) (hp : H p = none) (o : HO) : SG K { w with fr := upd w.fr p o } g (upd H p o) ∧ w.Le { w with fr := upd w.fr p o } := by
  have hr : w.fr p = none := S.fx.free hp
  have hf : w.F p = none := S.ex.free hp
  refine ⟨⟨S.ex.trans (Exn.add hp), S.n, fun l c h => ?_, S.inj, Exn.add2 S.fx, fun a u q => ?_, fun a u l c q h v z => ?_⟩, ⟨Exn.refl _, fun _ _ => rfl, Nat.le_refl _, Exn.add hr⟩⟩
  · have q := S.cell l c h
    refine q.mono (w' := { w with fr := upd w.fr p o }) (show Wd.Lo w { w with fr := upd w.fr p o } from ⟨Exn.refl _, fun _ _ => rfl, Nat.le_refl _⟩) (fun _ f => f) (fun lv => ?_)
    obtain ⟨_, o', h'⟩ := q.some lv
    exact upd_ne (ne_of_none h' hp)
  · by_cases z : a = p
    · rw [z]; exact hf
    · have q' : upd w.fr p o a = some u := q
      rw [upd_ne z] at q'; exact S.ff a u q'
  · have q' : upd w.fr p o a = some u := q
    have z' : w.mm l = a := z
    by_cases y : a = p
    · obtain ⟨_, o', h'⟩ := (S.cell l c h).some (op_live v)
      rw [z', y, hp] at h'; cases h'
    · rw [upd_ne y] at q'; exact S.fc a u l c q' h v z'
theorem SG.fcl (S : SG K w g H) {xs0 : List V} (hp : w.fr p = some (.lst xs0)) {l : Nat} {c : Cl} (h : g[l]? = some c) (lv : c.live = true) : w.mm l ≠ p := fun z => by
  cases hc : c.op with
  | true => exact S.fc p _ l c hp h hc z
  | false =>
    have q := S.cell l c h
    have f := S.fx _ _ hp
    cases c with
    | dead => cases lv
    | shut ds =>
      obtain ⟨_, o, xs, h1, _⟩ := q
      rw [z, f] at h1; cases h1
    | lst ds => cases hc
    | dic ds => cases hc
    | ins c fs => cases hc
    | tab fa q => cases hc
    | bdc t u => cases hc
    | bdp kvs => cases hc
theorem SG.asideSet (S : SG K w g H) {xs0 : List V} (hp : w.fr p = some (.lst xs0)) (o : HO) : SG K { w with fr := upd w.fr p o } g (upd H p o) := by
  refine ⟨fun a u q => ?_, S.n, fun l c h => ?_, S.inj, Exn.add2 S.fx, fun a u q => ?_, fun a u l c q h v z => ?_⟩
  · have : a ≠ p := fun z => by
      have q' : w.F a = some u := q
      rw [z, S.ff p _ hp] at q'; cases q'
    rw [upd_ne this]; exact S.ex a u q
  · exact (S.cell l c h).mono (show Wd.Lo w { w with fr := upd w.fr p o } from ⟨Exn.refl _, fun _ _ => rfl, Nat.le_refl _⟩) (fun _ f => f) (fun lv => upd_ne (S.fcl hp h lv))
  · have q' : upd w.fr p o a = some u := q
    by_cases y : a = p
    · rw [y]; exact S.ff p _ hp
    · rw [upd_ne y] at q'; exact S.ff a u q'
  · have q' : upd w.fr p o a = some u := q
    have z' : w.mm l = a := z
    by_cases y : a = p
    · exact S.fcl hp h (op_live v) (z'.trans y)
    · rw [upd_ne y] at q'; exact S.fc a u l c q' h v z'
end
end Fw

set_option maxRecDepth 100000
set_option maxHeartbeats 4000000
namespace Fw
open PySem L2

inductive R where | ok (d : D) (g : Gr) | err (c : Str) (g : Gr) | no
inductive RL where | ok (ds : List D) (g : Gr) | err (c : Str) (g : Gr) | no
abbrev En := List (Option D)
inductive S where
  | nx (ρ : En) (g : Gr) | ret (d : D) (g : Gr) | bk (ρ : En) (g : Gr) | ct (ρ : En) (g : Gr) | err (c : Str) (ρ : En) (g : Gr) | no
abbrev Exp := En → Gr → R
abbrev Exps := En → Gr → RL
abbrev Stm := En → Gr → S
abbrev Fn := List D → Gr → R

def R.bind : R → (D → Gr → R) → R
  | .ok d g, f => f d g
  | .err c g, _ => .err c g
  | .no, _ => .no
def RL.bind : RL → (List D → Gr → R) → R
  | .ok d g, f => f d g
  | .err c g, _ => .err c g
  | .no, _ => .no

def Out (K : PySem.W.Frag) (w : Wd) (r : R) (Q : VK) (E : XK) : Prop :=
  match r with
  | .ok d g' => ∀ v H' w', w.Le w' → SG K w' g' H' → Rep K w' v d → Q v H'
  | .err c g' => ∀ H' w', w.Le w' → SG K w' g' H' → E (.ref (He.ga K c)) none H'
  | .no => False
def OutL (K : PySem.W.Frag) (w : Wd) (r : RL) (Q : List V → Hp → Prop) (E : XK) : Prop :=
  match r with
  | .ok ds g' => ∀ vs H' w', w.Le w' → SG K w' g' H' → RepL K w' vs ds → Q vs H'
  | .err c g' => ∀ H' w', w.Le w' → SG K w' g' H' → E (.ref (He.ga K c)) none H'
  | .no => False
theorem Out.weak {K : PySem.W.Frag} {w w' : Wd} {r : R} {Q : VK} {E : XK} (o : Out K w r Q E) (e : w.Le w') : Out K w' r Q E := by
  cases r with
  | ok d g => exact fun v H' w2 l => o v H' w2 (e.trans l)
  | err c g => exact fun H' w2 l => o H' w2 (e.trans l)
  | no => exact o
theorem OutL.weak {K : PySem.W.Frag} {w w' : Wd} {r : RL} {Q : List V → Hp → Prop} {E : XK} (o : OutL K w r Q E) (e : w.Le w') : OutL K w' r Q E := by
  cases r with
  | ok d g => exact fun v H' w2 l => o v H' w2 (e.trans l)
  | err c g => exact fun H' w2 l => o H' w2 (e.trans l)
  | no => exact o
theorem Out.here {K : PySem.W.Frag} {w : Wd} {d : D} {g : Gr} {Q : VK} {E : XK} (o : Out K w (.ok d g) Q E) {H : Hp} {v : V} (s : SG K w g H) (r : Rep K w v d) : Q v H := o v H w (Wd.Le.refl w) s r
theorem Out.newL {K : PySem.W.Frag} {w : Wd} {ds : List D} {g : Gr} {Q : VK} {E : XK} (o : Out K w (.ok (.lst ds) g) Q E) {H : Hp} {xs : List V} (s : SG K w g H) (r : RepL K w xs ds) : ∀ p, H p = none → Q (.ref p) (upd H p (.lst xs)) := fun p hp => by
  obtain ⟨s', le⟩ := s.allocF hp (.lst xs)
  refine o _ _ _ le s' ?_
  simp only [Rep]
  exact ⟨p, xs, rfl, .inl upd_same, RepL.mono le _ _ r⟩
theorem Out.newT {K : PySem.W.Frag} {w : Wd} {ds : List D} {g : Gr} {Q : VK} {E : XK} (o : Out K w (.ok (.tup ds) g) Q E) {H : Hp} {xs : List V} (s : SG K w g H) (r : RepL K w xs ds) : ∀ p, H p = none → Q (.ref p) (upd H p (.tup xs)) := fun p hp => by
  obtain ⟨s', le⟩ := s.allocF hp (.tup xs)
  refine o _ _ _ le s' ?_
  simp only [Rep]
  exact ⟨p, xs, rfl, .inl (.inl upd_same), RepL.mono le _ _ r⟩
theorem Out.newC {K : PySem.W.Frag} {w : Wd} {ds : List D} {g : Gr} {Q : VK} {E : XK} (o : Out K w (.ok (.obj g.length) (g ++ [.lst ds])) Q E) {H : Hp} {xs : List V} (s : SG K w g H) (r : RepL K w xs ds) : ∀ p, H p = none → Q (.ref p) (upd H p (.lst xs)) := fun p hp => by
  have hc : CellAt K (w.more p) (upd H p (.lst xs)) p (.lst ds) := ⟨s.ex.free hp, xs, upd_same, RepL.mono (w.le_more p) _ _ r⟩
  refine o _ _ _ (w.le_more p) (s.allocC hp hc) ?_
  simp only [Rep]
  rw [← s.n]
  exact ⟨Nat.lt_succ_self _, by rw [Wd.more_at]⟩

def SL (K : PySem.W.Frag) (w : Wd) (ρ : En) (σ : St) : Prop :=
  σ.length = ρ.length ∧ ∀ (i : Nat) (d : D), ρ[i]? = some (some d) → ∃ v, σ[i]? = some (some v) ∧ Rep K w v d
theorem SL.mono {K : PySem.W.Frag} {w w' : Wd} {ρ : En} {σ : St} (e : w.Le w') (s : SL K w ρ σ) : SL K w' ρ σ :=
  ⟨s.1, fun i d h => let ⟨v, h1, h2⟩ := s.2 i d h; ⟨v, h1, h2.mono e⟩⟩
theorem SL.set {K : PySem.W.Frag} {w : Wd} {ρ : En} {σ : St} (s : SL K w ρ σ) {i : Nat} {v : V} {d : D} (r : Rep K w v d) : SL K w (ρ.set i (some d)) (σ.set i (some v)) := by
  refine ⟨by simp [s.1], fun j e h => ?_⟩
  by_cases z : i = j
  · subst z
    have hi : i < ρ.length := by
      have := (List.getElem?_eq_some_iff.mp h).1
      simpa using this
    rw [List.getElem?_set_self hi] at h
    have e1 : d = e := by simpa using h
    subst e1
    exact ⟨v, by rw [List.getElem?_set_self (by rw [s.1]; exact hi)], r⟩
  · rw [List.getElem?_set_ne z] at h
    obtain ⟨u, h1, h2⟩ := s.2 j e h
    exact ⟨u, by rw [List.getElem?_set_ne z]; exact h1, h2⟩
theorem SL.del {K : PySem.W.Frag} {w : Wd} {ρ : En} {σ : St} (s : SL K w ρ σ) {i : Nat} (x : Option V) : SL K w (ρ.set i none) (σ.set i x) := by
  refine ⟨by simp [s.1], fun j e h => ?_⟩
  by_cases z : i = j
  · subst z
    by_cases hi : i < ρ.length
    · rw [List.getElem?_set_self hi] at h; cases h
    · rw [List.getElem?_eq_none (by simpa using hi)] at h; cases h
  · rw [List.getElem?_set_ne z] at h
    obtain ⟨u, h1, h2⟩ := s.2 j e h
    exact ⟨u, by rw [List.getElem?_set_ne z]; exact h1, h2⟩

def tM (K : PySem.W.Frag) (W : WX) (m : Exp) : TE := fun σ H Q => ∃ w ρ g, SG K w g H ∧ SL K w ρ σ ∧ Out K w (m ρ g) Q fun c d H' => W c d σ H'
def tMT (K : PySem.W.Frag) (W : WX) (m : Exp) : TT := fun σ H Q => ∃ w ρ g, SG K w g H ∧ SL K w ρ σ ∧ Out K w (m ρ g) (fun v H' => ∃ b, v = .bl b ∧ Q b H') fun c d H' => W c d σ H'
def tMA (K : PySem.W.Frag) (W : WX) (m : Exps) : TA := fun σ H Q => ∃ w ρ g, SG K w g H ∧ SL K w ρ σ ∧ OutL K w (m ρ g) Q fun c d H' => W c d σ H'
def OutS (K : PySem.W.Frag) (w : Wd) (r : S) (Dn : Ends) (W : WX) : Prop :=
  match r with
  | .nx ρ g => ∀ σ H w', w.Le w' → SG K w' g H → SL K w' ρ σ → Dn.nx σ H
  | .bk ρ g => ∀ σ H w', w.Le w' → SG K w' g H → SL K w' ρ σ → Dn.bk σ H
  | .ct ρ g => ∀ σ H w', w.Le w' → SG K w' g H → SL K w' ρ σ → Dn.ct σ H
  | .ret d g => ∀ v H w', w.Le w' → SG K w' g H → Rep K w' v d → Dn.rt v H
  | .err c ρ g => ∀ σ H w', w.Le w' → SG K w' g H → SL K w' ρ σ → W (.ref (He.ga K c)) none σ H
  | .no => False
theorem OutS.weak {K : PySem.W.Frag} {w w' : Wd} {r : S} {Dn : Ends} {W : WX} (o : OutS K w r Dn W) (e : w.Le w') : OutS K w' r Dn W := by
  cases r with
  | nx ρ g => exact fun a b c l => o a b c (e.trans l)
  | bk ρ g => exact fun a b c l => o a b c (e.trans l)
  | ct ρ g => exact fun a b c l => o a b c (e.trans l)
  | ret d g => exact fun a b c l => o a b c (e.trans l)
  | err c' ρ g => exact fun a b c l => o a b c (e.trans l)
  | no => exact o
def tMS (K : PySem.W.Frag) (W : WX) (m : Stm) : TS := fun Dn σ H => ∃ w ρ g, SG K w g H ∧ SL K w ρ σ ∧ OutS K w (m ρ g) Dn W

def RE (X : Cx) (W : WX) (e : Expr) (m : Exp) : Prop := PE X e (tM X.K W m)
def RT (X : Cx) (W : WX) (e : Expr) (m : Exp) : Prop := PT X e (tMT X.K W m)
def RW (X : Cx) (W : WX) (e : Expr) (m : Exp) : Prop := PW X e (tMT X.K W m)
def RA (X : Cx) (W : WX) (es : List Expr) (m : Exps) : Prop := PA X es (tMA X.K W m)
def RS (X : Cx) (W : WX) (st : Stmt) (m : Stm) : Prop := PS X st (tMS X.K W m)
def RB (X : Cx) (W : WX) (sts : List Stmt) (m : Stm) : Prop := PSs X sts (tMS X.K W m)

theorem pe_weak {X : Cx} {e : Expr} {t t' : TE} (h : PE X e t) (k : ∀ σ H Q, t' σ H Q → t σ H Q) : PE X e t' := ⟨fun pins s σ H Q I z => h.run pins s σ H Q I (k _ _ _ z)⟩
theorem pt_weak {X : Cx} {e : Expr} {t t' : TT} (h : PT X e t) (k : ∀ σ H Q, t' σ H Q → t σ H Q) : PT X e t' := ⟨fun pins s σ H Q I z => h.run pins s σ H Q I (k _ _ _ z)⟩
theorem pw_weak {X : Cx} {e : Expr} {t t' : TT} (h : PW X e t) (k : ∀ σ H Q, t' σ H Q → t σ H Q) : PW X e t' := ⟨fun wh pins s σ H Q I z => h.run wh pins s σ H Q I (k _ _ _ z)⟩
theorem pa_weak {X : Cx} {e : List Expr} {t t' : TA} (h : PA X e t) (k : ∀ σ H Q, t' σ H Q → t σ H Q) : PA X e t' := ⟨fun pos pins s σ H Q I z => h.run pos pins s σ H Q I (k _ _ _ z)⟩
theorem ps_weak {X : Cx} {e : Stmt} {t t' : TS} (h : PS X e t) (k : ∀ Dn σ H, t' Dn σ H → t Dn σ H) : PS X e t' := ⟨fun pins s σ H Dn I z => h.run pins s σ H Dn I (k _ _ _ z)⟩
theorem pss_weak {X : Cx} {e : List Stmt} {t t' : TS} (h : PSs X e t) (k : ∀ Dn σ H, t' Dn σ H → t Dn σ H) : PSs X e t' := ⟨fun pins s σ H Dn I z => h.run pins s σ H Dn I (k _ _ _ z)⟩

section
variable {K : PySem.W.Frag} {W : WX} {σ : St} {H : Hp} {w : Wd} {ρ : En} {g : Gr} {m : Exp}
theorem bindM {f : D → Gr → R} {Q : VK} {Q1 : VK} (S0 : SG K w g H) (L : SL K w ρ σ) (o : Out K w ((m ρ g).bind f) Q fun c d H' => W c d σ H')
    (k : ∀ d g' v H' w', w.Le w' → SG K w' g' H' → SL K w' ρ σ → Rep K w' v d → Out K w' (f d g') Q (fun c d H' => W c d σ H') → Q1 v H') : tM K W m σ H Q1 := by
  refine ⟨w, ρ, g, S0, L, ?_⟩
  cases e : m ρ g with
  | no => rw [e] at o; exact o
  | err c g' => rw [e] at o; exact o
  | ok d g' =>
    rw [e] at o
    exact fun v H' w' le S' r => k d g' v H' w' le S' (L.mono le) r (o.weak le)
theorem bindA {f : List D → Gr → R} {Q : VK} {Q1 : List V → Hp → Prop} {ms : Exps} (S0 : SG K w g H) (L : SL K w ρ σ) (o : Out K w ((ms ρ g).bind f) Q fun c d H' => W c d σ H')
    (k : ∀ ds g' vs H' w', w.Le w' → SG K w' g' H' → SL K w' ρ σ → RepL K w' vs ds → Out K w' (f ds g') Q (fun c d H' => W c d σ H') → Q1 vs H') : tMA K W ms σ H Q1 := by
  refine ⟨w, ρ, g, S0, L, ?_⟩
  cases e : ms ρ g with
  | no => rw [e] at o; exact o
  | err c g' => rw [e] at o; exact o
  | ok d g' =>
    rw [e] at o
    exact fun v H' w' le S' r => k d g' v H' w' le S' (L.mono le) r (o.weak le)
end

def eVar (i : Nat) : Exp := fun ρ g => match ρ[i]? with
  | some (some d) => .ok d g
  | _ => .no
def eC (d : D) : Exp := fun _ g => .ok d g
def eBin (op : D → D → Gr → R) (a b : Exp) : Exp := fun ρ g => (a ρ g).bind fun x g1 => (b ρ g1).bind fun y g2 => op x y g2
def eUn (op : D → Gr → R) (a : Exp) : Exp := fun ρ g => (a ρ g).bind op
def D.v : D → Option V
  | .non => some .non
  | .bl b => some (.bl b)
  | .int i => some (.int i)
  | .str x => some (.str x)
  | _ => none
theorem rep_v {K : PySem.W.Frag} {w : Wd} {d : D} {u : V} (h : d.v = some u) : Rep K w u d := by
  cases d <;> simp only [D.v] at h <;> first | (cases h; done) | (simp only [Rep]; exact (Option.some.inj h).symm)
section
variable {X : Cx} {W : WX} {a b e : Expr} {ma mb m : Exp} {pos : Pos}
theorem re_var (i : Nat) {x : Str} (hN : X.N[i]? = some x := by rfl) (hv : Vis X.env.scope x := by first | exact Or.inl rfl | exact Or.inr (Or.inl rfl) | exact Or.inr (Or.inr rfl))
    (hd : (x == ("__debug__" : Str)) = false := by decide) (hcd : (x == ("__classdict__" : Str)) = false := by decide) : RE X W (.Name x pos) (eVar i) := by
  refine pe_weak (pe_var (i := i) hN hv hd hcd) ?_
  rintro σ H Q ⟨w, ρ, g, S0, L, o⟩
  unfold eVar at o
  split at o
  · rename_i d e
    obtain ⟨v, h1, h2⟩ := L.2 i d e
    exact ⟨v, h1, o.here S0 h2⟩
  · exact o.elim
theorem re_c {t : TE} {d : D} {v : V} (h : PE X e t) (ht : t = tC v) (hv : d.v = some v) : RE X W e (eC d) := by
  subst ht
  refine pe_weak h ?_
  rintro σ H Q ⟨w, ρ, g, S0, L, o⟩
  exact Out.here o S0 (rep_v hv)
theorem re_int {i : Int} {j pos} : RE X W (.Constant (.int i) j pos) (eC (.int i)) := re_c pe_int rfl rfl
theorem re_bl {b : Bool} {j pos} : RE X W (.Constant (.bool b) j pos) (eC (.bl b)) := re_c pe_bl rfl rfl
theorem re_non {j pos} : RE X W (.Constant .none j pos) (eC .non) := re_c pe_non rfl rfl
theorem re_str {x : String} {j pos} : RE X W (.Constant (.str x) j pos) (eC (.str x)) := re_c pe_str rfl rfl
theorem re_gint {x : Str} {i : Int} {t : Tok} (hg : Gl X x) (hm : X.mg x = some (.int i t)) (hd : (x == ("__debug__" : Str)) = false := by decide) : RE X W (.Name x pos) (eC (.int i)) :=
  re_c (pe_glob (v := .int i) hg hm ⟨t, rfl⟩ hd) rfl rfl
theorem re_gstr {x z : Str} {t : Tok} (hg : Gl X x) (hm : X.mg x = some (.str z t)) (hd : (x == ("__debug__" : Str)) = false := by decide) : RE X W (.Name x pos) (eC (.str z)) :=
  re_c (pe_glob (v := .str z) hg hm ⟨t, rfl⟩ hd) rfl rfl
def OpS (X : Cx) (r : R2) (op : D → D → Gr → R) : Prop :=
  ∀ (w : Wd) (g : Gr) (H : Hp) (x y : V) (d e : D) (Q : VK) (E : XK), SG X.K w g H → Rep X.K w x d → Rep X.K w y e → Out X.K w (op d e g) Q E → r x y H Q
theorem read_bin {r : R2} {op : D → D → Gr → R} (hs : OpS X r op) {σ : St} {H : Hp} {Q : VK} (h : tM X.K W (eBin op ma mb) σ H Q) : tOp r (tM X.K W ma) (tM X.K W mb) σ H Q := by
  obtain ⟨w, ρ, g, S0, L, o⟩ := h
  refine bindM S0 L o fun d1 g1 x H1 w1 le1 S1 L1 r1 o1 => ?_
  refine bindM S1 L1 o1 fun d2 g2 y H2 w2 le2 S2 L2' r2 o2 => ?_
  exact hs w2 g2 H2 x y d1 d2 Q _ S2 (r1.mono le2) r2 o2
theorem re_bin {op : Operator} {r : R2} {mo : D → D → Gr → R} (ho : OpR X (binaryOp op) r) (hs : OpS X r mo) (ha : RE X W a ma) (hb : RE X W b mb) : RE X W (.BinOp a op b pos) (eBin mo ma mb) :=
  pe_weak (pe_op ho ha hb) fun _ _ _ h => read_bin hs h
theorem re_cmp {op : CmpOp} {r : R2} {mo : D → D → Gr → R} (ho : OpR X (compareOp op) r) (hs : OpS X r mo) (ha : RE X W a ma) (hb : RE X W b mb) (hm : behindInMarks op b = false) : RE X W (.Compare a [op] [b] pos) (eBin mo ma mb) :=
  pe_weak (pe_cmpR ho ha hb hm) fun _ _ _ h => read_bin hs h
theorem test_of {t : TE} {m : Exp} (h : ∀ σ H Q, tM X.K W m σ H Q → t σ H Q) : ∀ σ H Q, tMT X.K W m σ H Q → tTest t σ H Q := fun σ H Q z => h σ H _ z
theorem rt_cmp {op : CmpOp} {r : R2} {mo : D → D → Gr → R} (ho : OpR X (compareOp op) r) (hs : OpS X r mo) (ha : RE X W a ma) (hb : RE X W b mb) (hm : behindInMarks op b = false) : RT X W (.Compare a [op] [b] pos) (eBin mo ma mb) :=
  pt_weak (pt_cmpR ho ha hb hm) (test_of fun _ _ _ h => read_bin hs h)
def eChain (p q : D → D → Gr → R) (a b c : Exp) : Exp := fun ρ g => (a ρ g).bind fun x g1 => (b ρ g1).bind fun y g2 => (p x y g2).bind fun z g3 => match z with
  | .bl true => (c ρ g3).bind fun u g4 => q y u g4
  | .bl false => .ok (.bl false) g3
  | _ => .no
theorem Out.bindR {K : PySem.W.Frag} {w : Wd} {r : R} {f : D → Gr → R} {Q Q1 : VK} {E E1 : XK} (o : Out K w (r.bind f) Q E) (hE : ∀ c d H, E c d H → E1 c d H)
    (k : ∀ d g' v H' w', w.Le w' → SG K w' g' H' → Rep K w' v d → Out K w' (f d g') Q E → Q1 v H') : Out K w r Q1 E1 := by
  cases r with
  | no => exact o
  | err c g => exact fun H' w' le s => hE _ _ _ (o H' w' le s)
  | ok d g => exact fun v H' w' le s r => k d g v H' w' le s r (Out.weak o le)
theorem rep_bl {K : PySem.W.Frag} {w : Wd} {v : V} {d : D} (b : Bool) (hd : d = .bl b) (h : Rep K w v d) : v = .bl b := by
  subst hd; simpa only [Rep] using h
theorem read_chain {c : Expr} {mc : Exp} {r r' : R2} {p q : D → D → Gr → R} (hs : OpS X r p) (hs' : OpS X r' q) {σ : St} {H : Hp} {Q : VK} (h : tM X.K W (eChain p q ma mb mc) σ H Q) : tChain r r' (tM X.K W ma) (tM X.K W mb) (tM X.K W mc) σ H Q := by
  obtain ⟨w, ρ, g, S0, L, o⟩ := h
  refine bindM S0 L o fun d1 g1 x H1 w1 le1 S1 L1 r1 o1 => ?_
  refine bindM S1 L1 o1 fun d2 g2 y H2 w2 le2 S2 L2' r2 o2 => ?_
  refine hs w2 g2 H2 x y d1 d2 _ (fun c d H' => W c d σ H') S2 (r1.mono le2) r2 (Out.bindR o2 (fun _ _ _ z => z) fun d3 g3 z H3 w3 le3 S3 r3 o3 => ?_)
  split at o3
  · refine ⟨true, rep_bl true rfl r3, ?_⟩
    rw [if_pos rfl]
    refine bindM S3 (L2'.mono le3) o3 fun d4 g4 u H4 w4 le4 S4 L4 r4 o4 => ?_
    exact hs' w4 g4 H4 y u d2 d4 Q _ S4 (r2.mono (le3.trans le4)) r4 o4
  · refine ⟨false, rep_bl false rfl r3, ?_⟩
    rw [if_neg Bool.false_ne_true]
    have e := rep_bl false rfl r3
    subst e
    exact Out.here o3 S3 r3
  · exact o3.elim
end
end Fw

set_option maxRecDepth 100000
set_option maxHeartbeats 4000000
namespace Fw
open PySem L2

theorem rep_bl' {K : PySem.W.Frag} {w : Wd} {b : Bool} : Rep K w (.bl b) (.bl b) := by simp only [Rep]
def D.br (d : D) (a b : R) : R := match d with
  | .bl true => a
  | .bl false => b
  | _ => .no
def eAnd (a b : Exp) : Exp := fun ρ g => (a ρ g).bind fun x g1 => x.br (b ρ g1) (.ok (.bl false) g1)
def eOr (a b : Exp) : Exp := fun ρ g => (a ρ g).bind fun x g1 => x.br (.ok (.bl true) g1) (b ρ g1)
def eNot (a : Exp) : Exp := fun ρ g => (a ρ g).bind fun x g1 => x.br (.ok (.bl false) g1) (.ok (.bl true) g1)
def eIf (c a b : Exp) : Exp := fun ρ g => (c ρ g).bind fun x g1 => x.br (a ρ g1) (b ρ g1)
theorem not_bl {d : D} {a b : R} (h : ∀ k, d ≠ .bl k) : d.br a b = .no := by
  cases d with
  | bl k => exact absurd rfl (h k)
  | _ => rfl

section
variable {K : PySem.W.Frag} {W : WX} {σ : St} {H : Hp} {w : Wd} {ρ : En} {g : Gr} {m : Exp}
theorem bindT {f : D → Gr → R} {Q : VK} {Q1 : Bool → Hp → Prop} (S0 : SG K w g H) (L : SL K w ρ σ) (o : Out K w ((m ρ g).bind f) Q fun c d H' => W c d σ H')
    (hf : ∀ d g', (∀ b, d ≠ .bl b) → f d g' = .no)
    (k : ∀ b g' H' w', w.Le w' → SG K w' g' H' → SL K w' ρ σ → Out K w' (f (.bl b) g') Q (fun c d H' => W c d σ H') → Q1 b H') : tMT K W m σ H Q1 := by
  refine ⟨w, ρ, g, S0, L, ?_⟩
  cases e : m ρ g with
  | no => rw [e] at o; exact o
  | err c g' => rw [e] at o; exact o
  | ok d g' =>
    rw [e] at o
    intro v H' w' le S' r
    have o2 : Out K w (f d g') Q fun c d H' => W c d σ H' := o
    by_cases hd : ∃ b, d = .bl b
    · obtain ⟨b, rfl⟩ := hd
      exact ⟨b, rep_bl b rfl r, k b g' H' w' le S' (L.mono le) (o2.weak le)⟩
    · rw [hf d g' fun b z => hd ⟨b, z⟩] at o2
      exact o2.elim
end
section
variable {X : Cx} {W : WX} {a b c e : Expr} {es : List Expr} {ma mb mc m : Exp} {pos : Pos}
theorem rw_and1 (ha : RT X W a ma) : RW X W (.BoolOp .And [a] pos) ma := pw_and1 ha
theorem rw_or1 (ha : RT X W a ma) : RW X W (.BoolOp .Or [a] pos) ma := pw_or1 ha
theorem rw_and (ha : RT X W a ma) (hb : RW X W (.BoolOp .And (b :: es) pos) mb) : RW X W (.BoolOp .And (a :: b :: es) pos) (eAnd ma mb) := by
  refine pw_weak (pw_and ha hb) ?_
  rintro σ H Q ⟨w, ρ, g, S0, L, o⟩
  refine bindT S0 L o (fun d g' h => not_bl h) fun b g' H' w' le S' L' o' => ?_
  cases b with
  | true => rw [if_pos rfl]; exact ⟨w', ρ, g', S', L', o'⟩
  | false =>
    rw [if_neg Bool.false_ne_true]
    obtain ⟨b', e, q⟩ := Out.here (d := .bl false) o' S' rep_bl'
    cases e; exact q
theorem rw_or (ha : RT X W a ma) (hb : RW X W (.BoolOp .Or (b :: es) pos) mb) : RW X W (.BoolOp .Or (a :: b :: es) pos) (eOr ma mb) := by
  refine pw_weak (pw_or ha hb) ?_
  rintro σ H Q ⟨w, ρ, g, S0, L, o⟩
  refine bindT S0 L o (fun d g' h => not_bl h) fun b g' H' w' le S' L' o' => ?_
  cases b with
  | true =>
    rw [if_pos rfl]
    obtain ⟨b', e, q⟩ := Out.here (d := .bl true) o' S' rep_bl'
    cases e; exact q
  | false => rw [if_neg Bool.false_ne_true]; exact ⟨w', ρ, g', S', L', o'⟩
theorem rt_bool {op} (h : RW X W (.BoolOp op es pos) m) : RT X W (.BoolOp op es pos) m := PW.pt h
theorem rt_not (ha : RT X W a ma) : RT X W (.UnaryOp .Not a pos) (eNot ma) := by
  refine pt_weak (pt_not ha) ?_
  rintro σ H Q ⟨w, ρ, g, S0, L, o⟩
  refine bindT S0 L o (fun d g' h => not_bl h) fun b g' H' w' le S' L' o' => ?_
  cases b with
  | true =>
    obtain ⟨b', e, q⟩ := Out.here (d := .bl false) o' S' rep_bl'
    cases e; exact q
  | false =>
    obtain ⟨b', e, q⟩ := Out.here (d := .bl true) o' S' rep_bl'
    cases e; exact q
theorem rt_val (h : RE X W e m) (he : ∀ whole, isTrue e X.env whole = (do let v ← whole; standAt e.pos; holding [v] (truthy v)) := by intro _; rfl) : RT X W e m :=
  pt_weak (pt_val h he) fun _ _ _ z => z
theorem re_one {op} (h : RE X W a m) : RE X W (.BoolOp op [a] pos) m := pe_one h
theorem re_and (ha : RE X W a ma) (hb : RE X W (.BoolOp .And (b :: es) pos) mb) : RE X W (.BoolOp .And (a :: b :: es) pos) (eAnd ma mb) := by
  refine pe_weak (pe_and ha hb) ?_
  rintro σ H Q ⟨w, ρ, g, S0, L, o⟩
  refine bindM S0 L o fun d g' v H' w' le S' L' r o' => ?_
  by_cases hd : ∃ b, d = .bl b
  · obtain ⟨b, rfl⟩ := hd
    have e := rep_bl b rfl r
    subst e
    refine ⟨b, rfl, ?_⟩
    cases b with
    | true => rw [if_pos rfl]; exact ⟨w', ρ, g', S', L', o'⟩
    | false => rw [if_neg Bool.false_ne_true]; exact Out.here o' S' r
  · rw [not_bl fun b z => hd ⟨b, z⟩] at o'
    exact o'.elim
theorem re_or (ha : RE X W a ma) (hb : RE X W (.BoolOp .Or (b :: es) pos) mb) : RE X W (.BoolOp .Or (a :: b :: es) pos) (eOr ma mb) := by
  refine pe_weak (pe_or ha hb) ?_
  rintro σ H Q ⟨w, ρ, g, S0, L, o⟩
  refine bindM S0 L o fun d g' v H' w' le S' L' r o' => ?_
  by_cases hd : ∃ b, d = .bl b
  · obtain ⟨b, rfl⟩ := hd
    have e := rep_bl b rfl r
    subst e
    refine ⟨b, rfl, ?_⟩
    cases b with
    | true => rw [if_pos rfl]; exact Out.here o' S' r
    | false => rw [if_neg Bool.false_ne_true]; exact ⟨w', ρ, g', S', L', o'⟩
  · rw [not_bl fun b z => hd ⟨b, z⟩] at o'
    exact o'.elim
theorem re_ifx (hc : RT X W c mc) (ha : RE X W a ma) (hb : RE X W b mb) : RE X W (.IfExp c a b pos) (eIf mc ma mb) := by
  refine pe_weak (pe_ifExp hc ha hb) ?_
  rintro σ H Q ⟨w, ρ, g, S0, L, o⟩
  refine bindT S0 L o (fun d g' h => not_bl h) fun b g' H' w' le S' L' o' => ?_
  cases b with
  | true => rw [if_pos rfl]; exact ⟨w', ρ, g', S', L', o'⟩
  | false => rw [if_neg Bool.false_ne_true]; exact ⟨w', ρ, g', S', L', o'⟩

def aNil : Exps := fun _ g => .ok [] g
def aCons (a : Exp) (as : Exps) : Exps := fun ρ g => match a ρ g with
  | .ok d g1 => (match as ρ g1 with
    | .ok ds g2 => .ok (d :: ds) g2
    | .err c g2 => .err c g2
    | .no => .no)
  | .err c g1 => .err c g1
  | .no => .no
variable {ms : Exps}
theorem ra_nil : RA X W [] aNil := by
  refine pa_weak pa_nil ?_
  rintro σ H Q ⟨w, ρ, g, S0, L, o⟩
  exact o [] H w (Wd.Le.refl w) S0 (by simp only [RepL])
theorem ra_cons (ha : RE X W e m) (hs : RA X W es ms) (hst : starEach (e :: es) X.env = (false, eval e X.env) :: starEach es X.env := by rfl) : RA X W (e :: es) (aCons m ms) := by
  refine pa_weak (pa_cons ha hs hst) ?_
  rintro σ H Q ⟨w, ρ, g, S0, L, o⟩
  unfold aCons at o
  refine ⟨w, ρ, g, S0, L, ?_⟩
  cases e1 : m ρ g with
  | no => rw [e1] at o; exact o
  | err c g' => rw [e1] at o; exact o
  | ok d g1 =>
    rw [e1] at o
    intro v H1 w1 le1 S1 r1
    refine ⟨w1, ρ, g1, S1, L.mono le1, ?_⟩
    cases e2 : ms ρ g1 with
    | no => simp only [e2] at o; exact o
    | err c g' =>
      simp only [e2] at o
      exact fun H2 w2 le2 s2 => o H2 w2 (le1.trans le2) s2
    | ok ds g2 =>
      simp only [e2] at o
      intro vs H2 w2 le2 S2 r2
      exact o (v :: vs) H2 w2 (le1.trans le2) S2 (by simp only [RepL]; exact ⟨v, vs, rfl, r1.mono le2, r2⟩)
def eArgs (f : Fn) (as : Exps) : Exp := fun ρ g => (as ρ g).bind f
def fTup : Fn := fun ds g => if ds.length ≤ sizeLine then .ok (.tup ds) g else .no
def fLst : Fn := fun ds g => if ds.length ≤ sizeLine then .ok (.lst ds) g else .no
def fCel : Fn := fun ds g => if ds.length ≤ sizeLine then .ok (.obj g.length) (g ++ [.lst ds]) else .no
theorem re_tup {x1} (h : RA X W es ms) : RE X W (.Tuple es x1 pos) (eArgs fTup ms) := by
  refine pe_weak (pe_tup h) ?_
  rintro σ H Q ⟨w, ρ, g, S0, L, o⟩
  refine bindA S0 L o fun ds g' vs H' w' le S' L' r o' => ?_
  unfold fTup at o'
  split at o'
  · exact ⟨by rw [r.length]; assumption, Out.newT o' S' r⟩
  · exact o'.elim
theorem re_lst (h : RA X W es ms) : RE X W (.List es pos) (eArgs fLst ms) := by
  refine pe_weak (pe_lst h) ?_
  rintro σ H Q ⟨w, ρ, g, S0, L, o⟩
  refine bindA S0 L o fun ds g' vs H' w' le S' L' r o' => ?_
  unfold fLst at o'
  split at o'
  · exact ⟨by rw [r.length]; assumption, Out.newL o' S' r⟩
  · exact o'.elim
theorem re_cel (h : RA X W es ms) : RE X W (.List es pos) (eArgs fCel ms) := by
  refine pe_weak (pe_lst h) ?_
  rintro σ H Q ⟨w, ρ, g, S0, L, o⟩
  refine bindA S0 L o fun ds g' vs H' w' le S' L' r o' => ?_
  unfold fCel at o'
  split at o'
  · exact ⟨by rw [r.length]; assumption, Out.newC o' S' r⟩
  · exact o'.elim
def eFrz (a : Exp) : Exp := fun ρ g => (a ρ g).bind fun d g1 => match d with
  | .obj l => (match g1[l]? with
    | some (.lst ds) => .ok (.lst ds) (g1.set l .dead)
    | _ => .no)
  | d => .ok d g1
theorem re_frz (h : RE X W e m) : RE X W e (eFrz m) := by
  refine pe_weak h ?_
  rintro σ H Q ⟨w, ρ, g, S0, L, o⟩
  refine bindM S0 L o fun d g1 v H' w' le S' L' r o' => ?_
  split at o'
  · rename_i l
    split at o'
    · rename_i ds hl
      obtain ⟨w2, le2, S2, r2⟩ := S'.freeze hl
      simp only [Rep] at r
      obtain ⟨_, rfl⟩ := r
      exact o' _ _ _ le2 S2 r2
    · exact o'.elim
  · exact Out.here o' S' r
end

abbrev Tg := D → En → Gr → Option (En × Gr)
abbrev Tgs := List D → En → Gr → Option (En × Gr)
def Agr (vs : List Nat) (σ σ' : St) : Prop := σ'.length = σ.length ∧ ∀ i, i ∉ vs → σ'[i]? = σ[i]?
theorem Agr.refl (vs : List Nat) (σ : St) : Agr vs σ σ := ⟨rfl, fun _ _ => rfl⟩
theorem Agr.trans {vs : List Nat} {a b c : St} (p : Agr vs a b) (q : Agr vs b c) : Agr vs a c := ⟨q.1.trans p.1, fun i h => (q.2 i h).trans (p.2 i h)⟩
theorem Agr.set {vs : List Nat} {i : Nat} (h : i ∈ vs) (σ : St) (v : Option V) : Agr vs σ (σ.set i v) :=
  ⟨by simp, fun j hj => by rw [List.getElem?_set_ne]; intro e; exact hj (e ▸ h)⟩
def OutG (K : PySem.W.Frag) (w : Wd) (σ0 : St) (vs : List Nat) (r : Option (En × Gr)) (Q : St → Hp → Prop) : Prop :=
  match r with
  | some (ρ, g) => ∀ σ H w', w.Le w' → SG K w' g H → SL K w' ρ σ → Agr vs σ0 σ → Q σ H
  | none => False
theorem OutG.weak {K : PySem.W.Frag} {w w' : Wd} {σ0 σ1 : St} {vs : List Nat} {r : Option (En × Gr)} {Q : St → Hp → Prop} (o : OutG K w σ0 vs r Q) (e : w.Le w') (a : Agr vs σ0 σ1) : OutG K w' σ1 vs r Q := by
  cases r with
  | some p => exact fun x b c l s t q => o x b c (e.trans l) s t (a.trans q)
  | none => exact o
def tMG (K : PySem.W.Frag) (vs : List Nat) (mt : Tg) : TG := fun v σ H Q => ∃ w ρ g d, SG K w g H ∧ SL K w ρ σ ∧ Rep K w v d ∧ OutG K w σ vs (mt d ρ g) Q
def tMGs (K : PySem.W.Frag) (vs : List Nat) (mt : Tgs) : TGs := fun us σ H Q => ∃ w ρ g ds, SG K w g H ∧ SL K w ρ σ ∧ RepL K w us ds ∧ OutG K w σ vs (mt ds ρ g) Q
def RG (X : Cx) (vs : List Nat) (tg : Expr) (mt : Tg) : Prop := PG X tg (tMG X.K vs mt)
def RGs (X : Cx) (vs : List Nat) (tg : List Expr) (mt : Tgs) : Prop := PGs X tg (tMGs X.K vs mt)
theorem pg_weak {X : Cx} {e : Expr} {t t' : TG} (h : PG X e t) (k : ∀ v σ H Q, t' v σ H Q → t v σ H Q) : PG X e t' := ⟨fun pins s σ H v u Q I r z => h.run pins s σ H v u Q I r (k _ _ _ _ z)⟩
theorem pgs_weak {X : Cx} {e : List Expr} {t t' : TGs} (h : PGs X e t) (k : ∀ v σ H Q, t' v σ H Q → t v σ H Q) : PGs X e t' := ⟨fun pins s σ H v u Q I r z => h.run pins s σ H v u Q I r (k _ _ _ _ z)⟩
def gVar (i : Nat) : Tg := fun d ρ g => some (ρ.set i (some d), g)
def gsNil : Tgs := fun ds ρ g => match ds with
  | [] => some (ρ, g)
  | _ => none
def gsCons (a : Tg) (as : Tgs) : Tgs := fun ds ρ g => match ds with
  | d :: r => (match a d ρ g with
    | some (ρ1, g1) => as r ρ1 g1
    | none => none)
  | [] => none
def gUnp (n : Nat) (as : Tgs) : Tg := fun d ρ g => match d with
  | .tup ds => if ds.length = n then as ds ρ g else none
  | _ => none
section
variable {X : Cx} {tg : Expr} {tgs : List Expr} {mt : Tg} {mts : Tgs} {pos : Pos} {vs : List Nat}
theorem rg_var (i : Nat) {x : Str} (hN : X.N.Nodup) (hv : i ∈ vs := by decide) (hi : X.N[i]? = some x := by rfl) (hx : Loc X.env.scope x := by first | exact Or.inl rfl | exact Or.inr rfl)
    (hf : X.fn x = true ∨ X.env.scope.names.lookup x = some .local := by first | exact .inl rfl | exact .inr rfl | assumption) : RG X vs (.Name x pos) (gVar i) := by
  refine pg_weak (pg_name (i := i) hN hi hx hf) ?_
  rintro v σ H Q ⟨w, ρ, g, d, S0, L, r, o⟩
  exact o _ _ w (Wd.Le.refl w) S0 (L.set r) (Agr.set hv _ _)
theorem rgs_nil : RGs X vs [] gsNil := by
  refine pgs_weak pgs_nil ?_
  rintro v σ H Q ⟨w, ρ, g, ds, S0, L, r, o⟩
  cases ds with
  | nil =>
    simp only [RepL] at r
    exact ⟨r, o _ _ w (Wd.Le.refl w) S0 L (Agr.refl _ _)⟩
  | cons d ds => exact o.elim
theorem rgs_cons (h1 : RG X vs tg mt) (h2 : RGs X vs tgs mts) (hs : (assignEach (tg :: tgs) X.env).map (·.2) = assign tg X.env :: (assignEach tgs X.env).map (·.2) := by rfl) : RGs X vs (tg :: tgs) (gsCons mt mts) := by
  refine pgs_weak (pgs_cons h1 h2 hs) ?_
  rintro v σ H Q ⟨w, ρ, g, ds, S0, L, r, o⟩
  cases ds with
  | nil => exact o.elim
  | cons d ds =>
    simp only [RepL] at r
    obtain ⟨x, xs, rfl, r1, r2⟩ := r
    refine ⟨x, xs, rfl, w, ρ, g, d, S0, L, r1, ?_⟩
    unfold gsCons at o
    cases e : mt d ρ g with
    | none => simp only [e] at o; exact o
    | some p =>
      simp only [e] at o
      exact fun σ1 H1 w1 le1 S1 L1 a1 => ⟨w1, _, _, ds, S1, L1, r2.mono le1, OutG.weak o le1 a1⟩
theorem rg_unp {k : Nat} (n : Nat) (hc : X.calm = true) (h : RGs X vs tgs mts) (hn : (assignEach tgs X.env).length = n := by rfl) (hst : (assignEach tgs X.env).findIdx? (·.1) = none := by rfl) : RG X vs (.Tuple tgs k pos) (gUnp n mts) := by
  refine pg_weak (pg_tup (n := n) hc h hn hst) ?_
  rintro v σ H Q ⟨w, ρ, g, d, S0, L, r, o⟩
  unfold gUnp at o
  split at o
  · rename_i ds
    split at o
    · rename_i hl
      simp only [Rep] at r
      obtain ⟨a, xs, rfl, h1, h2⟩ := r
      exact ⟨a, xs, rfl, S0.ex.sqT h1, by rw [h2.length]; exact hl, w, ρ, g, ds, S0, L, h2, o⟩
    · exact o.elim
  · exact o.elim
end
end Fw

set_option maxRecDepth 100000
set_option maxHeartbeats 4000000
namespace Fw
open PySem L2

def S.bind : S → (En → Gr → S) → S
  | .nx ρ g, f => f ρ g
  | s, _ => s
def sNil : Stm := fun ρ g => .nx ρ g
def sSeq (a b : Stm) : Stm := fun ρ g => (a ρ g).bind b
def R.toS (r : R) (ρ : En) (f : D → Gr → S) : S := match r with
  | .ok d g => f d g
  | .err c g => .err c ρ g
  | .no => .no
def sRet (a : Exp) : Stm := fun ρ g => (a ρ g).toS ρ fun d g1 => .ret d g1
def sRetN : Stm := fun _ g => .ret .non g
def sDo (a : Exp) : Stm := fun ρ g => (a ρ g).toS ρ fun _ g1 => .nx ρ g1
def sAsg (t : Tg) (a : Exp) : Stm := fun ρ g => (a ρ g).toS ρ fun d g1 => match t d ρ g1 with
  | some (ρ2, g2) => .nx ρ2 g2
  | none => .no
def D.brS (d : D) (a b : S) : S := match d with
  | .bl true => a
  | .bl false => b
  | _ => .no
def sIf (c : Exp) (a b : Stm) : Stm := fun ρ g => (c ρ g).toS ρ fun x g1 => x.brS (a ρ g1) (b ρ g1)
def sBrk : Stm := fun ρ g => .bk ρ g
def sCnt : Stm := fun ρ g => .ct ρ g

section
variable {K : PySem.W.Frag} {W : WX} {σ : St} {H : Hp} {w : Wd} {ρ : En} {g : Gr} {m : Exp} {Dn : Ends}
theorem bindSM {f : D → Gr → S} {Q1 : VK} (S0 : SG K w g H) (L : SL K w ρ σ) (o : OutS K w ((m ρ g).toS ρ f) Dn W)
    (k : ∀ d g' v H' w', w.Le w' → SG K w' g' H' → SL K w' ρ σ → Rep K w' v d → OutS K w' (f d g') Dn W → Q1 v H') : tM K W m σ H Q1 := by
  refine ⟨w, ρ, g, S0, L, ?_⟩
  cases e : m ρ g with
  | no => rw [e] at o; exact o
  | err c g' => rw [e] at o; exact fun H' w' le S' => o σ H' w' le S' (L.mono le)
  | ok d g' =>
    rw [e] at o
    exact fun v H' w' le S' r => k d g' v H' w' le S' (L.mono le) r (OutS.weak (r := f d g') o le)
theorem bindST {f : D → Gr → S} {Q1 : Bool → Hp → Prop} (S0 : SG K w g H) (L : SL K w ρ σ) (o : OutS K w ((m ρ g).toS ρ f) Dn W) (hf : ∀ d g', (∀ b, d ≠ .bl b) → f d g' = .no)
    (k : ∀ b g' H' w', w.Le w' → SG K w' g' H' → SL K w' ρ σ → OutS K w' (f (.bl b) g') Dn W → Q1 b H') : tMT K W m σ H Q1 := by
  refine ⟨w, ρ, g, S0, L, ?_⟩
  cases e : m ρ g with
  | no => rw [e] at o; exact o
  | err c g' => rw [e] at o; exact fun H' w' le S' => o σ H' w' le S' (L.mono le)
  | ok d g' =>
    rw [e] at o
    intro v H' w' le S' r
    have o2 : OutS K w (f d g') Dn W := o
    by_cases hd : ∃ b, d = .bl b
    · obtain ⟨b, rfl⟩ := hd
      exact ⟨b, rep_bl b rfl r, k b g' H' w' le S' (L.mono le) (o2.weak le)⟩
    · rw [hf d g' fun b z => hd ⟨b, z⟩] at o2
      exact o2.elim
end
section
variable {X : Cx} {W : WX} {e c : Expr} {tg : Expr} {st : Stmt} {rest a b : List Stmt} {m mc : Exp} {mt : Tg} {ms ms' ma mb : Stm} {pos : Pos} {vs : List Nat}
theorem rb_nil : RB X W [] sNil := by
  refine pss_weak pss_nil ?_
  rintro Dn σ H ⟨w, ρ, g, S0, L, o⟩
  exact o σ H w (Wd.Le.refl w) S0 L
theorem rb_one (h : RS X W st ms) : RB X W [st] ms := pss_one h
theorem rb_cons (h1 : RS X W st ms) (h2 : RB X W rest ms') : RB X W (st :: rest) (sSeq ms ms') := by
  refine pss_weak (pss_cons h1 h2) ?_
  rintro Dn σ H ⟨w, ρ, g, S0, L, o⟩
  refine ⟨w, ρ, g, S0, L, ?_⟩
  unfold sSeq at o
  cases e : ms ρ g with
  | nx ρ1 g1 =>
    rw [e] at o
    exact fun σ1 H1 w1 le1 S1 L1 => ⟨w1, ρ1, g1, S1, L1, OutS.weak (r := ms' ρ1 g1) o le1⟩
  | ret d g1 => rw [e] at o; exact o
  | bk ρ1 g1 => rw [e] at o; exact o
  | ct ρ1 g1 => rw [e] at o; exact o
  | err c' ρ1 g1 => rw [e] at o; exact o
  | no => rw [e] at o; exact o
theorem rs_ret (h : RE X W e m) : RS X W (.Return (some e) pos) (sRet m) := by
  refine ps_weak (ps_ret h) ?_
  rintro Dn σ H ⟨w, ρ, g, S0, L, o⟩
  exact bindSM S0 L o fun d g' v H' w' le S' L' r o' => o' v H' w' (Wd.Le.refl w') S' r
theorem rs_do (h : RE X W e m) (hs : swapsWith e none pos.line X.env = pure false := by rfl) : RS X W (.Expr e pos) (sDo m) := by
  refine ps_weak (ps_expr h hs) ?_
  rintro Dn σ H ⟨w, ρ, g, S0, L, o⟩
  exact bindSM S0 L o fun d g' v H' w' le S' L' r o' => o' σ H' w' (Wd.Le.refl w') S' L'
theorem read_asg {Dn : Ends} {σ : St} {H : Hp} (h : tMS X.K W (sAsg mt m) Dn σ H) : tAsg (tM X.K W m) (tMG X.K vs mt) Dn σ H := by
  obtain ⟨w, ρ, g, S0, L, o⟩ := h
  refine bindSM S0 L o fun d g' v H' w' le S' L' r o' => ⟨w', ρ, g', d, S', L', r, ?_⟩
  cases e : mt d ρ g' with
  | none => rw [e] at o'; exact o'.elim
  | some p => rw [e] at o'; exact fun σ1 H1 w1 l1 s1 L1 _ => o' σ1 H1 w1 l1 s1 L1
theorem rs_asg (h : RE X W e m) (ht : RG X vs tg mt) (hs : swapsWithSole [tg] e pos.line X.env = pure false := by rfl) (hw : swappedStores [tg] e X.env = pure none := by rfl)
    (h1 : (assignEach [tg] X.env).map (·.2) = [assign tg X.env] := by rfl) : RS X W (.Assign [tg] e pos) (sAsg mt m) :=
  ps_weak (ps_asg h ht hs hw h1) fun _ _ _ z => read_asg z
theorem rs_set (i : Nat) {x : Str} {pos' : Pos} (h : RE X W e m) (hN : X.N.Nodup) (hi : X.N[i]? = some x := by rfl) (hx : Loc X.env.scope x := by first | exact Or.inl rfl | exact Or.inr rfl) (hs : swapsWith e (some (.Name x pos')) pos.line X.env = pure false := by rfl)
    (hf : X.fn x = true ∨ X.env.scope.names.lookup x = some .local := by first | exact .inl rfl | exact .inr rfl | assumption) : RS X W (.Assign [.Name x pos'] e pos) (sAsg (gVar i) m) := by
  refine ps_weak (ps_set (i := i) hN hi hx h hs hf) ?_
  rintro Dn σ H ⟨w, ρ, g, S0, L, o⟩
  exact bindSM S0 L o fun d g' v H' w' le S' L' r o' => o' _ _ w' (Wd.Le.refl w') S' (L'.set r)
theorem rs_if (hc : RT X W c mc) (ha : RB X W a ma) (hb : RB X W b mb) : RS X W (.If c a b pos) (sIf mc ma mb) := by
  refine ps_weak (ps_if hc ha hb) ?_
  rintro Dn σ H ⟨w, ρ, g, S0, L, o⟩
  refine bindST S0 L o (fun d g' h => ?_) fun b g' H' w' le S' L' o' => ?_
  · cases d with
    | bl k => exact absurd rfl (h k)
    | _ => rfl
  · cases b with
    | true => rw [if_pos rfl]; exact ⟨w', ρ, g', S', L', o'⟩
    | false => rw [if_neg Bool.false_ne_true]; exact ⟨w', ρ, g', S', L', o'⟩
end

structure Fol (K : PySem.W.Frag) (J : It) (ds : List D) (kp : Gr → Prop) (w0 : Wd) : Prop where
  stop : ∀ (i : Nat) (H : Hp) (w : Wd) (g : Gr), w0.Le w → SG K w g H → kp g → ds.length ≤ i → J.stop i H
  go : ∀ (i : Nat) (H : Hp) (w : Wd) (g : Gr), w0.Le w → SG K w g H → kp g → i < ds.length → J.go i H
  yld : ∀ (i : Nat) (H : Hp) (x : V) (H' : Hp) (w : Wd) (g : Gr) (d : D), w0.Le w → SG K w g H → kp g → ds[i]? = some d → J.yld i H x H' → ∃ w', w.Le w' ∧ SG K w' g H' ∧ Rep K w' x d
inductive RI where | ok (ds : List D) (kp : Gr → Prop) (g : Gr) | err (c : Str) (g : Gr) | no
abbrev Src := En → Gr → RI
def OutI (K : PySem.W.Frag) (w : Wd) (r : RI) (R : It → Hp → Prop) (E : XK) : Prop :=
  match r with
  | .ok ds kp g => ∀ J H w', w.Le w' → SG K w' g H → Fol K J ds kp w' → R J H
  | .err c g => ∀ H w', w.Le w' → SG K w' g H → E (.ref (He.ga K c)) none H
  | .no => False
def tMI (K : PySem.W.Frag) (W : WX) (m : Src) : TI := fun σ H R => ∃ w ρ g, SG K w g H ∧ SL K w ρ σ ∧ OutI K w (m ρ g) R fun c d H' => W c d σ H'
def RSrc (X : Cx) (W : WX) (tg iter : Expr) (m : Src) : Prop := PI X tg iter (tMI X.K W m)
theorem pi_weak {X : Cx} {tg iter : Expr} {t t' : TI} (h : PI X tg iter t) (k : ∀ σ H R, t' σ H R → t σ H R) : PI X tg iter t' := ⟨fun pins s σ H R I z => h.run pins s σ H R I (k _ _ _ z)⟩

open Classical in
noncomputable def sLoop (kp : Gr → Prop) (t : Tg) (b : Stm) : List D → Stm
  | [], ρ, g => if kp g then .nx ρ g else .no
  | d :: ds, ρ, g => if kp g then (match t d ρ g with
    | some (ρ1, g1) => (match b ρ1 g1 with
      | .nx ρ2 g2 => sLoop kp t b ds ρ2 g2
      | .ct ρ2 g2 => sLoop kp t b ds ρ2 g2
      | .bk ρ2 g2 => .nx ρ2 g2
      | .ret d g2 => .ret d g2
      | .err c ρ2 g2 => .err c ρ2 g2
      | .no => .no)
    | none => .no) else .no
noncomputable def sFor (s : Src) (t : Tg) (b : Stm) : Stm := fun ρ g => match s ρ g with
  | .ok ds kp g1 => sLoop kp t b ds ρ g1
  | .err c g1 => .err c ρ g1
  | .no => .no

section
variable {X : Cx} {W : WX} {tg iter : Expr} {body : List Stmt} {ms : Src} {mt : Tg} {mb : Stm} {pos : Pos} {vs : List Nat}
theorem rs_for (hp : PassesOwn (model X.prog X.w) X.A X.env X.xe) (hc : X.calm = true) (hi : RSrc X W tg iter ms) (hg : RG X vs tg mt) (hb : RB X W body mb) (hs : ∀ x, foldedSetIterable iter X.env x = pure x := by intro _; rfl) :
    RS X W (.For tg iter body [] pos) (sFor ms mt mb) := by
  refine ps_weak (ps_for hp hc hi hg hb hs) ?_
  rintro Dn σ H ⟨w, ρ, g, S0, L, o⟩
  refine ⟨w, ρ, g, S0, L, ?_⟩
  unfold sFor at o
  cases e : ms ρ g with
  | no => simp only [e] at o; exact o
  | err c g1 => simp only [e] at o; exact fun H' w' le S' => o σ H' w' le S' (L.mono le)
  | ok ds kp g1 =>
    simp only [e] at o
    intro J H1 w1 le1 S1 F
    refine ⟨fun i m σ' H' => m = ds.length - i ∧ i ≤ ds.length ∧ ∃ w' ρ' g', w1.Le w' ∧ SG X.K w' g' H' ∧ SL X.K w' ρ' σ' ∧ OutS X.K w' (sLoop kp mt mb (ds.drop i) ρ' g') Dn W,
      ⟨ds.length, rfl, Nat.zero_le _, w1, ρ, g1, Wd.Le.refl _, S1, L.mono le1, OutS.weak o le1⟩, ?_⟩
    rintro i m σ' H' ⟨rfl, hi, w2, ρ2, g2, le2, S2, L2', o2⟩
    by_cases hlt : i < ds.length
    · rw [List.drop_eq_getElem_cons hlt] at o2
      unfold sLoop at o2
      split at o2
      · rename_i hk
        refine .inr ⟨F.go i H' w2 g2 le2 S2 hk hlt, fun σ3 H3 => ∃ w' ρ' g', w1.Le w' ∧ SG X.K w' g' H3 ∧ SL X.K w' ρ' σ3 ∧ OutS X.K w' (sLoop kp mt mb (ds.drop (i + 1)) ρ' g') Dn W, fun σ3 H3 z => ⟨ds.length - (i + 1), by omega, rfl, hlt, z⟩, fun x H3 y => ?_⟩
        obtain ⟨w3, le3, S3, r3⟩ := F.yld i H' x H3 w2 g2 ds[i] le2 S2 hk (by simp [hlt]) y
        refine ⟨w3, ρ2, g2, ds[i], S3, L2'.mono le3, r3, ?_⟩
        cases e4 : mt ds[i] ρ2 g2 with
        | none => simp only [e4] at o2; exact o2
        | some p =>
          obtain ⟨ρ4, g4⟩ := p
          simp only [e4] at o2
          intro σ4 H4 w4 le4 S4 L4 _
          refine ⟨w4, ρ4, g4, S4, L4, ?_⟩
          have up : w2.Le w4 := le3.trans le4
          cases e5 : mb ρ4 g4 with
          | no => simp only [e5] at o2; exact o2
          | nx ρ5 g5 =>
            simp only [e5] at o2
            exact fun σ5 H5 w5 le5 S5 L5 => ⟨w5, ρ5, g5, le2.trans (up.trans le5), S5, L5, OutS.weak o2 (up.trans le5)⟩
          | ct ρ5 g5 =>
            simp only [e5] at o2
            exact fun σ5 H5 w5 le5 S5 L5 => ⟨w5, ρ5, g5, le2.trans (up.trans le5), S5, L5, OutS.weak o2 (up.trans le5)⟩
          | bk ρ5 g5 =>
            simp only [e5] at o2
            exact fun σ5 H5 w5 le5 S5 L5 => o2 σ5 H5 w5 (up.trans le5) S5 L5
          | ret d5 g5 =>
            simp only [e5] at o2
            exact fun v5 H5 w5 le5 S5 r5 => o2 v5 H5 w5 (up.trans le5) S5 r5
          | err c5 ρ5 g5 =>
            simp only [e5] at o2
            exact fun σ5 H5 w5 le5 S5 L5 => o2 σ5 H5 w5 (up.trans le5) S5 L5
      · exact o2.elim
    · have e1 : i = ds.length := by omega
      subst e1
      rw [List.drop_length] at o2
      unfold sLoop at o2
      split at o2
      · rename_i hk
        exact .inl ⟨F.stop _ H' w2 g2 le2 S2 hk (Nat.le_refl _), o2 σ' H' w2 (Wd.Le.refl _) S2 L2'⟩
      · exact o2.elim
end

def wipeR (ρ : En) : List Nat → En
  | [] => ρ
  | v :: vs => (wipeR ρ vs).set v none
theorem wipe_sl {K : PySem.W.Frag} {w : Wd} {ρ : En} {σ : St} (s : SL K w ρ σ) : ∀ vs : List Nat, SL K w (wipeR ρ vs) (wipe σ vs)
  | [] => s
  | v :: vs => (wipe_sl s vs).del none
theorem wipe_at {σ : St} {i : Nat} : ∀ {vs : List Nat}, i ∈ vs → i < σ.length → (wipe σ vs)[i]? = some none
  | v :: vs, h, hl => by
    unfold wipe
    by_cases z : v = i
    · subst z
      rw [List.getElem?_set_self (by rw [wipe_length]; exact hl)]
    · rw [List.getElem?_set_ne z]
      exact wipe_at ((List.mem_cons.mp h).resolve_left fun e => z e.symm) hl
theorem wipe_agr {vs : List Nat} {σ σ2 : St} (a : Agr vs (wipe σ vs) σ2) : wipe σ2 vs = wipe σ vs := by
  have hl : σ2.length = σ.length := a.1.trans (wipe_length _ _)
  refine List.ext_getElem? fun i => ?_
  by_cases hv : i ∈ vs
  · by_cases hi : i < σ.length
    · rw [wipe_at hv hi, wipe_at hv (by omega)]
    · rw [List.getElem?_eq_none (by rw [wipe_length]; omega), List.getElem?_eq_none (by rw [wipe_length]; omega)]
  · rw [wipe_out hv, a.2 i hv]
def eYes : Exp := fun _ g => .ok (.bl true) g
open Classical in
noncomputable def lcLoop (kp : Gr → Prop) (t : Tg) (c e : Exp) (ρ : En) (fin : List D → Gr → R) : List D → List D → Gr → R
  | [], acc, g => if kp g then fin acc g else .no
  | d :: ds, acc, g => if kp g ∧ acc.length < sizeLine then (match t d ρ g with
      | some (ρ1, g1) => (match c ρ1 g1 with
        | .ok x g2 => x.br (match e ρ1 g2 with
          | .ok y g3 => lcLoop kp t c e ρ fin ds (acc ++ [y]) g3
          | _ => .no) (lcLoop kp t c e ρ fin ds acc g2)
        | _ => .no)
      | none => .no) else .no
noncomputable def eLc (fin : List D → Gr → R) (s : Src) (vs : List Nat) (t : Tg) (c e : Exp) : Exp := fun ρ g => match s ρ g with
  | .ok ds kp g1 => lcLoop kp t c e (wipeR ρ vs) fin ds [] g1
  | .err c g1 => .err c g1
  | .no => .no
def finF (ds : List D) (g : Gr) : R := .ok (.lst ds) g
def FinOk (K : PySem.W.Frag) (fin : List D → Gr → R) : Prop := ∀ (w1 w : Wd) (g : Gr) (H H1 : Hp) (p : Addr) (acc : List D) (xs : List V) (Q : VK) (E : XK), w1.Le w → Exn w1.fr H1 → H1 p = none → SG K w g H → w.fr p = some (.lst xs) → RepL K w xs acc →
  Out K w1 (fin acc g) Q E → Q (.ref p) H
section
variable {K : PySem.W.Frag} {w w1 : Wd} {g : Gr} {H : Hp} {p : Addr}
theorem SG.asideF (S : SG K w g H) {fr : Hp} (e : Exn fr w.fr) (hn : fr p = none) {xs : List V} (hp : w.fr p = some (.lst xs)) : SG K ⟨upd w.F p (.lst xs), w.mm, w.n, fr⟩ g H := by
  have hH : H p = some (.lst xs) := S.fx p _ hp
  refine ⟨fun a u q => ?_, S.n, fun l c h => ?_, S.inj, e.trans S.fx, fun a u q => ?_, fun a u l c q h v => S.fc a u l c (e a u q) h v⟩
  · have q' : upd w.F p (.lst xs) a = some u := q
    by_cases z : a = p
    · subst z; rw [upd_same] at q'; rw [← q']; exact hH
    · rw [upd_ne z] at q'; exact S.ex a u q'
  · refine (S.cell l c h).mono (show Wd.Lo w ⟨upd w.F p (.lst xs), w.mm, w.n, fr⟩ from ⟨Exn.add (S.ff p _ hp), fun _ _ => rfl, Nat.le_refl _⟩) (fun lv f => ?_) (fun _ => rfl)
    show upd w.F p (.lst xs) (w.mm l) = none
    rw [upd_ne (S.fcl hp h lv)]; exact f
  · show upd w.F p (.lst xs) a = none
    have : a ≠ p := fun z => by
      have q' : fr a = some u := q
      rw [z, hn] at q'; cases q'
    rw [upd_ne this]; exact S.ff a u (e a u q)
end
theorem finOkF {K : PySem.W.Frag} : FinOk K finF := by
  intro w1 w g H H1 p acc xs Q E le hf hn S hp r o
  have hn1 : w1.fr p = none := hf.free hn
  refine o _ H ⟨upd w.F p (.lst xs), w.mm, w.n, w1.fr⟩ ⟨le.ex.trans (Exn.add (S.ff p _ hp)), le.same, le.le, Exn.refl _⟩ (S.asideF le.fr hn1 hp) ?_
  simp only [Rep]
  exact ⟨p, xs, rfl, .inl upd_same, RepL.mono0 (show Wd.Lo w ⟨upd w.F p (.lst xs), w.mm, w.n, w1.fr⟩ from ⟨Exn.add (S.ff p _ hp), fun _ _ => rfl, Nat.le_refl _⟩) _ _ r⟩
def NoW : WX := fun _ _ _ _ => False
def RTs (X : Cx) (W : WX) (ifs : List Expr) (m : Exp) : Prop := PTs X ifs (tMT X.K W m)
theorem pts_weak {X : Cx} {e : List Expr} {t t' : TT} (h : PTs X e t) (k : ∀ σ H Q, t' σ H Q → t σ H Q) : PTs X e t' := ⟨fun pins s σ H Q I z => h.run pins s σ H Q I (k _ _ _ z)⟩
theorem rts_nil {X : Cx} {W : WX} : RTs X W [] eYes := by
  refine pts_weak pts_nil ?_
  rintro σ H Q ⟨w, ρ, g, S0, L, o⟩
  obtain ⟨b, e, q⟩ := Out.here (d := .bl true) o S0 rep_bl'
  cases e; exact q
theorem rts_one {X : Cx} {W : WX} {c : Expr} {m : Exp} (h : RT X W c m) : RTs X W [c] m := pts_one h
section
variable {X : Cx} {W : WX} {elt tg iter : Expr} {ifs : List Expr} {scope : Scope} {own : List (Str × Nat)} {pos : Pos} {ms : Src} {mt : Tg} {mc me : Exp} {fin : List D → Gr → R}
theorem read_lc (hfin : FinOk X.K fin) {σ : St} {H : Hp} {Q : VK} (h : tM X.K W (eLc fin ms (own.map (·.2)) mt mc me) σ H Q) :
    tLc (tMI X.K W ms) (tMG X.K (own.map (·.2)) mt) (tMT X.K NoW mc) (tM X.K NoW me) (own.map (·.2)) σ H Q := by
  obtain ⟨w, ρ, g, S0, L, o⟩ := h
  refine ⟨w, ρ, g, S0, L, ?_⟩
  unfold eLc at o
  generalize hvs : own.map (·.2) = vs at o ⊢
  cases e : ms ρ g with
  | no => simp only [e] at o; exact o
  | err c g1 => simp only [e] at o; exact o
  | ok ds kp g1 =>
    simp only [e] at o
    intro J H1 w1 le1 S1 F Dd hD
    have hrD : w1.fr Dd = none := S1.fx.free hD
    obtain ⟨S2, le2⟩ := S1.aside hD (.lst [])
    refine ⟨fun i m H' => m = ds.length - i ∧ i ≤ ds.length ∧ ∃ wi gi xs acc, w1.Le wi ∧ SG X.K wi gi H' ∧ wi.fr Dd = some (.lst xs) ∧ RepL X.K wi xs acc ∧ Out X.K w1 (lcLoop kp mt mc me (wipeR ρ vs) fin (ds.drop i) acc gi) Q (fun c d H' => W c d σ H'),
      ⟨ds.length, rfl, Nat.zero_le _, { w1 with fr := upd w1.fr Dd (.lst []) }, g1, [], [], le2, S2, upd_same, by simp only [RepL], o.weak le1⟩, ?_⟩
    rintro i m H' ⟨rfl, hi, wi, gi, xs, acc, lei, Si, hx, rx, oi⟩
    by_cases hlt : i < ds.length
    · rw [List.drop_eq_getElem_cons hlt] at oi
      unfold lcLoop at oi
      split at oi
      · rename_i hk
        obtain ⟨hk, hz⟩ := hk
        refine .inr ⟨F.go i H' wi gi lei Si hk hlt, fun H3 => ∃ wi gi xs acc, w1.Le wi ∧ SG X.K wi gi H3 ∧ wi.fr Dd = some (.lst xs) ∧ RepL X.K wi xs acc ∧ Out X.K w1 (lcLoop kp mt mc me (wipeR ρ vs) fin (ds.drop (i + 1)) acc gi) Q (fun c d H' => W c d σ H'), fun H3 z => ⟨ds.length - (i + 1), by omega, rfl, hlt, z⟩, fun x H3 y => ?_⟩
        obtain ⟨w3, le3, S3, r3⟩ := F.yld i H' x H3 wi gi ds[i] lei Si hk (by simp [hlt]) y
        refine ⟨w3, wipeR ρ vs, gi, ds[i], S3, (wipe_sl L vs).mono ((le1.trans lei).trans le3), r3, ?_⟩
        cases e4 : mt ds[i] (wipeR ρ vs) gi with
        | none => simp only [e4] at oi; exact oi
        | some p =>
          obtain ⟨ρ4, g4⟩ := p
          simp only [e4] at oi
          intro σ4 H4 w4 le4 S4 L4 a4
          refine ⟨wipe_agr a4, w4, ρ4, g4, S4, L4, ?_⟩
          cases e5 : mc ρ4 g4 with
          | no => simp only [e5] at oi; exact oi
          | err c g5 => simp only [e5] at oi; exact oi.elim
          | ok b g5 =>
            simp only [e5] at oi
            intro v5 H5 w5 le5 S5 r5
            have up5 : wi.Le w5 := (le3.trans le4).trans le5
            cases b with
            | bl b =>
              refine ⟨b, rep_bl b rfl r5, ?_⟩
              cases b with
              | false =>
                rw [if_neg Bool.false_ne_true]
                exact ⟨w5, g5, xs, acc, lei.trans up5, S5, up5.fr _ _ hx, RepL.mono up5 _ _ rx, oi⟩
              | true =>
                rw [if_pos rfl]
                refine ⟨w5, ρ4, g5, S5, L4.mono le5, ?_⟩
                simp only [D.br] at oi
                cases e6 : me ρ4 g5 with
                | no => simp only [e6] at oi; exact oi
                | err c g6 => simp only [e6] at oi; exact oi.elim
                | ok y6 g6 =>
                  simp only [e6] at oi
                  intro v6 H6 w6 le6 S6 r6
                  have up6 : wi.Le w6 := up5.trans le6
                  have hx6 := up6.fr _ _ hx
                  have rx6 := RepL.mono up6 _ _ rx
                  refine ⟨xs, S6.fx _ _ hx6, by rw [rx.length]; exact hz, { w6 with fr := upd w6.fr Dd (.lst (xs ++ [v6])) }, g6, xs ++ [v6], acc ++ [y6], ⟨lei.ex.trans up6.ex, (lei.trans up6).same, (lei.trans up6).le, fun a u q => ?_⟩, S6.asideSet hx6 _, upd_same, ?_, oi⟩
                  · show upd w6.fr Dd _ a = some u
                    rw [upd_ne (ne_of_none q hrD)]
                    exact (lei.trans up6).fr a u q
                  · have lo : Wd.Lo w6 { w6 with fr := upd w6.fr Dd (.lst (xs ++ [v6])) } := ⟨Exn.refl _, fun _ _ => rfl, Nat.le_refl _⟩
                    exact RepL.mono0 lo _ _ (RepL.app (RepL.one r6) rx6)
            | _ => exact oi.elim
      · exact oi.elim
    · have e1 : i = ds.length := by omega
      subst e1
      rw [List.drop_length] at oi
      unfold lcLoop at oi
      split at oi
      · rename_i hk
        exact .inl ⟨F.stop _ H' wi gi lei Si hk (Nat.le_refl _), hfin w1 wi gi H' H1 Dd acc xs Q _ lei S1.fx hD Si hx rx oi⟩
      · exact oi.elim
theorem re_lc (hfin : FinOk X.K fin) (hc : X.calm = true) (hN : X.N.Nodup) (hi : RSrc X W tg iter ms) (ok : BlkOk X.N X.env.scope scope own)
    (hg : ∀ (s : Shared) (H : Hp) (C : Addr) (cl : List (Str × Addr)) (fp : List Addr), RG (X.blk s H scope (compEnvC scope cl C X.env) fp) (own.map (·.2)) tg mt)
    (ht : ∀ (s : Shared) (H : Hp) (C : Addr) (cl : List (Str × Addr)) (fp : List Addr), RTs (X.blk s H scope (compEnvC scope cl C X.env) fp) NoW ifs mc)
    (he : ∀ (s : Shared) (H : Hp) (C : Addr) (cl : List (Str × Addr)) (fp : List Addr), RE (X.blk s H scope (compEnvC scope cl C X.env) fp) NoW elt me) (hs : ∀ x, foldedSetIterable iter X.env x = pure x := by intro _; rfl) :
    RE X W (.ListComp elt [⟨tg, iter, ifs, 0⟩] scope pos) (eLc fin ms (own.map (·.2)) mt mc me) :=
  pe_weak (pe_lc (g := tMG X.K (own.map fun p : Str × Nat => p.2) mt) (tt := tMT X.K NoW mc) (te := tM X.K NoW me) hc hN hi ok hg ht he hs) fun _ _ _ h => read_lc hfin h
theorem rs_setLc (i : Nat) {y : Str} {py spos : Pos} (hfin : FinOk X.K fin) (hc : X.calm = true) (hN : X.N.Nodup) (hy : X.N[i]? = some y) (hyl : X.env.scope.names.lookup y = some .local)
    (hsw : swapsWith (.ListComp elt [⟨tg, iter, ifs, 0⟩] scope pos) (some (.Name y py)) spos.line X.env = pure true) (hi : RSrc X W tg iter ms) (ok : BlkOk X.N X.env.scope scope own)
    (hg : ∀ (s : Shared) (H : Hp) (C : Addr) (cl : List (Str × Addr)) (fp : List Addr), RG (X.blk s H scope (compEnvC scope cl C X.env) fp) (own.map (·.2)) tg mt)
    (ht : ∀ (s : Shared) (H : Hp) (C : Addr) (cl : List (Str × Addr)) (fp : List Addr), RTs (X.blk s H scope (compEnvC scope cl C X.env) fp) NoW ifs mc)
    (he : ∀ (s : Shared) (H : Hp) (C : Addr) (cl : List (Str × Addr)) (fp : List Addr), RE (X.blk s H scope (compEnvC scope cl C X.env) fp) NoW elt me) (hs : ∀ x, foldedSetIterable iter X.env x = pure x := by intro _; rfl) :
    RS X W (.Assign [.Name y py] (.ListComp elt [⟨tg, iter, ifs, 0⟩] scope pos) spos) (sAsg (gVar i) (eLc fin ms (own.map (·.2)) mt mc me)) := by
  refine ps_weak (ps_setLc (i := i) (g := tMG X.K (own.map fun p : Str × Nat => p.2) mt) (tt := tMT X.K NoW mc) (te := tM X.K NoW me) hc hN hy hyl hsw hi ok hg ht he hs) ?_
  rintro Dn σ H ⟨w, ρ, g, S0, L, o⟩
  refine read_lc hfin ?_
  exact bindSM S0 L o fun d g' v H' w' le S' L' r o' => o' _ _ w' (Wd.Le.refl w') S' (L'.set r)
end
end Fw

set_option maxRecDepth 100000
set_option maxHeartbeats 4000000
namespace Fw
open PySem PySem.Spec PyProof.Rows L2

structure RM (k : Nat) (A : Around) : Prop where
  dp : A.depth + 3 * k + 5 < recursionLimit
  un : A.units + 16 * k + 200 < cLine
  gd : A.guards = some []
theorem RM.mono {j k : Nat} {A : Around} (r : RM k A) (h : j ≤ k) : RM j A := by
  obtain ⟨a, b, c⟩ := r
  exact ⟨by omega, by omega, c⟩
theorem RM.deeper {k : Nat} {A : Around} (r : RM (k + 1) A) (env : Env) : RM k (A.deeper env) := by
  obtain ⟨a, b, c⟩ := r
  refine ⟨?_, ?_, c⟩
  · show A.depth + 1 + 3 * k + 5 < _; omega
  · show A.units + 3 + 16 * k + 200 < _; omega
theorem RM.in1 {k : Nat} {A : Around} (r : RM (k + 1) A) : RM k A.in1 := by
  obtain ⟨a, b, c⟩ := r
  refine ⟨?_, ?_, c⟩
  · show A.depth + 3 * k + 5 < _; omega
  · show A.units + 1 + 16 * k + 200 < _; omega
theorem make_guards {A : Around} {C : Addr} {us : List Value} {kw : List (Str × Value)} : (A.under (.builtin "type.__call__" ⟨.ref C :: us, kw⟩)).guards = A.guards := by
  have h : (Code.builtin "type.__call__" ⟨.ref C :: us, kw⟩).guards = [] := by
    first
    | rfl
    | simp [Code.guards, Code.isGuard, guardIds]
  unfold Around.under pushGuards
  rw [h]
theorem RM.make {k : Nat} {A : Around} (r : RM (k + 1) A) (C : Addr) (us : List Value) (kw : List (Str × Value)) : RM k (A.under (.builtin "type.__call__" ⟨.ref C :: us, kw⟩)) := by
  obtain ⟨a, b, c⟩ := r
  refine ⟨?_, ?_, make_guards.trans c⟩
  · rw [make_depth]; omega
  · rw [make_units]; omega
theorem RM.depth {k : Nat} {A : Around} (r : RM k A) : A.depth < recursionLimit := by have := r.dp; omega
theorem RM.units {k : Nat} {A : Around} (r : RM k A) : A.units + 64 < cLine := by have := r.un; omega
structure HotP (K : PySem.W.Frag) (A : Around) (ac : Nat × Str) (p : Addr × Obj) : Prop where
  hd : A.handled = some (.ref p.1)
  eq : p.1 = ac.1
  zn : L2N.Zn (.ref (He.ga K ac.2)) none p.2
  fl : ∃ vs, p.2.data = .fields vs
def Mode (K : PySem.W.Frag) (hot : Option (Nat × Str)) (A : Around) (outer : List Env) (H : Hp) (s : Shared) : Prop := match hot with
  | none => A.handled = none
  | some ac => ∃ p, HotP K A ac p ∧ L2H.PinOk outer H s p
def MdX (K : PySem.W.Frag) (hot : Option (Nat × Str)) (X : Cx) : Prop := match hot with
  | none => X.calm = true
  | some ac => X.calm = false ∧ ∃ p, HotP K X.A ac p ∧ p ∈ X.pn
structure FnM (P : Program) (w : World) (K : PySem.W.Frag) (mg : Str → Option Value) (base : Heap) (hot : Option (Nat × Str)) (k : Nat) (f : Addr) (fd : FuncData) (ps : List Str) (sp : Sp) : Prop where
  len : ∀ vs H Q E, sp vs H Q E → vs.length = ps.length
  run : ∀ (A : Around) (outer : List Env) (s : Shared) (H : Hp) (args : Args) (us : List Value) (vs : List V) (Q : VK) (E : XK),
    RM k A → Mode K hot A outer H s → Env0 P w K mg base A outer s H → BindsTo s fd args (ps.zip us) → Vals vs us → sp vs H Q E →
    codeAny (model P w) A (.call (.ref f) args) (CR (L2N.CX P w) outer P w H s Q E) s
section
variable {P : Program} {w : World} {K : PySem.W.Frag} {mg : Str → Option Value} {base : Heap} {hot : Option (Nat × Str)} {k j : Nat} {f : Addr} {fd : FuncData} {ps : List Str} {sp sp' : Sp}
theorem FnM.mono (F : FnM P w K mg base hot j f fd ps sp) (h : j ≤ k) : FnM P w K mg base hot k f fd ps sp :=
  ⟨F.len, fun A outer s H args us vs Q E r => F.run A outer s H args us vs Q E (r.mono h)⟩
theorem FnM.imp (F : FnM P w K mg base hot k f fd ps sp) (h : ∀ vs H Q E, sp' vs H Q E → sp vs H Q E) : FnM P w K mg base hot k f fd ps sp' :=
  ⟨fun vs H Q E q => F.len vs H Q E (h _ _ _ _ q), fun A outer s H args us vs Q E a b c d e q => F.run A outer s H args us vs Q E a b c d e (h _ _ _ _ q)⟩
end

structure Sc where
  N : List Str
  sc : Scope
  vi : List Nat
  ow : List Nat
  gl : List Str
  top : Bool
def visB (sc : Scope) (x : Str) : Bool := (match sc.names.lookup x with
  | some .local => true
  | some .cell => true
  | some .free => true
  | _ => false) && (!(x == ("__debug__" : Str)) && !(x == ("__classdict__" : Str)))
def locB (sc : Scope) (x : Str) : Bool := match sc.names.lookup x with
  | some .local => true
  | some .cell => true
  | _ => false
def nonB (n : Option NameKind) : Bool := match n with
  | some .local => true
  | _ => false
def gloB (n : Option NameKind) : Bool := match n with
  | some .globalImplicit => true
  | _ => false
def Sc.okV (Z : Sc) : Bool := Z.vi.all fun i => match Z.N[i]? with
  | some x => visB Z.sc x
  | none => false
def Sc.okG (Z : Sc) : Bool := Z.gl.all fun x => gloB (Z.sc.names.lookup x) && !(x == ("__debug__" : Str))
def Sc.okS (Z : Sc) (fn : Str → Bool) : Bool := Z.ow.all fun i => match Z.N[i]? with
  | some x => locB Z.sc x && (fn x || nonB (Z.sc.names.lookup x))
  | none => false
theorem visB_ok {sc : Scope} {x : Str} (h : visB sc x = true) : Vis sc x ∧ (x == ("__debug__" : Str)) = false ∧ (x == ("__classdict__" : Str)) = false := by
  unfold visB at h
  simp only [Bool.and_eq_true, Bool.not_eq_true'] at h
  obtain ⟨h1, h2, h3⟩ := h
  refine ⟨?_, h2, h3⟩
  split at h1
  · exact .inl (by assumption)
  · exact .inr (.inl (by assumption))
  · exact .inr (.inr (by assumption))
  · cases h1
theorem locB_ok {sc : Scope} {x : Str} (h : locB sc x = true) : Loc sc x := by
  unfold locB at h
  split at h
  · exact .inl (by assumption)
  · exact .inr (by assumption)
  · cases h
theorem nonB_ok {n : Option NameKind} (h : nonB n = true) : n = some .local := by
  unfold nonB at h
  split at h
  · rfl
  · cases h
theorem gloB_ok {n : Option NameKind} (h : gloB n = true) : n = some .globalImplicit := by
  unfold gloB at h
  split at h
  · rfl
  · cases h
structure Cc (P : Program) (w : World) (K : PySem.W.Frag) (mg : Str → Option Value) (base : Heap) (Z : Sc) (hot : Option (Nat × Str)) (k : Nat) (X : Cx) (W : WX) : Prop where
  pP : X.prog = P
  pw : X.w = w
  pK : X.K = K
  pm : X.mg = mg
  pb : X.base = base
  nn : X.N = Z.N
  ss : X.env.scope = Z.sc
  nd : Z.N.Nodup
  room : RM k X.A
  tk : L2N.Takes X W
  pass : PassesOwn (model X.prog X.w) X.A X.env X.xe
  md : MdX K hot X
  okv : Z.okV = true
  okg : Z.okG = true
  oks : Z.okS X.fn = true
  stk : Z.top = true → X.stack = X.env :: X.outer ∧ X.env.frame = some X.env.locals
section
variable {P : Program} {w : World} {K : PySem.W.Frag} {mg : Str → Option Value} {base : Heap} {Z : Sc} {hot : Option (Nat × Str)} {k : Nat} {X : Cx} {W : WX}
theorem Cc.vis (C : Cc P w K mg base Z hot k X W) {i : Nat} {x : Str} (hv : i ∈ Z.vi) (hN : Z.N[i]? = some x) : Vis X.env.scope x ∧ (x == ("__debug__" : Str)) = false ∧ (x == ("__classdict__" : Str)) = false := by
  have h := List.all_eq_true.mp C.okv i hv
  simp only [hN] at h
  rw [C.ss]
  exact visB_ok h
theorem Cc.sto (C : Cc P w K mg base Z hot k X W) {i : Nat} {x : Str} (hv : i ∈ Z.ow) (hN : Z.N[i]? = some x) : Loc X.env.scope x ∧ (X.fn x = true ∨ X.env.scope.names.lookup x = some .local) := by
  have h := List.all_eq_true.mp C.oks i hv
  simp only [hN, Bool.and_eq_true, Bool.or_eq_true] at h
  rw [C.ss]
  exact ⟨locB_ok h.1, h.2.imp id nonB_ok⟩
theorem Cc.glo (C : Cc P w K mg base Z hot k X W) {i : Nat} {x : Str} (hN : Z.gl[i]? = some x) : Gl X x ∧ (x == ("__debug__" : Str)) = false := by
  have h := List.all_eq_true.mp C.okg x (List.mem_of_getElem? hN)
  simp only [Bool.and_eq_true, Bool.not_eq_true'] at h
  refine ⟨?_, h.2⟩
  show X.env.scope.names.lookup x = _
  rw [C.ss]
  exact gloB_ok h.1
end
theorem Cc.calm {P : Program} {w : World} {K : PySem.W.Frag} {mg : Str → Option Value} {base : Heap} {Z : Sc} {k : Nat} {X : Cx} {W : WX} (C : Cc P w K mg base Z none k X W) : X.calm = true := C.md

def fnOf (n k : Nat) (m : Stm) : Fn := fun ds g => if ds.length = n then (match m (ds.map some ++ List.replicate (k - n) none) g with
  | .nx _ g' => .ok .non g'
  | .ret d g' => .ok d g'
  | .err c _ g' => .err c g'
  | _ => .no) else .no
def spM (K : PySem.W.Frag) (n : Nat) (f : Fn) : Sp := fun vs H Q E => vs.length = n ∧ ∃ w g ds, SG K w g H ∧ RepL K w vs ds ∧ Out K w (f ds g) Q E
theorem start_sl {K : PySem.W.Frag} {w : Wd} {ds : List D} {vs : List V} (r : RepL K w vs ds) (N : List Str) : SL K w (ds.map some ++ List.replicate (N.length - ds.length) none) (L2.start N vs) := by
  have hl := r.length
  refine ⟨by simp [L2.start, hl], fun i d h => ?_⟩
  by_cases hi : i < ds.length
  · rw [List.getElem?_append_left (by simpa using hi), List.getElem?_map] at h
    cases e : ds[i]? with
    | none => rw [e] at h; cases h
    | some d' =>
      rw [e] at h
      have e2 : d' = d := by simpa using h
      subst e2
      obtain ⟨v, h1, h2⟩ := r.get e
      refine ⟨v, ?_, h2⟩
      unfold L2.start
      rw [List.getElem?_append_left (by simpa [hl] using hi), List.getElem?_map, h1]
      rfl
  · rw [List.getElem?_append_right (by simpa using Nat.le_of_not_lt hi), List.getElem?_replicate] at h
    split at h <;> cases h
theorem fnm_ofC {P : Program} {w : World} {K : PySem.W.Frag} {mg : Str → Option Value} {base : Heap} {hot : Option (Nat × Str)} {k : Nat} {f : Addr} {fd : FuncData} {N ps : List Str} {x qual : Str} {params : Arguments} {body : List Stmt} {scope : Scope} {m : Stm}
    {vi ow : List Nat} {gl : List Str} (F : FunD K x qual params body scope [] [] f fd) (S : FnScope N ps scope) (okz : (Sc.okV ⟨N, scope, vi, ow, gl, true⟩ && (Sc.okG ⟨N, scope, vi, ow, gl, true⟩ && Sc.okS ⟨N, scope, vi, ow, gl, true⟩ fun _ => true)) = true)
    (hb : ∀ X W, Cc P w K mg base ⟨N, scope, vi, ow, gl, true⟩ hot k X W → X.env.code = fd.code → X.env.qual = qual ++ ".<locals>." → RB X W body m) : FnM P w K mg base hot (k + 1) f fd ps (spM K ps.length (fnOf ps.length N.length m)) := by
  obtain ⟨oc, od, dV, kV, doc, pm, an, cdv, ct, osl, rfl, lk, hcd, _, _⟩ := F.ex
  simp only [Bool.and_eq_true] at okz
  obtain ⟨oz1, oz2, oz3⟩ := okz
  have key : ∀ (vs : List V) (H : Hp) (Q : VK) (E : XK) (X : Cx), X.K = K → RB X (fun cls d _ H => E cls d H) body m → spM K ps.length (fnOf ps.length N.length m) vs H Q E →
      ∃ t, PSs X body t ∧ t { nx := fun _ H' => Q .non H', rt := Q } (L2.start N vs) H := by
    intro vs H Q E X eK hB hsp
    subst eK
    obtain ⟨hl, w', g, ds, S0, r, o⟩ := hsp
    refine ⟨_, hB, w', ds.map some ++ List.replicate (N.length - ds.length) none, g, S0, start_sl r N, ?_⟩
    have hd : ds.length = ps.length := by rw [← r.length]; exact hl
    unfold fnOf at o
    rw [if_pos hd] at o
    rw [hd]
    cases e : m (ds.map some ++ List.replicate (N.length - ps.length) none) g with
    | nx ρ g' =>
      rw [e] at o
      exact fun σ' H' w2 le S' _ => o .non H' w2 le S' (by simp only [Rep])
    | ret d g' => rw [e] at o; exact o
    | err c ρ g' =>
      rw [e] at o
      exact fun σ' H' w2 le S' _ => o H' w2 le S'
    | bk ρ g' => rw [e] at o; exact o.elim
    | ct ρ g' => rw [e] at o; exact o.elim
    | no => rw [e] at o; exact o.elim
  refine ⟨fun vs H Q E h => h.1, fun A outer s H args us vs Q E hr md e0 hbd r hsp => ?_⟩
  have hl : vs.length = ps.length := hsp.1
  have KX : K.In s.heap := e0.mod.kin.keeps fun b o e => (e0.bs b o e).1
  have lim : s.heap.NoLimit := e0.mod.nolimit.keeps fun b o e => (e0.bs b o e).1
  have hkind : ∀ y ∈ ps.zip us, scope.names.lookup y.1 = some .local ∨ (scope.names.lookup y.1 = some .cell ∧ ((cellsFrom (s.heap.objs.size + 1) scope.names []).lookup y.1).isSome = true) := by
    rintro ⟨n, v⟩ hy
    rcases S.par n (List.of_mem_zip hy).1 with q | q
    · exact .inl q
    · exact .inr ⟨q, PySem.W.cellsFrom_some _ _ _ (.inl q)⟩
  refine codeAny_call_function hr.depth (KX _ _ lk) rfl S.co S.gen rfl (PySem.W.codeRec_of KX hcd) (hbd _ _ _ _ ?_)
  refine wpAny_newFunctionEnv_cells S.kind hkind fun env he s1 x => ?_
  subst he
  refine ⟨lim.keeps x.toInCall.keep, codeAny_func ?_⟩
  cases hot with
  | none =>
    have I := inv_start (CX := L2N.CX P w) (w := w) (P := P) (mg := mg) (base := base) (E := E) S md e0 hl r x
    obtain ⟨t, ht, hq⟩ := key vs H Q E (cxOf (L2N.CX P w) P w K mg base N qual scope f cdv A outer s H E) rfl (hb _ _
      { pP := rfl, pw := rfl, pK := rfl, pm := rfl, pb := rfl, nn := rfl, ss := rfl, nd := S.nd, room := hr.deeper _, tk := L2N.takes_of (E₁ := fun e' s'' => L2N.CX P w outer H s E e' s'') rfl rfl rfl rfl, pass := PassesOwn.leaving, md := rfl, okv := oz1, okg := oz2, oks := oz3, stk := fun _ => ⟨rfl, rfl⟩ } rfl rfl) hsp
    refine wpAny_mono (ht.run [] s1 (L2.start N vs) H _ I hq) (fun fl s' hs => ?_) fun e s' hs => hs
    cases fl with
    | ret u =>
      obtain ⟨v, σ', H', J, rv, q⟩ := hs
      exact ⟨v, H', J.os, J.bare, J.base, J.hok, rv, q⟩
    | next =>
      obtain ⟨σ', H', J, q⟩ := hs
      exact ⟨V.non, H', J.os, J.bare, J.base, J.hok, rfl, q⟩
    | brk => obtain ⟨_, _, _, q⟩ := hs; exact q.elim
    | cont => obtain ⟨_, _, _, q⟩ := hs; exact q.elim
  | some ac =>
    obtain ⟨p, hp, pin⟩ := md
    have I := L2H.inv_startH (CX := L2N.CX P w) (w := w) (P := P) (mg := mg) (base := base) (E := E) S pin e0 hl r x
    obtain ⟨t, ht, hq⟩ := key vs H Q E (L2H.cxH (L2N.CX P w) P w K mg base N qual scope f cdv A outer s H E p) rfl (hb _ _
      { pP := rfl, pw := rfl, pK := rfl, pm := rfl, pb := rfl, nn := rfl, ss := rfl, nd := S.nd, room := hr.deeper _, tk := L2N.takes_of (E₁ := fun e' s'' => L2N.CX P w outer H s E e' s'') rfl rfl rfl rfl, pass := PassesOwn.leaving,
        md := ⟨rfl, p, ⟨hp.hd, hp.eq, hp.zn, hp.fl⟩, List.mem_singleton.mpr rfl⟩, okv := oz1, okg := oz2, oks := oz3, stk := fun _ => ⟨rfl, rfl⟩ } rfl rfl) hsp
    refine wpAny_mono (ht.run [] s1 (L2.start N vs) H _ I hq) (fun fl s' hs => ?_) fun e s' hs => hs
    cases fl with
    | ret u =>
      obtain ⟨v, σ', H', J, rv, q⟩ := hs
      exact ⟨v, H', J.os, J.bare, J.base, J.hok, rv, q⟩
    | next =>
      obtain ⟨σ', H', J, q⟩ := hs
      exact ⟨V.non, H', J.os, J.bare, J.base, J.hok, rfl, q⟩
    | brk => obtain ⟨_, _, _, q⟩ := hs; exact q.elim
    | cont => obtain ⟨_, _, _, q⟩ := hs; exact q.elim
theorem fnm_of {P : Program} {w : World} {K : PySem.W.Frag} {mg : Str → Option Value} {base : Heap} {hot : Option (Nat × Str)} {k : Nat} {f : Addr} {fd : FuncData} {N ps : List Str} {x qual : Str} {params : Arguments} {body : List Stmt} {scope : Scope} {m : Stm}
    {vi ow : List Nat} {gl : List Str} (F : FunD K x qual params body scope [] [] f fd) (S : FnScope N ps scope) (okz : (Sc.okV ⟨N, scope, vi, ow, gl, true⟩ && (Sc.okG ⟨N, scope, vi, ow, gl, true⟩ && Sc.okS ⟨N, scope, vi, ow, gl, true⟩ fun _ => true)) = true)
    (hb : ∀ X W, Cc P w K mg base ⟨N, scope, vi, ow, gl, true⟩ hot k X W → RB X W body m) : FnM P w K mg base hot (k + 1) f fd ps (spM K ps.length (fnOf ps.length N.length m)) :=
  fnm_ofC F S okz fun X W C _ _ => hb X W C
end Fw

set_option maxRecDepth 100000
set_option maxHeartbeats 4000000
namespace Fw
open PySem PySem.Spec PyProof.Rows L2

theorem repl_nil {K : PySem.W.Frag} {w : Wd} : RepL K w [] [] := by simp only [RepL]
theorem fnOf_no {n k : Nat} {m : Stm} : ∀ ds g, ds.length ≠ n → fnOf n k m ds g = .no := fun ds g h => if_neg h
def D.low (n : Nat) : D → Bool
  | .obj l => decide (l < n)
  | .lst ds => lowAll n ds
  | .tup ds => lowAll n ds
  | _ => true
where lowAll (n : Nat) : List D → Bool
  | [] => true
  | d :: ds => D.low n d && lowAll n ds
open Classical in
noncomputable def pureF (f : Fn) : Fn := fun ds g => match f ds g with
  | .ok d g' => if d.low g.length = true ∧ g'.take g.length = g then .ok d g else .no
  | .err c g' => if g'.take g.length = g then .err c g else .no
  | .no => .no
theorem pureF_no {n : Nat} {f : Fn} (h : ∀ ds g, ds.length ≠ n → f ds g = .no) : ∀ ds g, ds.length ≠ n → pureF f ds g = .no := fun ds g z => by
  unfold pureF
  rw [h ds g z]
mutual
theorem Rep.cut {K : PySem.W.Frag} {w : Wd} {n : Nat} : ∀ (v : V) (d : D), Rep K w v d → d.low n = true → Rep K { w with n := n } v d
  | v, .non, h, _ => by simp only [Rep] at h ⊢; exact h
  | v, .bl b, h, _ => by simp only [Rep] at h ⊢; exact h
  | v, .int i, h, _ => by simp only [Rep] at h ⊢; exact h
  | v, .str x, h, _ => by simp only [Rep] at h ⊢; exact h
  | v, .lst ds, h, l => by
    simp only [Rep] at h ⊢
    obtain ⟨a, xs, h1, h2, h3⟩ := h
    exact ⟨a, xs, h1, h2, RepL.cut xs ds h3 (by simpa only [D.low] using l)⟩
  | v, .tup ds, h, l => by
    simp only [Rep] at h ⊢
    obtain ⟨a, xs, h1, h2, h3⟩ := h
    exact ⟨a, xs, h1, h2, RepL.cut xs ds h3 (by simpa only [D.low] using l)⟩
  | v, .obj l, h, z => by
    simp only [Rep] at h ⊢
    exact ⟨by simpa only [D.low, decide_eq_true_eq] using z, h.2⟩
  | v, .err c a, h, _ => by simp only [Rep] at h ⊢; exact h
theorem RepL.cut {K : PySem.W.Frag} {w : Wd} {n : Nat} : ∀ (xs : List V) (ds : List D), RepL K w xs ds → D.low.lowAll n ds = true → RepL K { w with n := n } xs ds
  | xs, [], h, _ => by simp only [RepL] at h ⊢; exact h
  | xs, d :: ds, h, l => by
    simp only [RepL] at h ⊢
    obtain ⟨x, r, h1, h2, h3⟩ := h
    simp only [D.low.lowAll, Bool.and_eq_true] at l
    exact ⟨x, r, h1, Rep.cut x d h2 l.1, RepL.cut r ds h3 l.2⟩
end
mutual
theorem Rep.isLow {K : PySem.W.Frag} {w : Wd} : ∀ (v : V) (d : D), Rep K w v d → d.low w.n = true
  | v, .non, h => by simp only [D.low]
  | v, .bl b, h => by simp only [D.low]
  | v, .int i, h => by simp only [D.low]
  | v, .str x, h => by simp only [D.low]
  | v, .lst ds, h => by
    simp only [Rep] at h
    obtain ⟨a, xs, h1, h2, h3⟩ := h
    simp only [D.low]
    exact RepL.isLow xs ds h3
  | v, .tup ds, h => by
    simp only [Rep] at h
    obtain ⟨a, xs, h1, h2, h3⟩ := h
    simp only [D.low]
    exact RepL.isLow xs ds h3
  | v, .obj l, h => by
    simp only [Rep] at h
    simp only [D.low, decide_eq_true_eq]
    exact h.1
  | v, .err c a, h => by simp only [D.low]
theorem RepL.isLow {K : PySem.W.Frag} {w : Wd} : ∀ (xs : List V) (ds : List D), RepL K w xs ds → D.low.lowAll w.n ds = true
  | xs, [], h => by simp only [D.low.lowAll]
  | xs, d :: ds, h => by
    simp only [RepL] at h
    obtain ⟨x, r, h1, h2, h3⟩ := h
    simp only [D.low.lowAll, Bool.and_eq_true]
    exact ⟨Rep.isLow x d h2, RepL.isLow r ds h3⟩
end
theorem SG.back {K : PySem.W.Frag} {w w0 : Wd} {g g0 : Gr} {H H0 : Hp} (S : SG K w g H) (S0 : SG K w0 g0 H0) (le : w0.Le w) (e : g.take g0.length = g0) (ok0 : ∀ l c, g0[l]? = some c → CellAt K w0 H0 (w0.mm l) c) :
    SG K ⟨w.F, w.mm, w0.n, w.fr⟩ g0 H := by
  have hk : g0.length ≤ g.length := by
    have := congrArg List.length e
    rw [List.length_take] at this; omega
  have inn : ∀ l c, g0[l]? = some c → g[l]? = some c := fun l c h => by
    have hl : l < g0.length := (List.getElem?_eq_some_iff.mp h).1
    rw [← e, List.getElem?_take_of_lt hl] at h
    exact h
  have lo : Wd.Lo w0 ⟨w.F, w.mm, w0.n, w.fr⟩ := ⟨le.ex, le.same, Nat.le_refl _⟩
  refine ⟨S.ex, S0.n, fun l c h => ?_, fun l l' c c' h h' => S.inj l l' c c' (inn l c h) (inn l' c' h'), S.fx, S.ff, fun a o l c q h => S.fc a o l c q (inn l c h)⟩
  have q := S.cell l c (inn l c h)
  have q0 := ok0 l c h
  have vinj : ∀ {xs ys : List V} {ds : List D}, RepL K w xs ds → RepL K w0 ys ds → RepL K ⟨w.F, w.mm, w0.n, w.fr⟩ xs ds := fun {xs ys ds} r r0 =>
    RepL.cut xs ds r (RepL.isLow ys ds r0)
  have vinj1 : ∀ {x y : V} {d : D}, Rep K w x d → Rep K w0 y d → Rep K ⟨w.F, w.mm, w0.n, w.fr⟩ x d := fun {x y d} r r0 => Rep.cut x d r (Rep.isLow y d r0)
  cases c with
  | dead => trivial
  | lst ds =>
    obtain ⟨f, xs, h1, h2⟩ := q
    obtain ⟨_, ys, _, h4⟩ := q0
    exact ⟨f, xs, h1, vinj h2 h4⟩
  | dic ds =>
    obtain ⟨f, xs, h1, h2, h3⟩ := q
    obtain ⟨_, ys, _, _, h4⟩ := q0
    exact ⟨f, xs, h1, h2, vinj h3 h4⟩
  | shut ds =>
    obtain ⟨f, o, xs, h1, h2, h3⟩ := q
    obtain ⟨_, _, ys, _, _, h4⟩ := q0
    exact ⟨f, o, xs, h1, h2, vinj h3 h4⟩
  | ins c fs =>
    obtain ⟨f, dx, xs, h1, h2, h3⟩ := q
    obtain ⟨_, _, ys, _, _, h4⟩ := q0
    exact ⟨f, dx, xs, h1, h2, vinj h3 h4⟩
  | tab fa q1 =>
    obtain ⟨f, ea, ps, h1, h2, h3⟩ := q
    exact ⟨f, ea, ps, h1, h2, h3⟩
  | bdc t u =>
    obtain ⟨f, xt, xf, vt, vf, h1, h2, h3, h4, h5⟩ := q
    obtain ⟨_, yt, yf, _, _, _, _, _, h6, h7⟩ := q0
    exact ⟨f, xt, xf, vt, vf, h1, h2, h3, vinj1 h4 h6, vinj1 h5 h7⟩
  | bdp kvs =>
    obtain ⟨f, xs, vs, h1, h2, h3, h4⟩ := q
    obtain ⟨_, ys, _, _, _, _, h6⟩ := q0
    exact ⟨f, xs, vs, h1, h2, h3, vinj h4 h6⟩
theorem fnm_pure {P : Program} {w : World} {K : PySem.W.Frag} {mg : Str → Option Value} {base : Heap} {hot : Option (Nat × Str)} {k n : Nat} {f : Addr} {fd : FuncData} {ps : List Str} {m : Fn} (F : FnM P w K mg base hot k f fd ps (spM K n m)) :
    FnM P w K mg base hot k f fd ps (spM K n (pureF m)) := by
  refine F.imp fun vs H Q E h => ?_
  obtain ⟨hl, w, g, ds, S0, r, o⟩ := h
  refine ⟨hl, w, g, ds, S0, r, ?_⟩
  unfold pureF at o
  cases e : m ds g with
  | no => rw [e] at o; exact o
  | ok d g' =>
    simp only [e] at o
    split at o
    · rename_i hc
      intro v H' w' le S' r'
      refine o v H' ⟨w'.F, w'.mm, w.n, w'.fr⟩ ⟨le.ex, le.same, Nat.le_refl _, le.fr⟩ (S'.back S0 le hc.2 S0.cell) (Rep.cut v d r' ?_)
      rw [S0.n]; exact hc.1
    · exact o.elim
  | err c g' =>
    simp only [e] at o
    split at o
    · rename_i hc
      intro H' w' le S'
      exact o H' ⟨w'.F, w'.mm, w.n, w'.fr⟩ ⟨le.ex, le.same, Nat.le_refl _, le.fr⟩ (S'.back S0 le hc S0.cell)
    · exact o.elim

section
variable {P : Program} {w : World} {K : PySem.W.Frag} {mg : Str → Option Value} {base : Heap} {Z : Sc} {hot : Option (Nat × Str)} {k : Nat} {X : Cx} {W : WX} {pos : Pos} {x : Str}
theorem xVar (C : Cc P w K mg base Z hot k X W) (i : Nat) (hN : Z.N[i]? = some x := by rfl) (hv : i ∈ Z.vi := by decide) : RE X W (.Name x pos) (eVar i) := by
  obtain ⟨h1, h2, h3⟩ := C.vis hv hN
  exact re_var i (by rw [C.nn]; exact hN) h1 h2 h3
theorem xgInt (C : Cc P w K mg base Z hot k X W) (j : Nat) {i : Int} (hm : ∃ t, mg x = some (.int i t)) (hN : Z.gl[j]? = some x := by rfl) : RE X W (.Name x pos) (eC (.int i)) := by
  obtain ⟨h1, h2⟩ := C.glo hN
  obtain ⟨t, hm⟩ := hm
  exact re_gint h1 (by rw [C.pm]; exact hm) h2
theorem xgStr (C : Cc P w K mg base Z hot k X W) (j : Nat) {z : Str} (hm : ∃ t, mg x = some (.str z t)) (hN : Z.gl[j]? = some x := by rfl) : RE X W (.Name x pos) (eC (.str z)) := by
  obtain ⟨h1, h2⟩ := C.glo hN
  obtain ⟨t, hm⟩ := hm
  exact re_gstr h1 (by rw [C.pm]; exact hm) h2
theorem tVarS (C : Cc P w K mg base Z hot k X W) (i : Nat) {vs : List Nat} (hv : i ∈ vs := by decide) (hN : Z.N[i]? = some x := by rfl) (ho : i ∈ Z.ow := by decide) : RG X vs (.Name x pos) (gVar i) := by
  obtain ⟨h1, h2⟩ := C.sto ho hN
  exact rg_var i (by rw [C.nn]; exact C.nd) hv (by rw [C.nn]; exact hN) h1 h2
theorem tUnp (C : Cc P w K mg base Z none k X W) {kk : Nat} {vs : List Nat} (n : Nat) {tgs : List Expr} {mts : Tgs} (h : RGs X vs tgs mts) (hn : (assignEach tgs X.env).length = n := by rfl) (hst : (assignEach tgs X.env).findIdx? (·.1) = none := by rfl) : RG X vs (.Tuple tgs kk pos) (gUnp n mts) :=
  rg_unp n C.calm h hn hst
theorem sSet (C : Cc P w K mg base Z hot k X W) (i : Nat) {e : Expr} {m : Exp} {pos' : Pos} (h : RE X W e m) (hN : Z.N[i]? = some x := by rfl) (ho : i ∈ Z.ow := by decide) (hs : swapsWith e (some (.Name x pos')) pos.line X.env = pure false := by rfl) :
    RS X W (.Assign [.Name x pos'] e pos) (sAsg (gVar i) m) := by
  obtain ⟨h1, h2⟩ := C.sto ho hN
  exact rs_set i h (by rw [C.nn]; exact C.nd) (by rw [C.nn]; exact hN) h1 hs h2
theorem sForC (C : Cc P w K mg base Z none k X W) {tg iter : Expr} {body : List Stmt} {ms : Src} {mt : Tg} {mb : Stm} (vs : List Nat) (hi : RSrc X W tg iter ms) (hg : RG X vs tg mt) (hb : RB X W body mb) (hs : ∀ x, foldedSetIterable iter X.env x = pure x := by intro _; rfl) :
    RS X W (.For tg iter body [] pos) (sFor ms mt mb) := rs_for C.pass C.calm hi hg hb hs

theorem passAtN {X : Cx} {W : WX} (tk : L2N.Takes X W) (σ : L2.St) : PassesAt (L2N.CX X.prog X.w) X σ (WE W σ) := fun _ _ _ e s' I c => tk e s' (L2N.XE.of_call I (fun _ _ _ h => h) c)
variable {j n : Nat} {f : Addr} {fd : FuncData} {ps : List Str} {m : Fn}
theorem run_fnm (C : Cc P w K mg base Z hot k X W) (F : FnM P w K mg base hot j f fd ps (spM K n m)) (hj : j ≤ k) (hb : Binds K fd ps []) {pins : List (Addr × Obj)} {σ : L2.St} {H : Hp} {s : Shared} {Q : VK} {us : List Value} {vs : List V}
    (I : Inv X pins σ H s) (r : Vals vs us) (h : spM K n m vs H Q fun c d H => W c d σ H) : wpAny (model X.prog X.w) X.A (call (.ref f) us) (EP X pins σ Q) X.xe s := by
  obtain ⟨rfl, rfl, rfl, rfl, rfl, _, _, _, room, tk, _, md, _, _, _, _⟩ := C
  have hl : us.length = ps.length := by rw [← r.length]; exact F.len _ _ _ _ h
  have b := hb s us I.kIn (by rw [List.append_nil]; exact hl)
  rw [List.append_nil] at b
  have mode : Mode X.K hot X.A X.stack H s := by
    cases hot with
    | none => exact I.ok.hd md
    | some ac =>
      obtain ⟨_, p, hot1, hp⟩ := md
      have P1 := I.pin p (List.mem_append_left _ hp)
      exact ⟨p, hot1, ⟨P1.1, P1.2.1, fun hm => (List.mem_cons.mp (I.stkSub p.1 hm)).elim P1.2.2.1 P1.2.2.2.1, P1.2.2.2.2⟩⟩
  refine wpAny_call (codeAny_mono (F.run X.A X.stack s H ⟨us, []⟩ us vs Q (WE W σ) (room.mono hj) mode I.env0 b r h) fun r s' hq => ?_)
  cases r with
  | error e => exact passAtN tk σ pins H s e s' I hq
  | ok fl =>
    cases fl with
    | ret u => exact I.after hq
    | next => exact hq.elim
    | brk => exact hq.elim
    | cont => exact hq.elim
structure Ca (P : Program) (w : World) (K : PySem.W.Frag) (mg : Str → Option Value) (base : Heap) (hot : Option (Nat × Str)) (j n : Nat) (x : Str) (m : Fn) : Prop where
  ex : ∃ f fd ps, FnM P w K mg base hot j f fd ps (spM K n m) ∧ mg x = some (.ref f) ∧ PySem.W.keepIn K (.ref f) = true ∧ Binds K fd ps []
  no : ∀ ds g, ds.length ≠ n → m ds g = .no
theorem sp_of {K : PySem.W.Frag} {w : Wd} {g : Gr} {H : Hp} {vs : List V} {ds : List D} {Q : VK} {E : XK} {n : Nat} {m : Fn} (no : ∀ ds g, ds.length ≠ n → m ds g = .no) (S0 : SG K w g H) (r : RepL K w vs ds) (o : Out K w (m ds g) Q E) : spM K n m vs H Q E := by
  refine ⟨?_, w, g, ds, S0, r, o⟩
  by_cases h : ds.length = n
  · rw [r.length]; exact h
  · rw [no ds g h] at o; exact o.elim
theorem xCall (C : Cc P w K mg base Z hot k X W) (i : Nat) (F : Ca P w K mg base hot j n x m) {e : Expr} {es : List Expr} {ms : Exps} {p : Pos} (ha : RA X W (e :: es) ms) (hN : Z.gl[i]? = some x := by rfl) (hj : j ≤ k := by decide)
    (he : starEach (e :: es) X.env = (false, eval e X.env) :: starEach es X.env := by rfl) (hpl : (backTo pos (starEach es X.env)).any (·.1) = false := by rfl) : RE X W (.Call (.Name x p) (e :: es) [] pos) (eArgs m ms) := by
  obtain ⟨f, fd, ps, F1, hm, hk, hb⟩ := F.ex
  obtain ⟨h1, h2⟩ := C.glo hN
  refine ⟨fun pins s σ H Q I h => ?_⟩
  obtain ⟨w1, ρ, g, S0, L, o⟩ := h
  refine wpAny_Call_Name_kw (ld_glob I h1 (by rw [C.pm]; exact hm) ?_ h2)
  refine PySem.W.callWith_K (h₀ := X.base) I.ok.mod.kin (by rw [C.pK]; exact hk) ?_ he hpl
  refine thn (ha.run pos pins s σ H (fun vs H1 => spM K n m vs H1 Q fun c d H => W c d σ H) I (bindA S0 L o fun ds g' vs H' w' le S' L' r o' => ?_)) fun us s1 hq => ?_
  · rw [C.pK] at S' r o'
    exact sp_of F.no S' r o'
  · obtain ⟨vs, H1, I1, r, q⟩ := hq
    exact ⟨I1.kIn, run_fnm C F1 hj hb I1 r q⟩
end
end Fw

set_option maxRecDepth 100000
set_option maxHeartbeats 4000000
namespace Fw
open PySem PySem.Spec PyProof.Rows L2

def viewL (g : Gr) : D → Option (List D)
  | .lst ds => some ds
  | .obj l => (match g[l]? with
    | some (.lst ds) => some ds
    | _ => none)
  | _ => none
def viewT : D → Option (List D)
  | .tup ds => some ds
  | _ => none
section
variable {K : PySem.W.Frag} {w : Wd} {g : Gr} {H : Hp} {v : V} {d : D} {ds : List D}
theorem viewL_ok (S0 : SG K w g H) (r : Rep K w v d) (e : viewL g d = some ds) : ∃ a xs, v = .ref a ∧ Rd H a (.lst xs) ∧ RepL K w xs ds := by
  cases d with
  | lst es =>
    simp only [viewL, Option.some.injEq] at e
    subst e
    simp only [Rep] at r
    obtain ⟨a, xs, h1, h2, h3⟩ := r
    exact ⟨a, xs, h1, S0.ex.rd h2, h3⟩
  | obj l =>
    simp only [viewL] at e
    split at e
    · rename_i es hl
      cases e
      simp only [Rep] at r
      obtain ⟨f, xs, h1, h2⟩ := S0.cell l _ hl
      exact ⟨_, xs, r.2, .inl h1, h2⟩
    · cases e
  | _ => simp only [viewL] at e; cases e
theorem viewT_ok (S0 : SG K w g H) (r : Rep K w v d) (e : viewT d = some ds) : ∃ a xs, v = .ref a ∧ SqT K H a xs ∧ RepL K w xs ds := by
  cases d with
  | tup es =>
    simp only [viewT, Option.some.injEq] at e
    subst e
    simp only [Rep] at r
    obtain ⟨a, xs, h1, h2, h3⟩ := r
    exact ⟨a, xs, h1, S0.ex.sqT h2, h3⟩
  | _ => simp only [viewT] at e; cases e
end

def CaS (K : PySem.W.Frag) (r : List V → Hp → VK → Prop) (m : Fn) : Prop :=
  ∀ (w : Wd) (g : Gr) (H : Hp) (vs : List V) (ds : List D) (Q : VK) (E : XK), SG K w g H → RepL K w vs ds → Out K w (m ds g) Q E → r vs H Q
section
variable {P : Program} {w : World} {K : PySem.W.Frag} {mg : Str → Option Value} {base : Heap} {Z : Sc} {hot : Option (Nat × Str)} {k : Nat} {X : Cx} {W : WX} {pos : Pos} {x : Str} {id T : String} {r : List V → Hp → VK → Prop} {m : Fn} {e : Expr} {es : List Expr} {ms : Exps} {p : Pos}
theorem xBlt (C : Cc P w K mg base Z hot k X W) (i : Nat) (hc : CallR X (.builtin id) r) (hs : CaS X.K r m) (fr : mg x = none) (hv : bootBuiltins x = some (.builtin id)) (ha : RA X W (e :: es) ms) (hN : Z.gl[i]? = some x := by rfl) (hn : x ≠ "__name__" := by decide)
    (he : starEach (e :: es) X.env = (false, eval e X.env) :: starEach es X.env := by rfl) (hpl : (backTo pos (starEach es X.env)).any (·.1) = false := by rfl) : RE X W (.Call (.Name x p) (e :: es) [] pos) (eArgs m ms) := by
  obtain ⟨h1, h2⟩ := C.glo hN
  refine pe_weak (pe_callB hc h1 (by rw [C.pm]; exact fr) hv ha hn h2 he hpl) ?_
  rintro σ H Q ⟨w1, ρ, g, S0, L, o⟩
  exact bindA S0 L o fun ds g' vs H' w' le S' L' r o' => hs w' g' H' vs ds Q _ S' r o'
theorem xTyp (C : Cc P w K mg base Z hot k X W) (i : Nat) (hc : CallR X (.type T) r) (hs : CaS X.K r m) (fr : mg x = none) (hv : bootBuiltins x = some (.type T)) (ha : RA X W (e :: es) ms) (hN : Z.gl[i]? = some x := by rfl) (hn : x ≠ "__name__" := by decide)
    (he : starEach (e :: es) X.env = (false, eval e X.env) :: starEach es X.env := by rfl) (hpl : (backTo pos (starEach es X.env)).any (·.1) = false := by rfl) : RE X W (.Call (.Name x p) (e :: es) [] pos) (eArgs m ms) := by
  obtain ⟨h1, h2⟩ := C.glo hN
  refine pe_weak (pe_callTy hc h1 (by rw [C.pm]; exact fr) hv ha hn h2 he hpl) ?_
  rintro σ H Q ⟨w1, ρ, g, S0, L, o⟩
  exact bindA S0 L o fun ds g' vs H' w' le S' L' r o' => hs w' g' H' vs ds Q _ S' r o'
end
def MtS (K : PySem.W.Frag) (T : String) (r : V → List V → Hp → VK → Prop) (ty : D → Gr → Bool) (m : D → List D → Gr → R) : Prop :=
  (∀ (w : Wd) (g : Gr) (H : Hp) (x : V) (d : D), SG K w g H → Rep K w x d → ty d g = true → tyV K T x H) ∧
  (∀ (w : Wd) (g : Gr) (H : Hp) (x : V) (d : D) (vs : List V) (ds : List D) (Q : VK) (E : XK), SG K w g H → Rep K w x d → RepL K w vs ds → Out K w (m d ds g) Q E → r x vs H Q)
def eBm (ty : D → Gr → Bool) (m : D → List D → Gr → R) (mo : Exp) (ms : Exps) : Exp := fun ρ g => (mo ρ g).bind fun d g1 => if ty d g1 = true then (ms ρ g1).bind fun ds g2 => m d ds g2 else .no
section
variable {X : Cx} {W : WX} {o e : Expr} {es : List Expr} {mo : Exp} {ms : Exps} {name : Str} {apos cpos : Pos} {T id : String} {r : V → List V → Hp → VK → Prop} {ty : D → Gr → Bool} {m : D → List D → Gr → R}
theorem xBm (pa : PlainAttrs T) (slot : Slot T name id) (hty : typeOf (.builtin id) = pure (.type "method_descriptor")) (hm : MtR X id r) (hs : MtS X.K T r ty m) (ho : RE X W o mo) (ha : RA X W (e :: es) ms)
    (hbase : attributeBase o name X.env (eval o X.env) = eval o X.env := by rfl)
    (hfew : ((backTo cpos (starEach (e :: es) X.env)).all (fun x => !x.1) && (backToKw cpos (keywordEach [] X.env)).all (fun x => x.1.isSome)
      && decide ((e :: es).length + ([] : List Keyword).length + (if ([] : List Keyword).isEmpty then 0 else 1) < 30)) = true := by rfl)
    (hline : (apos.endLine == cpos.line) = true := by rfl) (hst : starEach (e :: es) X.env = (false, eval e X.env) :: starEach es X.env := by rfl) (hplain : (backTo cpos (starEach es X.env)).any (·.1) = false := by rfl) :
    RE X W (.Call (.Attribute o name apos) (e :: es) [] cpos) (eBm ty m mo ms) := by
  refine pe_weak (pe_bm pa slot hty hm ho ha hbase hfew hline hst hplain) ?_
  rintro σ H Q ⟨w1, ρ, g, S0, L, o⟩
  refine bindM S0 L o fun d g1 x H1 w2 le S1 L1 rx o1 => ?_
  split at o1
  · rename_i ht
    refine ⟨hs.1 w2 g1 H1 x d S1 rx ht, bindA S1 L1 o1 fun ds g2 vs H2 w3 le2 S2 L2' rv o2 => ?_⟩
    exact hs.2 w3 g2 H2 x d vs ds Q _ S2 (rx.mono le2) rv o2
  · exact o1.elim
end

theorem repF_lookup {K : PySem.W.Frag} {w : Wd} {f : Str} {d : D} : ∀ {xs : List (Str × V)} {fs : List (Str × D)}, RepF K w xs fs → fs.lookup f = some d → ∃ v, xs.lookup f = some v ∧ Rep K w v d
  | _, [], _, h => by cases h
  | [], q :: fs, ⟨h1, _⟩, _ => by cases h1
  | (a, v) :: xs, (b, e) :: fs, ⟨h1, h2⟩, h => by
    simp only [List.map_cons, List.cons.injEq] at h1
    simp only [List.map_cons, RepL] at h2
    obtain ⟨x, r, e1, h3, h4⟩ := h2
    obtain ⟨rfl, e2⟩ := List.cons.inj e1
    subst e2
    obtain ⟨rfl, h1⟩ := h1
    simp only [List.lookup] at h ⊢
    cases q : f == a with
    | true =>
      simp only [q, Option.some.injEq] at h ⊢
      subst h
      exact ⟨v, rfl, h3⟩
    | false =>
      simp only [q] at h ⊢
      exact repF_lookup ⟨h1, h4⟩ h
theorem repF_none {K : PySem.W.Frag} {w : Wd} {f : Str} : ∀ {xs : List (Str × V)} {fs : List (Str × D)}, RepF K w xs fs → fs.lookup f = none → xs.lookup f = none
  | [], [], _, _ => rfl
  | _ :: _, [], ⟨h1, _⟩, _ => by cases h1
  | [], q :: fs, ⟨h1, _⟩, _ => by cases h1
  | (a, v) :: xs, (b, e) :: fs, ⟨h1, h2⟩, h => by
    simp only [List.map_cons, List.cons.injEq] at h1
    simp only [List.map_cons, RepL] at h2
    obtain ⟨x, r, e1, h3, h4⟩ := h2
    obtain ⟨rfl, e2⟩ := List.cons.inj e1
    subst e2
    obtain ⟨rfl, h1⟩ := h1
    simp only [List.lookup] at h ⊢
    cases q : f == a with
    | true => simp only [q] at h; cases h
    | false =>
      simp only [q] at h ⊢
      exact repF_none ⟨h1, h4⟩ h
def putD (f : Str) (v : D) : List (Str × D) → List (Str × D)
  | [] => [(f, v)]
  | (g, x) :: r => if g = f then (g, v) :: r else (g, x) :: putD f v r
theorem repF_put {K : PySem.W.Frag} {w : Wd} {f : Str} {v : V} {d : D} (hv : Rep K w v d) : ∀ {xs : List (Str × V)} {fs : List (Str × D)}, RepF K w xs fs → RepF K w (putF f v xs) (putD f d fs)
  | [], [], _ => by
    refine ⟨rfl, ?_⟩
    simp only [putF, putD, List.map_cons, List.map_nil]
    exact RepL.one hv
  | _ :: _, [], ⟨h1, _⟩ => by cases h1
  | [], q :: fs, ⟨h1, _⟩ => by cases h1
  | (a, u) :: xs, (b, e) :: fs, ⟨h1, h2⟩ => by
    simp only [List.map_cons, List.cons.injEq] at h1
    simp only [List.map_cons, RepL] at h2
    obtain ⟨x, r, e1, h3, h4⟩ := h2
    obtain ⟨rfl, e2⟩ := List.cons.inj e1
    subst e2
    obtain ⟨rfl, h1⟩ := h1
    by_cases z : a = f
    · simp only [putF, putD, if_pos z, RepF, List.map_cons, RepL]
      exact ⟨by rw [h1], v, _, rfl, hv, h4⟩
    · obtain ⟨i1, i2⟩ := repF_put hv ⟨h1, h4⟩
      simp only [putF, putD, if_neg z, RepF, List.map_cons, RepL]
      exact ⟨by rw [i1], u, _, rfl, h3, i2⟩
theorem RepF.mono {K : PySem.W.Frag} {w w' : Wd} {xs : List (Str × V)} {fs : List (Str × D)} (e : w.Le w') (h : RepF K w xs fs) : RepF K w' xs fs := ⟨h.1, RepL.mono e _ _ h.2⟩
theorem RepF.len {K : PySem.W.Frag} {w : Wd} {xs : List (Str × V)} {fs : List (Str × D)} (h : RepF K w xs fs) : xs.length = fs.length := by
  have := congrArg List.length h.1
  simpa using this
def viewI (cs : List Str) (g : Gr) : D → Option (Nat × Str × List (Str × D))
  | .obj l => (match g[l]? with
    | some (.ins c fs) => if c ∈ cs then some (l, c, fs) else none
    | _ => none)
  | _ => none
theorem viewI_ok {K : PySem.W.Frag} {w : Wd} {g : Gr} {H : Hp} {v : V} {d : D} {cs : List Str} {l : Nat} {c : Str} {fs : List (Str × D)} (S0 : SG K w g H) (r : Rep K w v d) (e : viewI cs g d = some (l, c, fs)) :
    d = .obj l ∧ v = .ref (w.mm l) ∧ g[l]? = some (.ins c fs) ∧ c ∈ cs ∧ ∃ dx xs, H (w.mm l) = some (.ins (He.ga K c) dx xs) ∧ RepF K w xs fs := by
  cases d with
  | obj j =>
    simp only [viewI] at e
    split at e
    · rename_i c' fs' hl
      split at e
      · rename_i hc
        cases e
        simp only [Rep] at r
        obtain ⟨f, dx, xs, h1, h2⟩ := S0.cell _ _ hl
        exact ⟨rfl, r.2, hl, hc, dx, xs, h1, h2⟩
      · cases e
    · cases e
  | _ => simp only [viewI] at e; cases e
def eFld (cs : List Str) (f : Str) (mo : Exp) : Exp := fun ρ g => (mo ρ g).bind fun d g1 => match viewI cs g1 d with
  | some (_, _, fs) => (match fs.lookup f with
    | some e => .ok e g1
    | none => .no)
  | none => .no
def sFldM (cs : List Str) (f : Str) (mo mv : Exp) : Stm := fun ρ g => (mv ρ g).toS ρ fun e g1 => (mo ρ g1).toS ρ fun d g2 => match viewI cs g2 d with
  | some (l, c, fs) => if fs.length < 1000 then .nx ρ (g2.set l (.ins c (putD f e fs))) else .no
  | none => .no
structure Fk (K : PySem.W.Frag) (cs : List Str) (f : Str) : Prop where
  cl : ∀ c ∈ cs, Cls K (He.ga K c)
  no : ∀ c ∈ cs, NoAttr K (He.ga K c) f
section
variable {X : Cx} {W : WX} {o e value : Expr} {es : List Expr} {mo mv : Exp} {ms : Exps} {f : Str} {pos pos' apos : Pos} {cs : List Str}
theorem xFld (F : Fk X.K cs f) (h : RE X W o mo) (hb : attributeBase o f X.env (eval o X.env) = eval o X.env := by rfl) : RE X W (.Attribute o f pos) (eFld cs f mo) := by
  refine pe_weak (pe_fld h hb) ?_
  rintro σ H Q ⟨w1, ρ, g, S0, L, o⟩
  refine bindM S0 L o fun d g1 x H1 w2 le S1 L1 rx o1 => ?_
  split at o1
  · rename_i l c fs hv
    obtain ⟨_, rfl, hl, hc, dx, xs, h1, h2⟩ := viewI_ok S1 rx hv
    split at o1
    · rename_i e he
      obtain ⟨v, h3, h4⟩ := repF_lookup h2 he
      exact ⟨_, _, dx, xs, v, rfl, h1, F.cl c hc, F.no c hc, h3, Out.here o1 S1 h4⟩
    · exact o1.elim
  · exact o1.elim
theorem setIns {K : PySem.W.Frag} {w : Wd} {g : Gr} {H : Hp} {l : Nat} {c f : Str} {fs : List (Str × D)} {dx : Addr} {xs : List (Str × V)} {v : V} {d : D} (S0 : SG K w g H) (hl : g[l]? = some (.ins c fs)) (h1 : H (w.mm l) = some (.ins (He.ga K c) dx xs)) (h2 : RepF K w xs fs) (hv : Rep K w v d) :
    SG K w (g.set l (.ins c (putD f d fs))) (upd H (w.mm l) (.ins (He.ga K c) dx (putF f v xs))) :=
  S0.setC hl rfl (by obtain ⟨f0, _⟩ := S0.cell l _ hl; exact ⟨f0, dx, _, upd_same, repF_put hv h2⟩) rfl
theorem xSetFld (F : Fk X.K cs f) (h : RE X W o mo) (hv : RE X W value mv) (hs : swapsWith value (some (.Attribute o f pos')) pos.line X.env = pure false := by rfl) : RS X W (.Assign [.Attribute o f pos'] value pos) (sFldM cs f mo mv) := by
  refine ps_weak (ps_fld h hv hs) ?_
  rintro Dn σ H ⟨w1, ρ, g, S0, L, o⟩
  refine bindSM S0 L o fun e g1 y H1 w2 le1 S1 L1 ry o1 => ?_
  refine bindSM S1 L1 o1 fun d g2 x H2 w3 le2 S2 L2' rx o2 => ?_
  split at o2
  · rename_i l c fs hv
    obtain ⟨_, rfl, hl, hc, dx, xs, h1, h2⟩ := viewI_ok S2 rx hv
    split at o2
    · rename_i hz
      exact ⟨_, _, dx, xs, rfl, h1, F.cl c hc, F.no c hc, by rw [h2.len]; exact hz, o2 σ _ w3 (Wd.Le.refl _) (setIns S2 hl h1 h2 (ry.mono le2)) L2'⟩
    · exact o2.elim
  · exact o2.elim
def sFldA (cs : List Str) (f : Str) (op : D → D → Option D) (mo mv : Exp) : Stm := fun ρ g => (mo ρ g).toS ρ fun d g1 => match viewI cs g1 d with
  | some (l, c0, fs) => (match fs.lookup f with
    | some a => (mv ρ g1).toS ρ fun e g2 => (match op a e with
      | some z => (match viewI cs g2 (.obj l) with
        | some (_, c, fs) => if c = c0 ∧ fs.length < 1000 then .nx ρ (g2.set l (.ins c (putD f z fs))) else .no
        | none => .no)
      | none => .no)
    | none => .no)
  | none => .no
def dAdd : D → D → Option D
  | .int i, .int j => some (.int (i + j))
  | _, _ => none
theorem xAugFld {op : Operator} {rd : V → V → Hp → VK → Prop} {mop : D → D → Option D} (F : Fk X.K cs f) (h : RE X W o mo) (hv : RE X W value mv) (hop : InOp X op rd)
    (hs : ∀ (w : Wd) (x y : V) (a b z : D) (H : Hp) (Q : VK), Rep X.K w x a → Rep X.K w y b → mop a b = some z → (∀ u, Rep X.K w u z → Q u H) → rd x y H Q) : RS X W (.AugAssign (.Attribute o f pos') op value pos) (sFldA cs f mop mo mv) := by
  refine ps_weak (ps_fldaug h hv hop) ?_
  rintro Dn σ H ⟨w1, ρ, g, S0, L, o⟩
  refine bindSM S0 L o fun d g1 x H1 w2 le1 S1 L1 rx o1 => ?_
  split at o1
  · rename_i l c fs hv
    obtain ⟨_, rfl, hl, hc, dx, xs, h1, h2⟩ := viewI_ok S1 rx hv
    split at o1
    · rename_i a ha
      obtain ⟨va, h3, h4⟩ := repF_lookup h2 ha
      refine ⟨_, _, dx, xs, va, rfl, h1, F.cl c hc, F.no c hc, h3, ?_⟩
      refine bindSM S1 L1 o1 fun e g2 y H2 w3 le2 S2 L2' ry o2 => ?_
      split at o2
      · rename_i z hz
        refine hs w3 va y a e z H2 _ (h4.mono le2) ry hz fun u ru => ?_
        split at o2
        · rename_i l' c' fs' hv2
          have hlt : l < w2.n := by rw [S1.n]; exact (List.getElem?_eq_some_iff.mp hl).1
          have ro : Rep X.K w3 (.ref (w2.mm l)) (.obj l) := by
            simp only [Rep]
            exact ⟨Nat.lt_of_lt_of_le hlt le2.le, by rw [le2.same l hlt]⟩
          obtain ⟨el, e2, hl2, hc2, dx2, xs2, h5, h6⟩ := viewI_ok S2 ro hv2
          cases el
          have e3 : w2.mm l = w3.mm l := (le2.same l hlt).symm
          split at o2
          · rename_i hz2
            obtain ⟨rfl, hz2⟩ := hz2
            exact ⟨dx2, xs2, by rw [e3]; exact h5, by rw [h6.len]; exact hz2, by rw [e3]; exact o2 σ _ w3 (Wd.Le.refl _) (setIns S2 hl2 h5 h6 ru) L2'⟩
          · exact o2.elim
        · exact o2.elim
      · exact o2.elim
    · exact o1.elim
  · exact o1.elim
end
end Fw

set_option maxRecDepth 100000
set_option maxHeartbeats 4000000
namespace Fw
open PySem PySem.Spec PyProof.Rows L2

def eMeth (cs : List Str) (mn : Str) (m : Fn) (mo : Exp) (ms : Exps) : Exp := fun ρ g => (mo ρ g).bind fun d g1 => match viewI cs g1 d with
  | some (_, _, fs) => if fs.lookup mn = none then (ms ρ g1).bind fun ds g2 => m (d :: ds) g2 else .no
  | none => .no
structure Ma (P : Program) (w : World) (K : PySem.W.Frag) (mg : Str → Option Value) (base : Heap) (hot : Option (Nat × Str)) (j n : Nat) (cs : List Str) (mn : Str) (m : Fn) : Prop where
  ex : ∀ c ∈ cs, Cls K (He.ga K c) ∧ ∃ f fd ps, Meth K (He.ga K c) mn f ∧ FnM P w K mg base hot j f fd ps (spM K n m) ∧ Binds K fd ps []
  no : ∀ ds g, ds.length ≠ n → m ds g = .no
section
variable {P : Program} {w : World} {K : PySem.W.Frag} {mg : Str → Option Value} {base : Heap} {Z : Sc} {hot : Option (Nat × Str)} {k : Nat} {X : Cx} {W : WX} {pos apos : Pos} {x mn : Str} {j n : Nat} {m : Fn} {o e : Expr} {es : List Expr} {mo : Exp} {ms : Exps} {cs : List Str} {p : Pos}
theorem xMeth (C : Cc P w K mg base Z hot k X W) (F : Ma P w K mg base hot j n cs mn m) (ho : RE X W o mo) (ha : RA X W (e :: es) ms) {pl : Sem Bool} (hj : j ≤ k := by decide)
    (hst : starEach (e :: es) X.env = (false, eval e X.env) :: starEach es X.env := by rfl) (hpl : (backTo pos (starEach es X.env)).any (·.1) = false := by rfl)
    (ht : eval (.Call (.Attribute o mn apos) (e :: es) [] pos) X.env = (do let ov ← eval o X.env; standAt apos.atName; let (f, first) ← holding [ov] (getMethod ov mn pl); callWith pos f first (backTo pos (starEach (e :: es) X.env)) (backToKw pos (keywordEach [] X.env))) := by rfl) :
    RE X W (.Call (.Attribute o mn apos) (e :: es) [] pos) (eMeth cs mn m mo ms) := by
  refine ⟨fun pins s σ H Q I h => ?_⟩
  obtain ⟨w1, ρ, g, S0, L, o⟩ := h
  refine PySem.W.methodCall_KW (pl := pl) (thn (ho.run pins s σ H (fun x H1 => ∃ c a dx fs, c ∈ cs ∧ x = .ref a ∧ H1 a = some (.ins (He.ga K c) dx fs) ∧ fs.lookup mn = none ∧ tMA X.K W ms σ H1 fun vs H2 => spM K n m (.ref a :: vs) H2 Q fun c d H => W c d σ H) I
    (bindM S0 L o fun d g1 x H1 w2 le S1 L1 rx o1 => ?_)) fun u s1 hq => ?_) ht
  · split at o1
    · rename_i l c fs hv
      obtain ⟨rfl, rfl, hl, hc, dx, xs, h1, h2⟩ := viewI_ok S1 rx hv
      split at o1
      · rename_i hn
        rw [C.pK] at h1
        refine ⟨c, _, dx, xs, hc, rfl, h1, repF_none h2 hn, bindA S1 L1 o1 fun ds g2 vs H2 w3 le2 S2 L2' rv o2 => ?_⟩
        rw [C.pK] at S2 rv o2 rx
        refine sp_of F.no S2 ?_ o2
        simp only [RepL]
        exact ⟨_, vs, rfl, rx.mono le2, rv⟩
      · exact o1.elim
    · exact o1.elim
  · obtain ⟨x, H1, I1, rx, c, a, dx, fs, hc, rfl, ea, hl, q⟩ := hq
    obtain ⟨cl, f, fd, ps, me, F1, hb⟩ := F.ex c hc
    obtain rfl : u = Value.ref a := rx
    rw [← C.pK] at cl me ea
    refine getmeth_ok I1 ea cl me hl ?_
    refine PySem.W.callWith_K (first := [.ref a]) (h₀ := X.base) I.ok.mod.kin me.kp (thn (ha.run pos pins s1 σ H1 _ I1 q) fun us s2 hq2 => ?_) hst hpl
    obtain ⟨vs, H2, I2, r, q2⟩ := hq2
    exact ⟨I2.kIn, run_fnm (us := .ref a :: us) (vs := .ref a :: vs) C F1 hj hb I2 (.cons rfl r) q2⟩
theorem xMeth0 (C : Cc P w K mg base Z hot k X W) (F : Ma P w K mg base hot j n cs mn m) (ho : RE X W o mo) {pl : Sem Bool} (hj : j ≤ k := by decide)
    (ht : eval (.Call (.Attribute o mn apos) [] [] pos) X.env = (do let ov ← eval o X.env; standAt apos.atName; let (f, first) ← holding [ov] (getMethod ov mn pl); callWith pos f first (backTo pos (starEach [] X.env)) (backToKw pos (keywordEach [] X.env))) := by rfl) :
    RE X W (.Call (.Attribute o mn apos) [] [] pos) (eMeth cs mn m mo aNil) := by
  refine ⟨fun pins s σ H Q I h => ?_⟩
  obtain ⟨w1, ρ, g, S0, L, o⟩ := h
  refine PySem.W.methodCall_KW (pl := pl) (thn (ho.run pins s σ H (fun x H1 => ∃ c a dx fs, c ∈ cs ∧ x = .ref a ∧ H1 a = some (.ins (He.ga K c) dx fs) ∧ fs.lookup mn = none ∧ spM K n m [.ref a] H1 Q fun c d H => W c d σ H) I
    (bindM S0 L o fun d g1 x H1 w2 le S1 L1 rx o1 => ?_)) fun u s1 hq => ?_) ht
  · split at o1
    · rename_i l c fs hv
      obtain ⟨rfl, rfl, hl, hc, dx, xs, h1, h2⟩ := viewI_ok S1 rx hv
      split at o1
      · rename_i hn
        have o2 : Out X.K w2 (m [.obj l] g1) Q fun c d H' => W c d σ H' := o1
        rw [C.pK] at h1 S1 rx o2
        exact ⟨c, _, dx, xs, hc, rfl, h1, repF_none h2 hn, sp_of F.no S1 (RepL.one rx) o2⟩
      · exact o1.elim
    · exact o1.elim
  · obtain ⟨x, H1, I1, rx, c, a, dx, fs, hc, rfl, ea, hl, q⟩ := hq
    obtain ⟨cl, f, fd, ps, me, F1, hb⟩ := F.ex c hc
    obtain rfl : u = Value.ref a := rx
    rw [← C.pK] at cl me ea
    refine getmeth_ok I1 ea cl me hl ?_
    exact PySem.W.callWith_K0 (first := [.ref a]) I1.kIn me.kp (run_fnm (us := [.ref a]) (vs := [.ref a]) C F1 hj hb I1 (.cons rfl .nil) q)

def eMake (c : Str) (m : Fn) (ms : Exps) : Exp := fun ρ g => (ms ρ g).bind fun ds g1 => match m (.obj g1.length :: ds) (g1 ++ [.ins c []]) with
  | .ok .non g2 => .ok (.obj g1.length) g2
  | .err c g2 => .err c g2
  | _ => .no
structure Ka (P : Program) (w : World) (K : PySem.W.Frag) (mg : Str → Option Value) (base : Heap) (hot : Option (Nat × Str)) (j n : Nat) (c : Str) (m : Fn) : Prop where
  ex : ∃ f fd ps, Mk K (He.ga K c) f ∧ mg c = some (.ref (He.ga K c)) ∧ FnM P w K mg base hot j f fd ps (spM K n m) ∧ Binds K fd ps []
  no : ∀ ds g, ds.length ≠ n → m ds g = .no
def mkSp (c : Str) (K : PySem.W.Frag) (n : Nat) (m : Fn) (vs : List V) (H : Hp) (Q : VK) (E : XK) : Prop :=
  ∀ x dx, H x = none → H dx = none → dx ≠ x → spM K n m (.ref x :: vs) (upd (upd H dx (.own x)) x (.ins (He.ga K c) dx [])) (fun v H2 => v = .non ∧ Q (.ref x) H2) E
theorem mkSp_of {K : PySem.W.Frag} {c : Str} {w : Wd} {g : Gr} {H : Hp} {vs : List V} {ds : List D} {Q : VK} {E : XK} {n : Nat} {m : Fn} (no : ∀ ds g, ds.length ≠ n → m ds g = .no) (S0 : SG K w g H) (r : RepL K w vs ds)
    (o : Out K w (match m (.obj g.length :: ds) (g ++ [.ins c []]) with | .ok .non g2 => .ok (.obj g.length) g2 | .err c g2 => .err c g2 | _ => .no) Q E) : mkSp c K n m vs H Q E := by
  intro x dx hx hdx ne
  have S1 : SG K w g (upd H dx (.own x)) := S0.grow (Exn.add hdx)
  have hx1 : upd H dx (.own x) x = none := by rw [upd_ne (Ne.symm ne)]; exact hx
  have S2 : SG K (w.more x) (g ++ [.ins c []]) (upd (upd H dx (.own x)) x (.ins (He.ga K c) dx [])) := S1.allocC hx1 ⟨S1.ex.free hx1, dx, [], upd_same, rfl, by simp only [List.map_nil, RepL]⟩
  have le := w.le_more x
  have r1 : Rep K (w.more x) (.ref x) (.obj g.length) := by
    simp only [Rep]
    rw [← S0.n]
    exact ⟨Nat.lt_succ_self _, by rw [Wd.more_at]⟩
  have r2 : RepL K (w.more x) (.ref x :: vs) (.obj g.length :: ds) := by
    simp only [RepL]
    exact ⟨_, vs, rfl, r1, RepL.mono le _ _ r⟩
  refine sp_of no S2 r2 ?_
  cases e : m (.obj g.length :: ds) (g ++ [.ins c []]) with
  | no => rw [e] at o; exact o
  | err c g2 => simp only [e] at o; exact fun H' w' l s => o H' w' (le.trans l) s
  | ok d g2 =>
    simp only [e] at o
    cases d with
    | non =>
      intro v H' w' l s rv
      simp only [Rep] at rv
      exact ⟨rv, o _ H' w' (le.trans l) s (r1.mono l)⟩
    | _ => exact o.elim
theorem run_mkm (C : Cc P w K mg base Z hot k X W) (F : Ka P w K mg base hot j n x m) (hj : j + 1 ≤ k) {pins : List (Addr × Obj)} {σ : L2.St} {H : Hp} {s : Shared} {Q : VK} {us : List Value} {vs : List V}
    (I : Inv X pins σ H s) (r : Vals vs us) (h : mkSp x K n m vs H Q fun c d H => W c d σ H) : wpAny (model X.prog X.w) X.A (call (.ref (He.ga K x)) us) (EP X pins σ Q) X.xe s := by
  obtain ⟨f, fd, ps, M, _, F1, hb⟩ := F.ex
  obtain ⟨rfl, rfl, rfl, rfl, rfl, _, _, _, room, tk, _, md, _, _, _, _⟩ := C
  have hq := h (s.heap.objs.size + 1) s.heap.objs.size (I.hok.fresh (Nat.le_succ _)) (I.hok.fresh (Nat.le_refl _)) (Nat.ne_of_lt (Nat.lt_succ_self _))
  have I2 := Inv.made (C := He.ga X.K x) I
  have r2 : Vals (V.ref (s.heap.objs.size + 1) :: vs) (Value.ref (s.heap.objs.size + 1) :: us) := .cons rfl r
  have hl : (Value.ref (s.heap.objs.size + 1) :: us).length = ps.length := by
    have e := r2.length
    rw [F1.len _ _ _ _ hq] at e
    exact e.symm
  have b := hb _ (Value.ref (s.heap.objs.size + 1) :: us) I2.kIn (by rw [List.append_nil]; exact hl)
  rw [List.append_nil] at b
  have mode : ∀ {s2 : Shared}, Inv X pins σ (upd (upd H s.heap.objs.size (.own (s.heap.objs.size + 1))) (s.heap.objs.size + 1) (.ins (He.ga X.K x) s.heap.objs.size [])) s2 → Mode X.K hot (X.A.under (.builtin "type.__call__" ⟨.ref (He.ga X.K x) :: us, []⟩)) X.stack (upd (upd H s.heap.objs.size (.own (s.heap.objs.size + 1))) (s.heap.objs.size + 1) (.ins (He.ga X.K x) s.heap.objs.size [])) s2 := fun {s2} I2 => by
    cases hot with
    | none => exact I.ok.hd md
    | some ac =>
      obtain ⟨_, p, hot1, hp⟩ := md
      have P1 := I2.pin p (List.mem_append_left _ hp)
      exact ⟨p, ⟨hot1.hd, hot1.eq, hot1.zn, hot1.fl⟩, ⟨P1.1, P1.2.1, fun hm => (List.mem_cons.mp (I2.stkSub p.1 hm)).elim P1.2.2.1 P1.2.2.2.1, P1.2.2.2.2⟩⟩
  refine wpAny_call (make_map (f := f) I.kIn M.makes M.init (beq_iff_eq.mp M.fn) (codeAny_mono (F1.run _ X.stack _ _ ⟨Value.ref (s.heap.objs.size + 1) :: us, []⟩ (Value.ref (s.heap.objs.size + 1) :: us) _ _ (WE W σ) ((room.mono hj).make (He.ga X.K x) us [])
    (mode I2) (I2.env0.make (He.ga X.K x) us []) b r2 hq) fun r s' hq' => ?_))
  cases r with
  | error e => exact passAtN tk σ pins _ _ e s' I2 hq'
  | ok fl =>
    cases fl with
    | ret u =>
      obtain ⟨v, H', I3, rv, ev, q3⟩ := I2.after hq'
      subst ev
      exact ⟨rv, ⟨V.ref (s.heap.objs.size + 1), H', I3, rfl, q3⟩⟩
    | next => exact hq'.elim
    | brk => exact hq'.elim
    | cont => exact hq'.elim
theorem xMake (C : Cc P w K mg base Z hot k X W) (i : Nat) (F : Ka P w K mg base hot j n x m) (ha : RA X W (e :: es) ms) (hN : Z.gl[i]? = some x := by rfl) (hj : j + 1 ≤ k := by decide)
    (he : starEach (e :: es) X.env = (false, eval e X.env) :: starEach es X.env := by rfl) (hpl : (backTo pos (starEach es X.env)).any (·.1) = false := by rfl) : RE X W (.Call (.Name x p) (e :: es) [] pos) (eMake x m ms) := by
  obtain ⟨f, fd, ps, M, hm, F1, hb⟩ := id F.ex
  obtain ⟨h1, h2⟩ := C.glo hN
  refine ⟨fun pins s σ H Q I h => ?_⟩
  obtain ⟨w1, ρ, g, S0, L, o⟩ := h
  refine wpAny_Call_Name_kw (ld_glob I h1 (by rw [C.pm]; exact hm) ?_ h2)
  refine PySem.W.callWith_K (h₀ := X.base) I.ok.mod.kin (by rw [C.pK]; exact M.kp) ?_ he hpl
  refine thn (ha.run pos pins s σ H (fun vs H1 => mkSp x K n m vs H1 Q fun c d H => W c d σ H) I (bindA S0 L o fun ds g' vs H' w' le S' L' r o' => ?_)) fun us s1 hq => ?_
  · rw [C.pK] at S' r o'
    exact mkSp_of F.no S' r o'
  · obtain ⟨vs, H1, I1, r, q⟩ := hq
    exact ⟨I1.kIn, run_mkm C F hj I1 r q⟩
theorem xMake0 (C : Cc P w K mg base Z hot k X W) (i : Nat) (F : Ka P w K mg base hot j n x m) (hN : Z.gl[i]? = some x := by rfl) (hj : j + 1 ≤ k := by decide) : RE X W (.Call (.Name x p) [] [] pos) (eMake x m aNil) := by
  obtain ⟨f, fd, ps, M, hm, F1, hb⟩ := id F.ex
  obtain ⟨h1, h2⟩ := C.glo hN
  refine ⟨fun pins s σ H Q I h => ?_⟩
  obtain ⟨w1, ρ, g, S0, L, o⟩ := h
  refine wpAny_Call_Name_kw (ld_glob I h1 (by rw [C.pm]; exact hm) ?_ h2)
  rw [C.pK] at S0 o
  exact PySem.W.callWith_K0 I.kIn (by rw [C.pK]; exact M.kp) (run_mkm (us := []) C F hj I .nil (mkSp_of F.no S0 repl_nil o))
end
end Fw

set_option maxRecDepth 100000
set_option maxHeartbeats 4000000
namespace Fw
open PySem PySem.Spec PyProof.Rows L2 SeqAt

def ndP : PyData → Bool
  | .list xs => ndAll xs
  | .tuple xs => ndAll xs
  | .dict _ => false
  | _ => true
where ndAll : List PyData → Bool
  | [] => true
  | x :: xs => ndP x && ndAll xs
mutual
theorem nd_one {h : Heap} : ∀ (d d' : PyData) (v : Value) (as as' : List Addr), ndP d = true → Reads h v d as → Reads h v d' as' → d = d'
  | .none, _, _, _, _, _, r, r' => by cases r; cases r'; rfl
  | .bool _, _, _, _, _, _, r, r' => by cases r; cases r'; rfl
  | .int _, _, _, _, _, _, r, r' => by cases r; cases r'; rfl
  | .str _, _, _, _, _, _, r, r' => by cases r; cases r'; rfl
  | .list xs, d', _, _, _, hl, r, r' => by
    cases r with
    | list h1 h2 h3 h4 =>
      cases r' with
      | list k1 k2 k3 k4 =>
        rw [h1] at k1; cases k1
        rw [h3] at k3; cases k3
        rw [nd_all xs _ _ _ _ (by simpa only [ndP] using hl) h4 k4]
      | tuple k1 k2 k3 k4 => rw [h1] at k1; cases k1; rw [h2] at k2; exact absurd k2 (by simp)
      | dict k1 k2 k3 k4 k5 => rw [h1] at k1; cases k1; rw [h2] at k2; exact absurd k2 (by simp)
  | .tuple xs, d', _, _, _, hl, r, r' => by
    cases r with
    | tuple h1 h2 h3 h4 =>
      cases r' with
      | tuple k1 k2 k3 k4 =>
        rw [h1] at k1; cases k1
        rw [h3] at k3; cases k3
        rw [nd_all xs _ _ _ _ (by simpa only [ndP] using hl) h4 k4]
      | list k1 k2 k3 k4 => rw [h1] at k1; cases k1; rw [h2] at k2; exact absurd k2 (by simp)
      | dict k1 k2 k3 k4 k5 => rw [h1] at k1; cases k1; rw [h2] at k2; exact absurd k2 (by simp)
  | .dict _, _, _, _, _, hl, _, _ => by simp only [ndP] at hl; cases hl
theorem nd_all {h : Heap} : ∀ (xs ys : List PyData) (vs : List Value) (as as' : List Addr), ndP.ndAll xs = true → ReadsAll h vs xs as → ReadsAll h vs ys as' → xs = ys
  | [], _, _, _, _, _, r, r' => by cases r; cases r'; rfl
  | x :: xs, _, _, _, _, hl, r, r' => by
    simp only [ndP.ndAll, Bool.and_eq_true] at hl
    cases r with
    | cons h1 h2 =>
      cases r' with
      | cons k1 k2 => rw [nd_one x _ _ _ _ hl.1 h1 k1, nd_all xs _ _ _ _ hl.2 h2 k2]
end
mutual
theorem eqv_self : ∀ d : PyData, ndP d = true → PyData.eqv d d = true
  | .none, _ => rfl
  | .bool b, _ => by simp [PyData.eqv]
  | .int i, _ => by simp [PyData.eqv]
  | .str x, _ => by simp [PyData.eqv]
  | .list xs, h => by rw [PyData.eqv]; exact eqv_selfAll xs (by simpa only [ndP] using h)
  | .tuple xs, h => by rw [PyData.eqv]; exact eqv_selfAll xs (by simpa only [ndP] using h)
  | .dict _, h => by simp only [ndP] at h; cases h
theorem eqv_selfAll : ∀ xs : List PyData, ndP.ndAll xs = true → PyData.eqvAll xs xs = true
  | [], _ => rfl
  | x :: xs, h => by
    simp only [ndP.ndAll, Bool.and_eq_true] at h
    rw [PyData.eqvAll, eqv_self x h.1, eqv_selfAll xs h.2]; rfl
end
theorem minl {u a b : Nat} (h : u + min a b < cLine) : u < cLine := by omega
mutual
theorem eqAtN : ∀ (da db : PyData) (A : Around) (s : Shared) (a b : Value) (as bs : List Addr), Reads s.heap a da as → Reads s.heap b db bs → ndP da = true → ndP db = true → A.units + min da.depth db.depth < cLine → EqAt A s a b (PyData.eqv da db)
  | .none, _, A, s, _, _, _, _, ra, rb, _, hb, hu => by
    cases ra
    cases rb with
    | none => exact EqAt.same _
    | bool q1 => exact EqAt.none_bool q1
    | int q1 q2 => exact EqAt.none_int q1 q2
    | str q1 q2 => exact EqAt.none_str q1 q2
    | list k1 k2 k3 k4 => exact EqAt.none_list ⟨_, k1, k2, _, k3⟩ (minl hu)
    | tuple k1 k2 k3 k4 => exact EqAt.none_tuple ⟨_, k1, k2, _, k3⟩ (minl hu)
    | dict => simp only [ndP] at hb; cases hb
  | .bool x, _, A, s, _, _, _, _, ra, rb, _, hb, hu => by
    cases ra
    cases rb with
    | none => exact EqAt.bool_none x
    | bool q1 => exact EqAt.bool_bool x q1
    | int q1 q2 => exact EqAt.bool_int x q1 q2
    | str q1 q2 => exact EqAt.bool_str x q1 q2
    | list k1 k2 k3 k4 => exact EqAt.bool_list x ⟨_, k1, k2, _, k3⟩ (minl hu)
    | tuple k1 k2 k3 k4 => exact EqAt.bool_tuple x ⟨_, k1, k2, _, k3⟩ (minl hu)
    | dict => simp only [ndP] at hb; cases hb
  | .int x, _, A, s, _, _, _, _, ra, rb, _, hb, hu => by
    cases ra with
    | int _ t =>
      cases rb with
      | none => exact EqAt.int_none x t
      | bool q1 => exact EqAt.int_bool x t q1
      | int q1 q2 => exact EqAt.int_int x t q1 q2
      | str q1 q2 => exact EqAt.int_str x t q1 q2
      | list k1 k2 k3 k4 => exact EqAt.int_list x t ⟨_, k1, k2, _, k3⟩ (minl hu)
      | tuple k1 k2 k3 k4 => exact EqAt.int_tuple x t ⟨_, k1, k2, _, k3⟩ (minl hu)
      | dict => simp only [ndP] at hb; cases hb
  | .str x, _, A, s, _, _, _, _, ra, rb, _, hb, hu => by
    cases ra with
    | str _ t =>
      cases rb with
      | none => exact EqAt.str_none x t
      | bool q1 => exact EqAt.str_bool x t q1
      | int q1 q2 => exact EqAt.str_int x t q1 q2
      | str q1 q2 => exact EqAt.str_str x t q1 q2
      | list k1 k2 k3 k4 => exact EqAt.str_list x t ⟨_, k1, k2, _, k3⟩ (minl hu)
      | tuple k1 k2 k3 k4 => exact EqAt.str_tuple x t ⟨_, k1, k2, _, k3⟩ (minl hu)
      | dict => simp only [ndP] at hb; cases hb
  | .list xs, db, A, s, _, _, _, _, ra, rb, ha, hb, hu => by
    cases ra with
    | @list l o vs n _ as₁ h1 h2 h3 h4 =>
      have hl : s.heap.IsList l vs := ⟨_, h1, h2, _, h3⟩
      cases rb with
      | none => exact EqAt.list_none hl (minl hu)
      | bool y => exact EqAt.list_bool y hl (minl hu)
      | int y u => exact EqAt.list_int y u hl (minl hu)
      | str y u => exact EqAt.list_str y u hl (minl hu)
      | tuple k1 k2 k3 k4 => exact EqAt.list_tuple hl ⟨_, k1, k2, _, k3⟩ (minl hu)
      | dict => simp only [ndP] at hb; cases hb
      | @list l' o' vs' n' ys bs₁ k1 k2 k3 k4 =>
        have hl' : s.heap.IsList l' vs' := ⟨_, k1, k2, _, k3⟩
        have n1 : vs.size = xs.length := by simpa using SeqAt.ReadsAll.length _ _ _ h4
        have n2 : vs'.size = ys.length := by simpa using SeqAt.ReadsAll.length _ _ _ k4
        show EqAt A s (.ref l) (.ref l') (PyData.eqvAll xs ys)
        by_cases hll : l = l'
        · subst hll
          have e : PyData.list xs = PyData.list ys := nd_one (.list xs) (.list ys) _ _ _ ha (.list h1 h2 h3 h4) (.list k1 k2 k3 k4)
          injection e with e
          subst e
          rw [eqv_selfAll xs (by simpa only [ndP] using ha)]
          exact EqAt.same _
        · by_cases hsz : vs.size = vs'.size
          · rw [← eqvAll_same_length (by omega : xs.length = ys.length), ← n1]
            refine EqAt.of_refs hll (RcAt.lists hl hl' hsz (minl hu) fun j j1 j2 => ?_)
            have := eqAtNAll xs ys A.in1 s vs.toList vs'.toList _ _ h4 k4 (by simpa only [ndP] using ha) (by simpa only [ndP] using hb) (room_in hu) j (by simpa using j1) (by simpa using j2)
            simpa using this
          · rw [eqvAll_other_length (by omega : xs.length ≠ ys.length)]
            exact EqAt.of_refs hll (RcAt.lists_lengths hl hl' (by simpa using hsz) (minl hu))
  | .tuple xs, db, A, s, _, _, _, _, ra, rb, ha, hb, hu => by
    cases ra with
    | @tuple l o vs n _ as₁ h1 h2 h3 h4 =>
      have hl : s.heap.IsTuple l vs := ⟨_, h1, h2, _, h3⟩
      cases rb with
      | none => exact EqAt.tuple_none hl (minl hu)
      | bool y => exact EqAt.tuple_bool y hl (minl hu)
      | int y u => exact EqAt.tuple_int y u hl (minl hu)
      | str y u => exact EqAt.tuple_str y u hl (minl hu)
      | list k1 k2 k3 k4 => exact EqAt.tuple_list hl ⟨_, k1, k2, _, k3⟩ (minl hu)
      | dict => simp only [ndP] at hb; cases hb
      | @tuple l' o' vs' n' ys bs₁ k1 k2 k3 k4 =>
        have hl' : s.heap.IsTuple l' vs' := ⟨_, k1, k2, _, k3⟩
        have n1 : vs.size = xs.length := by simpa using SeqAt.ReadsAll.length _ _ _ h4
        have n2 : vs'.size = ys.length := by simpa using SeqAt.ReadsAll.length _ _ _ k4
        show EqAt A s (.ref l) (.ref l') (PyData.eqvAll xs ys)
        by_cases hll : l = l'
        · subst hll
          have e : PyData.tuple xs = PyData.tuple ys := nd_one (.tuple xs) (.tuple ys) _ _ _ ha (.tuple h1 h2 h3 h4) (.tuple k1 k2 k3 k4)
          injection e with e
          subst e
          rw [eqv_selfAll xs (by simpa only [ndP] using ha)]
          exact EqAt.same _
        · rw [← eqvAll_eq xs ys, ← n1, ← n2]
          refine EqAt.of_refs hll (RcAt.tuples hl hl' (minl hu) fun j j1 j2 => ?_)
          have := eqAtNAll xs ys A.in1 s vs.toList vs'.toList _ _ h4 k4 (by simpa only [ndP] using ha) (by simpa only [ndP] using hb) (room_in hu) j (by simpa using j1) (by simpa using j2)
          simpa using this
  | .dict _, _, _, _, _, _, _, _, _, _, ha, _, _ => by simp only [ndP] at ha; cases ha
theorem eqAtNAll : ∀ (xs ys : List PyData) (A : Around) (s : Shared) (vs ws : List Value) (as bs : List Addr), ReadsAll s.heap vs xs as → ReadsAll s.heap ws ys bs → ndP.ndAll xs = true → ndP.ndAll ys = true →
    A.units + min (PyData.depthAll xs) (PyData.depthAll ys) < cLine → ∀ j (h1 : j < vs.length) (h2 : j < ws.length), EqAt A s vs[j] ws[j] (pairEq xs ys j)
  | [], _, _, _, _, _, _, _, ra, _, _, _, _, j, h1, _ => by cases ra; exact absurd h1 (Nat.not_lt_zero _)
  | _ :: _, [], _, _, _, _, _, _, _, rb, _, _, _, j, _, h2 => by cases rb; exact absurd h2 (Nat.not_lt_zero _)
  | x :: xs, y :: ys, A, s, _, _, _, _, ra, rb, ha, hb, hu, j, h1, h2 => by
    simp only [ndP.ndAll, Bool.and_eq_true] at ha hb
    cases ra with
    | cons r rs =>
      cases rb with
      | cons r' rs' =>
        cases j with
        | zero => exact eqAtN x y A s _ _ _ _ r r' ha.1 hb.1 (room_head hu)
        | succ j => exact eqAtNAll xs ys A s _ _ _ _ rs rs' ha.2 hb.2 (room_tail hu) j (Nat.lt_of_succ_lt_succ h1) (Nat.lt_of_succ_lt_succ h2)
end
theorem rcAtN {da db : PyData} {A : Around} {s : Shared} {a b : Value} {as bs : List Addr} (ra : Reads s.heap a da as) (rb : Reads s.heap b db bs) (ha : ndP da = true) (hb : ndP db = true) (hu : A.units + min da.depth db.depth < cLine) :
    RcAt A s a b (PyData.eqv da db) := by
  have hh := minl hu
  cases ra with
  | list h1 h2 h3 h4 =>
    have hl := (⟨_, h1, h2, _, h3⟩ : s.heap.IsList _ _)
    cases rb with
    | none => exact RcAt.list_none hl hh
    | bool y => exact RcAt.list_bool y hl hh
    | int y u => exact RcAt.list_int y u hl hh
    | str y u => exact RcAt.list_str y u hl hh
    | tuple k1 k2 k3 k4 => exact RcAt.list_tuple hl ⟨_, k1, k2, _, k3⟩ hh
    | dict => simp only [ndP] at hb; cases hb
    | list k1 k2 k3 k4 =>
      rename_i xs _ _ _ _ _ ys _
      have hl' := (⟨_, k1, k2, _, k3⟩ : s.heap.IsList _ _)
      have n1 := SeqAt.ReadsAll.length _ _ _ h4
      have n2 := SeqAt.ReadsAll.length _ _ _ k4
      rw [Array.length_toList] at n1 n2
      show RcAt A s _ _ (PyData.eqvAll _ _)
      by_cases hsz : xs.length = ys.length
      · rw [← eqvAll_same_length hsz, ← n1]
        refine RcAt.lists hl hl' (by omega) hh fun j j1 j2 => ?_
        have := eqAtNAll _ _ A.in1 s _ _ _ _ h4 k4 (by simpa only [ndP] using ha) (by simpa only [ndP] using hb) (room_in hu) j (by simpa using j1) (by simpa using j2)
        simpa using this
      · rw [eqvAll_other_length hsz]
        exact RcAt.lists_lengths hl hl' (by simp; omega) hh
  | tuple h1 h2 h3 h4 =>
    have hl := (⟨_, h1, h2, _, h3⟩ : s.heap.IsTuple _ _)
    cases rb with
    | none => exact RcAt.tuple_none hl hh
    | bool y => exact RcAt.tuple_bool y hl hh
    | int y u => exact RcAt.tuple_int y u hl hh
    | str y u => exact RcAt.tuple_str y u hl hh
    | list k1 k2 k3 k4 => exact RcAt.tuple_list hl ⟨_, k1, k2, _, k3⟩ hh
    | dict => simp only [ndP] at hb; cases hb
    | tuple k1 k2 k3 k4 =>
      have hl' := (⟨_, k1, k2, _, k3⟩ : s.heap.IsTuple _ _)
      have n1 := SeqAt.ReadsAll.length _ _ _ h4
      have n2 := SeqAt.ReadsAll.length _ _ _ k4
      rw [Array.length_toList] at n1 n2
      show RcAt A s _ _ (PyData.eqvAll _ _)
      rw [← eqvAll_eq, ← n1, ← n2]
      refine RcAt.tuples hl hl' hh fun j j1 j2 => ?_
      have := eqAtNAll _ _ A.in1 s _ _ _ _ h4 k4 (by simpa only [ndP] using ha) (by simpa only [ndP] using hb) (room_in hu) j (by simpa using j1) (by simpa using j2)
      simpa using this
  | none =>
    cases rb with
    | none => exact RcAt.none_none
    | bool q1 => exact RcAt.none_bool q1
    | int q1 q2 => exact RcAt.none_int q1 q2
    | str q1 q2 => exact RcAt.none_str q1 q2
    | list k1 k2 k3 k4 => exact RcAt.none_list ⟨_, k1, k2, _, k3⟩ hh
    | tuple k1 k2 k3 k4 => exact RcAt.none_tuple ⟨_, k1, k2, _, k3⟩ hh
    | dict => simp only [ndP] at hb; cases hb
  | bool x =>
    cases rb with
    | none => exact RcAt.bool_none x
    | bool q1 => exact RcAt.bool_bool x q1
    | int q1 q2 => exact RcAt.bool_int x q1 q2
    | str q1 q2 => exact RcAt.bool_str x q1 q2
    | list k1 k2 k3 k4 => exact RcAt.bool_list x ⟨_, k1, k2, _, k3⟩ hh
    | tuple k1 k2 k3 k4 => exact RcAt.bool_tuple x ⟨_, k1, k2, _, k3⟩ hh
    | dict => simp only [ndP] at hb; cases hb
  | int x t =>
    cases rb with
    | none => exact RcAt.int_none x t
    | bool q1 => exact RcAt.int_bool x t q1
    | int q1 q2 => exact RcAt.int_int x t q1 q2
    | str q1 q2 => exact RcAt.int_str x t q1 q2
    | list k1 k2 k3 k4 => exact RcAt.int_list x t ⟨_, k1, k2, _, k3⟩ hh
    | tuple k1 k2 k3 k4 => exact RcAt.int_tuple x t ⟨_, k1, k2, _, k3⟩ hh
    | dict => simp only [ndP] at hb; cases hb
  | str x t =>
    cases rb with
    | none => exact RcAt.str_none x t
    | bool q1 => exact RcAt.str_bool x t q1
    | int q1 q2 => exact RcAt.str_int x t q1 q2
    | str q1 q2 => exact RcAt.str_str x t q1 q2
    | list k1 k2 k3 k4 => exact RcAt.str_list x t ⟨_, k1, k2, _, k3⟩ hh
    | tuple k1 k2 k3 k4 => exact RcAt.str_tuple x t ⟨_, k1, k2, _, k3⟩ hh
    | dict => simp only [ndP] at hb; cases hb
  | dict => simp only [ndP] at ha; cases ha
theorem rcNeAtN {da db : PyData} {A : Around} {s : Shared} {a b : Value} {as bs : List Addr} (ra : Reads s.heap a da as) (rb : Reads s.heap b db bs) (ha : ndP da = true) (hb : ndP db = true) (hu : A.units + min da.depth db.depth < cLine) :
    RcNeAt A s a b (!PyData.eqv da db) := by
  have hh := minl hu
  cases ra with
  | list h1 h2 h3 h4 =>
    have hl := (⟨_, h1, h2, _, h3⟩ : s.heap.IsList _ _)
    cases rb with
    | none => exact RcNeAt.list_none hl hh
    | bool y => exact RcNeAt.list_bool y hl hh
    | int y u => exact RcNeAt.list_int y u hl hh
    | str y u => exact RcNeAt.list_str y u hl hh
    | tuple k1 k2 k3 k4 => exact RcNeAt.list_tuple hl ⟨_, k1, k2, _, k3⟩ hh
    | dict => simp only [ndP] at hb; cases hb
    | list k1 k2 k3 k4 =>
      rename_i xs _ _ _ _ _ ys _
      have hl' := (⟨_, k1, k2, _, k3⟩ : s.heap.IsList _ _)
      have n1 := SeqAt.ReadsAll.length _ _ _ h4
      have n2 := SeqAt.ReadsAll.length _ _ _ k4
      rw [Array.length_toList] at n1 n2
      show RcNeAt A s _ _ (!PyData.eqvAll _ _)
      by_cases hsz : xs.length = ys.length
      · rw [← eqvAll_same_length hsz, ← n1]
        refine RcNeAt.lists hl hl' (by omega) hh fun j j1 j2 => ?_
        have := eqAtNAll _ _ A.in1 s _ _ _ _ h4 k4 (by simpa only [ndP] using ha) (by simpa only [ndP] using hb) (room_in hu) j (by simpa using j1) (by simpa using j2)
        simpa using this
      · rw [eqvAll_other_length hsz]
        exact RcNeAt.lists_lengths hl hl' (by simp; omega) hh
  | tuple h1 h2 h3 h4 =>
    have hl := (⟨_, h1, h2, _, h3⟩ : s.heap.IsTuple _ _)
    cases rb with
    | none => exact RcNeAt.tuple_none hl hh
    | bool y => exact RcNeAt.tuple_bool y hl hh
    | int y u => exact RcNeAt.tuple_int y u hl hh
    | str y u => exact RcNeAt.tuple_str y u hl hh
    | list k1 k2 k3 k4 => exact RcNeAt.tuple_list hl ⟨_, k1, k2, _, k3⟩ hh
    | dict => simp only [ndP] at hb; cases hb
    | tuple k1 k2 k3 k4 =>
      have hl' := (⟨_, k1, k2, _, k3⟩ : s.heap.IsTuple _ _)
      have n1 := SeqAt.ReadsAll.length _ _ _ h4
      have n2 := SeqAt.ReadsAll.length _ _ _ k4
      rw [Array.length_toList] at n1 n2
      show RcNeAt A s _ _ (!PyData.eqvAll _ _)
      rw [← eqvAll_eq, ← n1, ← n2]
      refine RcNeAt.tuples hl hl' hh fun j j1 j2 => ?_
      have := eqAtNAll _ _ A.in1 s _ _ _ _ h4 k4 (by simpa only [ndP] using ha) (by simpa only [ndP] using hb) (room_in hu) j (by simpa using j1) (by simpa using j2)
      simpa using this
  | none =>
    cases rb with
    | none => exact RcNeAt.none_none
    | bool q1 => exact RcNeAt.none_bool q1
    | int q1 q2 => exact RcNeAt.none_int q1 q2
    | str q1 q2 => exact RcNeAt.none_str q1 q2
    | list k1 k2 k3 k4 => exact RcNeAt.none_list ⟨_, k1, k2, _, k3⟩ hh
    | tuple k1 k2 k3 k4 => exact RcNeAt.none_tuple ⟨_, k1, k2, _, k3⟩ hh
    | dict => simp only [ndP] at hb; cases hb
  | bool x =>
    cases rb with
    | none => exact RcNeAt.bool_none x
    | bool q1 => exact RcNeAt.bool_bool x q1
    | int q1 q2 => exact RcNeAt.bool_int x q1 q2
    | str q1 q2 => exact RcNeAt.bool_str x q1 q2
    | list k1 k2 k3 k4 => exact RcNeAt.bool_list x ⟨_, k1, k2, _, k3⟩ hh
    | tuple k1 k2 k3 k4 => exact RcNeAt.bool_tuple x ⟨_, k1, k2, _, k3⟩ hh
    | dict => simp only [ndP] at hb; cases hb
  | int x t =>
    cases rb with
    | none => exact RcNeAt.int_none x t
    | bool q1 => exact RcNeAt.int_bool x t q1
    | int q1 q2 => exact RcNeAt.int_int x t q1 q2
    | str q1 q2 => exact RcNeAt.int_str x t q1 q2
    | list k1 k2 k3 k4 => exact RcNeAt.int_list x t ⟨_, k1, k2, _, k3⟩ hh
    | tuple k1 k2 k3 k4 => exact RcNeAt.int_tuple x t ⟨_, k1, k2, _, k3⟩ hh
    | dict => simp only [ndP] at hb; cases hb
  | str x t =>
    cases rb with
    | none => exact RcNeAt.str_none x t
    | bool q1 => exact RcNeAt.str_bool x t q1
    | int q1 q2 => exact RcNeAt.str_int x t q1 q2
    | str q1 q2 => exact RcNeAt.str_str x t q1 q2
    | list k1 k2 k3 k4 => exact RcNeAt.str_list x t ⟨_, k1, k2, _, k3⟩ hh
    | tuple k1 k2 k3 k4 => exact RcNeAt.str_tuple x t ⟨_, k1, k2, _, k3⟩ hh
    | dict => simp only [ndP] at hb; cases hb
  | dict => simp only [ndP] at ha; cases ha
end Fw

set_option maxRecDepth 100000
set_option maxHeartbeats 4000000
namespace Fw
open PySem PySem.Spec PyProof.Rows L2

def mapO {α β : Type} (f : α → Option β) : List α → Option (List β)
  | [] => some []
  | x :: xs => match f x, mapO f xs with
    | some y, some ys => some (y :: ys)
    | _, _ => none
def toP (g : Gr) : Nat → D → Option PyData
  | _, .non => some .none
  | _, .bl b => some (.bool b)
  | _, .int i => some (.int i)
  | _, .str x => some (.str x)
  | k + 1, .lst ds => (mapO (toP g k) ds).map .list
  | k + 1, .tup ds => (mapO (toP g k) ds).map .tuple
  | k + 1, .obj l => (match g[l]? with
    | some (.lst ds) => (mapO (toP g k) ds).map .list
    | _ => none)
  | _, _ => none
theorem depthAll_le {k : Nat} : ∀ {ps : List PyData}, (∀ p ∈ ps, PyData.depth p ≤ k) → PyData.depthAll ps ≤ k
  | [], _ => by simp [PyData.depthAll]
  | p :: ps, h => by
    have h1 := h p List.mem_cons_self
    have h2 := depthAll_le (k := k) (ps := ps) fun q hq => h q (List.mem_cons_of_mem _ hq)
    simp only [PyData.depthAll]; omega
theorem ndAll_of : ∀ {ps : List PyData}, (∀ p ∈ ps, ndP p = true) → ndP.ndAll ps = true
  | [], _ => by simp only [ndP.ndAll]
  | p :: ps, h => by
    simp only [ndP.ndAll, Bool.and_eq_true]
    exact ⟨h p List.mem_cons_self, ndAll_of fun q hq => h q (List.mem_cons_of_mem _ hq)⟩
theorem toP_all {K : PySem.W.Frag} {w : Wd} {H : Hp} {k : Nat} {f : D → Option PyData} (h1 : ∀ v d p, Rep K w v d → f d = some p → Dp K H v p ∧ ndP p = true ∧ p.depth ≤ k) :
    ∀ {ds : List D} {xs : List V} {ps : List PyData}, RepL K w xs ds → mapO f ds = some ps → DpAll K H xs ps ∧ (∀ p ∈ ps, ndP p = true) ∧ ∀ p ∈ ps, p.depth ≤ k
  | [], xs, ps, r, e => by
    simp only [RepL] at r
    simp only [mapO, Option.some.injEq] at e
    subst r e
    exact ⟨.nil, by simp, by simp⟩
  | d :: ds, xs, ps, r, e => by
    simp only [RepL] at r
    obtain ⟨x, t, rfl, r1, r2⟩ := r
    simp only [mapO] at e
    split at e
    · rename_i y ys e1 e2
      cases e
      obtain ⟨a1, a2, a3⟩ := h1 x d y r1 e1
      obtain ⟨b1, b2, b3⟩ := toP_all h1 r2 e2
      exact ⟨.cons a1 b1, by simpa using ⟨a2, b2⟩, by simpa using ⟨a3, b3⟩⟩
    · cases e
theorem toP_ok {K : PySem.W.Frag} {w : Wd} {g : Gr} {H : Hp} (S0 : SG K w g H) : ∀ (k : Nat) (v : V) (d : D) (p : PyData), Rep K w v d → toP g k d = some p → Dp K H v p ∧ ndP p = true ∧ p.depth ≤ k := by
  have flat : ∀ (k : Nat) (v : V) (d : D) (p : PyData), Rep K w v d → (d = .non ∧ p = .none) ∨ (∃ b, d = .bl b ∧ p = .bool b) ∨ (∃ i, d = .int i ∧ p = .int i) ∨ (∃ x, d = .str x ∧ p = .str x) → Dp K H v p ∧ ndP p = true ∧ p.depth ≤ k := by
    intro k v d p r h
    rcases h with ⟨rfl, rfl⟩ | ⟨b, rfl, rfl⟩ | ⟨i, rfl, rfl⟩ | ⟨x, rfl, rfl⟩
    · simp only [Rep] at r; subst r; exact ⟨.non, rfl, by simp [PyData.depth]⟩
    · simp only [Rep] at r; subst r; exact ⟨.bl b, rfl, by simp [PyData.depth]⟩
    · simp only [Rep] at r; subst r; exact ⟨.int i, rfl, by simp [PyData.depth]⟩
    · simp only [Rep] at r; subst r; exact ⟨.str x, rfl, by simp [PyData.depth]⟩
  intro k
  induction k with
  | zero =>
    intro v d p r e
    cases d with
    | non => simp only [toP, Option.some.injEq] at e; exact flat 0 v _ p r (.inl ⟨rfl, e.symm⟩)
    | bl b => simp only [toP, Option.some.injEq] at e; exact flat 0 v _ p r (.inr (.inl ⟨b, rfl, e.symm⟩))
    | int i => simp only [toP, Option.some.injEq] at e; exact flat 0 v _ p r (.inr (.inr (.inl ⟨i, rfl, e.symm⟩)))
    | str x => simp only [toP, Option.some.injEq] at e; exact flat 0 v _ p r (.inr (.inr (.inr ⟨x, rfl, e.symm⟩)))
    | lst ds => simp only [toP] at e; cases e
    | tup ds => simp only [toP] at e; cases e
    | obj l => simp only [toP] at e; cases e
    | err c => simp only [toP] at e; cases e
  | succ k ih =>
    intro v d p r e
    cases d with
    | non => simp only [toP, Option.some.injEq] at e; exact flat _ v _ p r (.inl ⟨rfl, e.symm⟩)
    | bl b => simp only [toP, Option.some.injEq] at e; exact flat _ v _ p r (.inr (.inl ⟨b, rfl, e.symm⟩))
    | int i => simp only [toP, Option.some.injEq] at e; exact flat _ v _ p r (.inr (.inr (.inl ⟨i, rfl, e.symm⟩)))
    | str x => simp only [toP, Option.some.injEq] at e; exact flat _ v _ p r (.inr (.inr (.inr ⟨x, rfl, e.symm⟩)))
    | lst ds =>
      simp only [toP, Option.map_eq_some_iff] at e
      obtain ⟨ps, e1, rfl⟩ := e
      simp only [Rep] at r
      obtain ⟨a, xs, rfl, h1, h2⟩ := r
      obtain ⟨b1, b2, b3⟩ := toP_all ih h2 e1
      exact ⟨.lst (.inl (S0.ex.rd h1)) b1, by simp only [ndP]; exact ndAll_of b2, by simp only [PyData.depth]; have := depthAll_le b3; omega⟩
    | tup ds =>
      simp only [toP, Option.map_eq_some_iff] at e
      obtain ⟨ps, e1, rfl⟩ := e
      simp only [Rep] at r
      obtain ⟨a, xs, rfl, h1, h2⟩ := r
      obtain ⟨b1, b2, b3⟩ := toP_all ih h2 e1
      exact ⟨.tup (S0.ex.sqT h1) b1, by simp only [ndP]; exact ndAll_of b2, by simp only [PyData.depth]; have := depthAll_le b3; omega⟩
    | obj l =>
      simp only [toP] at e
      split at e
      · rename_i ds hl
        simp only [Option.map_eq_some_iff] at e
        obtain ⟨ps, e1, rfl⟩ := e
        simp only [Rep] at r
        obtain ⟨_, rfl⟩ := r
        obtain ⟨_, xs, h1, h2⟩ := S0.cell l _ hl
        obtain ⟨b1, b2, b3⟩ := toP_all ih h2 e1
        exact ⟨.lst (.inl (.inl h1)) b1, by simp only [ndP]; exact ndAll_of b2, by simp only [PyData.depth]; have := depthAll_le b3; omega⟩
      · cases e
    | err c => simp only [toP] at e; cases e
def opEq (d e : D) (g : Gr) : R := match toP g 8 d, toP g 8 e with
  | some a, some b => .ok (.bl (PyData.eqv a b)) g
  | _, _ => .no
def opNe (d e : D) (g : Gr) : R := match toP g 8 d, toP g 8 e with
  | some a, some b => .ok (.bl (!PyData.eqv a b)) g
  | _, _ => .no
def rEqN (K : PySem.W.Frag) : R2 := fun x y H Q => ∃ d e, Dp K H x d ∧ Dp K H y e ∧ ndP d = true ∧ ndP e = true ∧ d.depth ≤ 64 ∧ Q (.bl (PyData.eqv d e)) H
def rNeN (K : PySem.W.Frag) : R2 := fun x y H Q => ∃ d e, Dp K H x d ∧ Dp K H y e ∧ ndP d = true ∧ ndP e = true ∧ d.depth ≤ 64 ∧ Q (.bl (!PyData.eqv d e)) H
section
variable {X : Cx} {K : PySem.W.Frag}
theorem op_eqN (hu : X.A.units + 64 < cLine) : OpR X (compareOp .Eq) (rEqN X.K) := by
  intro pins s σ H x y v u Q I rx ry h
  obtain ⟨d, e, hd, he, nd, ne, dd, q⟩ := h
  obtain ⟨as, r1⟩ := Dp.reads I d x v hd rx
  obtain ⟨bs, r2⟩ := Dp.reads I e y u he ry
  exact rcAtN r1 r2 nd ne (by have : min d.depth e.depth ≤ d.depth := Nat.min_le_left _ _; omega) _ _ _ _ ⟨.bl _, H, I, rfl, q⟩
theorem op_neN (hu : X.A.units + 64 < cLine) : OpR X (compareOp .NotEq) (rNeN X.K) := by
  intro pins s σ H x y v u Q I rx ry h
  obtain ⟨d, e, hd, he, nd, ne, dd, q⟩ := h
  obtain ⟨as, r1⟩ := Dp.reads I d x v hd rx
  obtain ⟨bs, r2⟩ := Dp.reads I e y u he ry
  exact rcNeAtN r1 r2 nd ne (by have : min d.depth e.depth ≤ d.depth := Nat.min_le_left _ _; omega) _ _ _ _ ⟨.bl _, H, I, rfl, q⟩
theorem s_eq : OpS X (rEqN X.K) opEq := by
  intro w g H x y d e Q E S0 rx ry o
  unfold opEq at o
  split at o
  · rename_i a b h1 h2
    obtain ⟨a1, a2, a3⟩ := toP_ok S0 _ _ _ _ rx h1
    obtain ⟨b1, b2, b3⟩ := toP_ok S0 _ _ _ _ ry h2
    exact ⟨a, b, a1, b1, a2, b2, by omega, Out.here o S0 rep_bl'⟩
  · exact o.elim
theorem s_ne : OpS X (rNeN X.K) opNe := by
  intro w g H x y d e Q E S0 rx ry o
  unfold opNe at o
  split at o
  · rename_i a b h1 h2
    obtain ⟨a1, a2, a3⟩ := toP_ok S0 _ _ _ _ rx h1
    obtain ⟨b1, b2, b3⟩ := toP_ok S0 _ _ _ _ ry h2
    exact ⟨a, b, a1, b1, a2, b2, by omega, Out.here o S0 rep_bl'⟩
  · exact o.elim

theorem rep_int' {w : Wd} {i : Int} : Rep K w (.int i) (.int i) := by simp only [Rep]
theorem rep_str' {w : Wd} {x : Str} : Rep K w (.str x) (.str x) := by simp only [Rep]
theorem rep_non' {w : Wd} : Rep K w .non .non := by simp only [Rep]
theorem rep_int {w : Wd} {v : V} {i : Int} (h : Rep K w v (.int i)) : v = .int i := by simpa only [Rep] using h
theorem rep_str {w : Wd} {v : V} {x : Str} (h : Rep K w v (.str x)) : v = .str x := by simpa only [Rep] using h
theorem rep_blv {w : Wd} {v : V} {b : Bool} (h : Rep K w v (.bl b)) : v = .bl b := by simpa only [Rep] using h
theorem rep_non {w : Wd} {v : V} (h : Rep K w v .non) : v = .non := by simpa only [Rep] using h
def opI (f : Int → Int → D) (d e : D) (g : Gr) : R := match d, e with
  | .int i, .int j => .ok (f i j) g
  | _, _ => .no
def opIc (c : Int → Int → Prop) [∀ i j, Decidable (c i j)] (f : Int → Int → D) (d e : D) (g : Gr) : R := match d, e with
  | .int i, .int j => if c i j then .ok (f i j) g else .no
  | _, _ => .no
theorem s_I {f : Int → Int → D} {h : Int → Int → V} (hf : ∀ i j, (f i j).v = some (h i j)) : OpS X (rI0 h) (opI f) := by
  intro w g H x y d e Q E S0 rx ry o
  unfold opI at o
  split at o
  · rename_i i j
    exact ⟨i, j, rep_int rx, rep_int ry, Out.here o S0 (rep_v (hf i j))⟩
  · exact o.elim
theorem s_Ic {c : Int → Int → Prop} [∀ i j, Decidable (c i j)] {C : Int → Int → Prop} {f : Int → Int → D} {h : Int → Int → V} (hc : ∀ i j, c i j → C i j) (hf : ∀ i j, (f i j).v = some (h i j)) : OpS X (rI C h) (opIc c f) := by
  intro w g H x y d e Q E S0 rx ry o
  unfold opIc at o
  split at o
  · rename_i i j
    split at o
    · rename_i hh
      exact ⟨i, j, rep_int rx, rep_int ry, hc i j hh, Out.here o S0 (rep_v (hf i j))⟩
    · exact o.elim
  · exact o.elim
def opSub : D → D → Gr → R := opI fun i j => .int (i - j)
def opMod : D → D → Gr → R := opIc (fun _ j => j ≠ 0) fun i j => .int (i.fmod j)
def opDiv : D → D → Gr → R := opIc (fun _ j => j ≠ 0 ∧ j.natAbs < 1073741824) fun i j => .int (i.fdiv j)
def opPow : D → D → Gr → R := opIc (fun i j => 0 ≤ j ∧ j ≤ 1000000 ∧ i.natAbs < 18446744073709551616) fun i j => .int (i ^ j.toNat)
def opLt : D → D → Gr → R := opI fun i j => .bl (decide (i < j))
def opLe : D → D → Gr → R := opI fun i j => .bl (decide (i ≤ j))
def opGt : D → D → Gr → R := opI fun i j => .bl (decide (j < i))
def opGe : D → D → Gr → R := opI fun i j => .bl (decide (j ≤ i))
theorem s_sub : OpS X (rI0 fun i j => .int (i - j)) opSub := s_I fun _ _ => rfl
theorem s_mod : OpS X (rI (fun _ j => j ≠ 0) fun i j => .int (i.fmod j)) opMod := s_Ic (fun _ _ h => h) fun _ _ => rfl
theorem s_div : OpS X (rI CDivN fun i j => .int (i.fdiv j)) opDiv := s_Ic (fun _ _ h => h) fun _ _ => rfl
theorem s_pow : OpS X (rI CPow fun i j => .int (i ^ j.toNat)) opPow := s_Ic (fun _ _ h => ⟨h.1, h.2.1, by omega⟩) fun _ _ => rfl
theorem s_lt : OpS X (rI0 fun i j => .bl (decide (i < j))) opLt := s_I fun _ _ => rfl
theorem s_le : OpS X (rI0 fun i j => .bl (decide (i ≤ j))) opLe := s_I fun _ _ => rfl
theorem s_gt : OpS X (rI0 fun i j => .bl (decide (j < i))) opGt := s_I fun _ _ => rfl
theorem s_ge : OpS X (rI0 fun i j => .bl (decide (j ≤ i))) opGe := s_I fun _ _ => rfl
theorem OpS.or {r r' : R2} {m : D → D → Gr → R} (h : ∀ (w : Wd) (g : Gr) (H : Hp) (x y : V) (d e : D) (Q : VK) (E : XK), SG X.K w g H → Rep X.K w x d → Rep X.K w y e → Out X.K w (m d e g) Q E → r x y H Q ∨ r' x y H Q) : OpS X (fun x y H Q => r x y H Q ∨ r' x y H Q) m := h

theorem Rd.lstM {pins : List (Addr × Obj)} {σ : L2.St} {H : Hp} {s : Shared} {p : Addr} {xs : List V} (h : Rd H p (.lst xs)) (I : Inv X pins σ H s) :
    xs.length ≤ sizeLine ∧ ∃ (its : List Value) (n : Nat), Vals xs its ∧ xs.length = its.length ∧ s.heap.get? p = some { cls := .type "list", data := .seq its.toArray n } := by
  obtain ⟨z, its, n, r, e⟩ := h.ok I.hok
  exact ⟨z, its, n, r, r.length, e⟩
def rCatR : R2 := fun x y H Q => ∃ l b xs zs, x = .ref l ∧ y = .ref b ∧ Rd H l (.lst xs) ∧ Rd H b (.lst zs) ∧ xs.length + zs.length ≤ sizeLine ∧ ∀ p, H p = none → Q (.ref p) (upd H p (.lst (xs ++ zs)))
theorem op_catR : OpR X (binaryOp .Add) rCatR := by
  intro pins s σ H x y v u Q I rx ry h
  obtain ⟨l, b, xs, zs, rfl, rfl, hH, hB, hz, q⟩ := h
  cases rx
  cases ry
  obtain ⟨z, its, n, r, hl, e⟩ := Rd.lstM hH I
  obtain ⟨z2, its2, n2, r2, hl2, e2⟩ := Rd.lstM hB I
  refine PySem.P.add_list e e2 ?_ (by rw [List.size_toArray, List.size_toArray]; omega)
  rw [show its.toArray ++ its2.toArray = (its ++ its2).toArray by simp]
  exact ⟨.ref _, _, I.lnew (t' := s.toks) (r.append r2) (by rw [List.length_append]; omega), rfl, q _ I.fresh⟩
def opAdd (d e : D) (g : Gr) : R := match d, e with
  | .int i, .int j => .ok (.int (i + j)) g
  | .str x, .str y => if x.length + y.length ≤ sizeLine then .ok (.str (x ++ y)) g else .no
  | .tup a, .tup b => if a ≠ [] ∧ a.length + b.length ≤ sizeLine then .ok (.tup (a ++ b)) g else .no
  | d, e => (match viewL g d, viewL g e with
    | some a, some b => if a.length + b.length ≤ sizeLine then .ok (.lst (a ++ b)) g else .no
    | _, _ => .no)
def rAddAll (K : PySem.W.Frag) : R2 := fun x y H Q => (rI0 (fun i j => .int (i + j)) x y H Q ∨ (∃ i j, x = .str i ∧ y = .str j ∧ i.length + j.length ≤ sizeLine ∧ Q (.str (i ++ j)) H)) ∨ (rCatT K x y H Q ∨ rCatR x y H Q)
theorem op_addAll : OpR X (binaryOp .Add) (rAddAll X.K) := (op_add.or op_add_str).or (op_catT.or op_catR)
theorem s_add : OpS X (rAddAll X.K) opAdd := by
  intro w g H x y d e Q E S0 rx ry o
  unfold opAdd at o
  split at o
  · exact .inl (.inl ⟨_, _, rep_int rx, rep_int ry, Out.here o S0 rep_int'⟩)
  · split at o
    · rename_i hz
      exact .inl (.inr ⟨_, _, rep_str rx, rep_str ry, hz, Out.here o S0 rep_str'⟩)
    · exact o.elim
  · rename_i a b
    split at o
    · rename_i hz
      simp only [Rep] at rx ry
      obtain ⟨p, xs, rfl, h1, h2⟩ := rx
      obtain ⟨q, ys, rfl, h3, h4⟩ := ry
      have n1 := h2.length
      have n2 := h4.length
      have l1 : 0 < a.length := List.length_pos_iff.mpr hz.1
      refine .inr (.inl ⟨p, q, xs, ys, rfl, rfl, S0.ex.sqT h1, S0.ex.sqT h3, List.length_pos_iff.mp (by omega), by omega, fun e => ?_, fun _ => Out.newT o S0 (RepL.app h4 h2)⟩)
      have eb : b = [] := by
        cases b with
        | nil => rfl
        | cons _ _ => rw [e] at n2; cases n2
      subst eb
      rw [List.append_nil] at o
      exact Out.here o S0 (by simp only [Rep]; exact ⟨p, xs, rfl, h1, h2⟩)
    · exact o.elim
  · split at o
    · rename_i a b h1 h2
      split at o
      · obtain ⟨p, xs, rfl, h3, h4⟩ := viewL_ok S0 rx h1
        obtain ⟨q, ys, rfl, h5, h6⟩ := viewL_ok S0 ry h2
        exact .inr (.inr ⟨p, q, xs, ys, rfl, rfl, h3, h5, by rw [h4.length, h6.length]; assumption, Out.newL o S0 (RepL.app h6 h4)⟩)
      · exact o.elim
    · exact o.elim
end
end Fw

set_option maxRecDepth 100000
set_option maxHeartbeats 4000000
namespace Fw
open PySem PySem.Spec PyProof.Rows L2
section
variable {X : Cx} {K : PySem.W.Frag}
def opMul (d e : D) (g : Gr) : R := match d, e with
  | .int i, .int j => if (-18446744073709551616 < i ∧ i < 18446744073709551616) ∨ (-18446744073709551616 < j ∧ j < 18446744073709551616) then .ok (.int (i * j)) g else .no
  | d, .int k => (match viewL g d with
    | some a => if -9223372036854775808 ≤ k ∧ k < 9223372036854775808 ∧ a.length * k.toNat ≤ sizeLine then .ok (.lst (List.replicate k.toNat a).flatten) g else .no
    | none => .no)
  | _, _ => .no
def rRepR : R2 := fun x y H Q => ∃ l k xs, x = .ref l ∧ y = .int k ∧ Rd H l (.lst xs) ∧ -(2 ^ 63) ≤ k ∧ k < 2 ^ 63 ∧ xs.length * k.toNat ≤ sizeLine ∧ ∀ p, H p = none → Q (.ref p) (upd H p (.lst (List.replicate k.toNat xs).flatten))
def isNon : D → Bool
  | .non => true
  | _ => false
def opIsN (d e : D) (g : Gr) : R := if isNon e = true then .ok (.bl (isNon d)) g else .no
def opNotN (d e : D) (g : Gr) : R := if isNon e = true then .ok (.bl (!isNon d)) g else .no
theorem rep_isNon {w : Wd} {v : V} {d : D} (r : Rep K w v d) : decide (v = .non) = isNon d := by
  cases d <;> simp only [Rep] at r <;> simp only [isNon]
  · simp [r]
  · simp [r]
  · simp [r]
  · simp [r]
  · obtain ⟨a, xs, rfl, _⟩ := r; simp
  · obtain ⟨a, xs, rfl, _⟩ := r; simp
  · obtain ⟨_, rfl⟩ := r; simp
  · simp [r]
theorem isNon_eq {e : D} (h : isNon e = true) : e = .non := by
  cases e with
  | non => rfl
  | _ => cases h
theorem s_isN : OpS X (fun x y H Q => y = .non ∧ Q (.bl (decide (x = .non))) H) opIsN := by
  intro w g H x y d e Q E S0 rx ry o
  unfold opIsN at o
  split at o
  · rename_i h
    rw [isNon_eq h] at ry
    refine ⟨rep_non ry, ?_⟩
    rw [rep_isNon rx]
    exact Out.here o S0 rep_bl'
  · exact o.elim
theorem s_notN : OpS X (fun x y H Q => y = .non ∧ Q (.bl (!decide (x = .non))) H) opNotN := by
  intro w g H x y d e Q E S0 rx ry o
  unfold opNotN at o
  split at o
  · rename_i h
    rw [isNon_eq h] at ry
    refine ⟨rep_non ry, ?_⟩
    rw [rep_isNon rx]
    exact Out.here o S0 rep_bl'
  · exact o.elim
def D.fl : D → Bool
  | .non => true
  | .bl _ => true
  | .int _ => true
  | .str _ => true
  | _ => false
def feq : D → D → Bool
  | .non, .non => true
  | .bl a, .bl b => a == b
  | .bl a, .int b => (if a then 1 else 0) == b
  | .int a, .bl b => a == (if b then 1 else 0)
  | .int a, .int b => a == b
  | .str a, .str b => a == b
  | _, _ => false
def inD (x : D) (xs : List D) : Bool := xs.any fun y => feq y x
theorem fl_v {w : Wd} {v : V} {d : D} (r : Rep K w v d) (h : d.fl = true) : flatV v = true := by
  cases d <;> simp only [Rep] at r <;> first | (subst r; rfl) | (cases h)
theorem fl_all {w : Wd} : ∀ {ds : List D} {vs : List V}, RepL K w vs ds → ds.all D.fl = true → vs.all flatV = true
  | [], vs, r, _ => by simp only [RepL] at r; subst r; rfl
  | d :: ds, vs, r, h => by
    simp only [RepL] at r
    obtain ⟨x, t, rfl, r1, r2⟩ := r
    simp only [List.all_cons, Bool.and_eq_true] at h ⊢
    exact ⟨fl_v r1 h.1, fl_all r2 h.2⟩
theorem feq_v {w : Wd} {u v : V} {d e : D} (r : Rep K w u d) (q : Rep K w v e) (h : d.fl = true) (h' : e.fl = true) : eqV u v = feq d e := by
  cases d <;> simp only [Rep] at r <;> first | (cases h; done) | (cases e <;> simp only [Rep] at q <;> first | (cases h'; done) | (subst r q; rfl))
theorem inD_v {w : Wd} {v : V} {d : D} (q : Rep K w v d) (h' : d.fl = true) : ∀ {ds : List D} {vs : List V}, RepL K w vs ds → ds.all D.fl = true → inV v vs = inD d ds
  | [], vs, r, _ => by simp only [RepL] at r; subst r; rfl
  | e :: ds, vs, r, h => by
    simp only [RepL] at r
    obtain ⟨x, t, rfl, r1, r2⟩ := r
    simp only [List.all_cons, Bool.and_eq_true] at h
    have ih := inD_v q h' r2 h.2
    unfold inV inD at ih ⊢
    rw [List.any_cons, List.any_cons, ih, feq_v r1 q h.1 h']
def viewA (g : Gr) (d : D) : Option (List D) := match viewT d with
  | some a => some a
  | none => viewL g d
theorem viewA_ok {w : Wd} {g : Gr} {H : Hp} {v : V} {d : D} {ds : List D} (S0 : SG K w g H) (r : Rep K w v d) (e : viewA g d = some ds) : ∃ a xs, v = .ref a ∧ (SqL K H a xs ∨ SqT K H a xs) ∧ RepL K w xs ds := by
  unfold viewA at e
  split at e
  · rename_i a h
    cases e
    obtain ⟨p, xs, h1, h2, h3⟩ := viewT_ok S0 r h
    exact ⟨p, xs, h1, .inr h2, h3⟩
  · obtain ⟨p, xs, h1, h2, h3⟩ := viewL_ok S0 r e
    exact ⟨p, xs, h1, .inl (.inl h2), h3⟩
def opInB (neg : Bool) (d e : D) (g : Gr) : R := match d, e with
  | .str x, .str y => (match x.cps.toList with
    | [c] => .ok (.bl (if neg then !decide (c ∈ y.cps.toList) else decide (c ∈ y.cps.toList))) g
    | _ => .no)
  | d, e => (match viewA g e with
    | some ds => if d.fl = true ∧ ds.all D.fl = true then .ok (.bl (if neg then !inD d ds else inD d ds)) g else .no
    | none => .no)
def opIn := opInB false
def opNotIn := opInB true
theorem s_inB (neg : Bool) : OpS X (fun x y H Q => rIn X.K neg x y H Q ∨ (∃ (c : Nat) (z : Str), x = .str ⟨#[c]⟩ ∧ y = .str z ∧ Q (.bl (if neg then !decide (c ∈ z.cps.toList) else decide (c ∈ z.cps.toList))) H)) (opInB neg) := by
  intro w g H x y d e Q E S0 rx ry o
  unfold opInB at o
  split at o
  · rename_i a b
    split at o
    · rename_i c h
      have ea : a = ⟨#[c]⟩ := by
        cases a with
        | mk cps =>
          have : cps = [c].toArray := by rw [← h]
          rw [this]
      subst ea
      exact .inr ⟨c, b, rep_str rx, rep_str ry, Out.here o S0 rep_bl'⟩
    · exact o.elim
  · split at o
    · rename_i ds h
      split at o
      · rename_i hf
        obtain ⟨p, xs, rfl, h1, h2⟩ := viewA_ok S0 ry h
        refine .inl ⟨p, xs, rfl, h1, fl_v rx hf.1, fl_all h2 hf.2, ?_⟩
        rw [inD_v rx hf.1 h2 hf.2]
        exact Out.here o S0 rep_bl'
      · exact o.elim
    · exact o.elim
theorem op_inA : OpR X (compareOp .In) (fun x y H Q => rIn X.K false x y H Q ∨ (∃ (c : Nat) (z : Str), x = .str ⟨#[c]⟩ ∧ y = .str z ∧ Q (.bl (if false then !decide (c ∈ z.cps.toList) else decide (c ∈ z.cps.toList))) H)) := op_in_seq.or op_in_sign
theorem op_notInA : OpR X (compareOp .NotIn) (fun x y H Q => rIn X.K true x y H Q ∨ (∃ (c : Nat) (z : Str), x = .str ⟨#[c]⟩ ∧ y = .str z ∧ Q (.bl (if true then !decide (c ∈ z.cps.toList) else decide (c ∈ z.cps.toList))) H)) := op_notIn_seq.or op_notIn_sign

def opIx (d e : D) (g : Gr) : R := match e with
  | .int i => (match d with
    | .str z => if z.length ≤ sizeLine then (match atI z.cps.toList i with
      | some c => .ok (.str ⟨#[c]⟩) g
      | none => .no) else .no
    | d => (match viewA g d with
      | some ds => (match atI ds i with
        | some x => .ok x g
        | none => .no)
      | none => .no))
  | _ => .no
theorem repl_at {w : Wd} {ds : List D} {xs : List V} {i : Int} {d : D} (r : RepL K w xs ds) (h : atI ds i = some d) : ∃ v, atI xs i = some v ∧ Rep K w v d := by
  unfold atI at h ⊢
  rw [r.length]
  cases e : ixN ds.length i with
  | none => rw [e] at h; cases h
  | some j =>
    rw [e] at h
    exact r.get h
theorem s_ix : OpS X (rIx X.K) opIx := by
  intro w g H x y d e Q E S0 rx ry o
  unfold opIx at o
  split at o
  · rename_i i
    have ey := rep_int ry
    subst ey
    split at o
    · rename_i z
      split at o
      · rename_i hz
        split at o
        · rename_i c hc
          exact .inr (.inr ⟨z, i, c, rep_str rx, rfl, hz, hc, Out.here o S0 rep_str'⟩)
        · exact o.elim
      · exact o.elim
    · split at o
      · rename_i ds h
        split at o
        · rename_i a ha
          obtain ⟨p, xs, rfl, h1, h2⟩ := viewA_ok S0 rx h
          obtain ⟨v, h3, h4⟩ := repl_at h2 ha
          rcases h1 with h1 | h1
          · exact .inl ⟨p, xs, i, v, rfl, rfl, h1, h3, Out.here o S0 h4⟩
          · exact .inr (.inl ⟨p, xs, i, v, rfl, rfl, h1, h3, Out.here o S0 h4⟩)
        · exact o.elim
      · exact o.elim
  · exact o.elim
theorem xIx {W : WX} {a b : Expr} {ma mb : Exp} {pos : Pos} (ha : RE X W a ma) (hb : RE X W b mb) (hs : PlainIx b := by exact fun _ _ => rfl) : RE X W (.Subscript a b pos) (eBin opIx ma mb) :=
  pe_weak (pe_ix ix_seq ha hb hs) fun _ _ _ h => read_bin s_ix h
def cutD (xs : List D) (lo hi : Option Int) : List D := (xs.drop (HT.sIx xs.length 0 lo)).take (HT.sIx xs.length xs.length hi - HT.sIx xs.length 0 lo)
def cutOp (lo hi : Option Int) (d : D) (g : Gr) : R := match d with
  | .str z => if z.length ≤ sizeLine then .ok (.str (cutS z lo hi)) g else .no
  | d => (match viewL g d with
    | some ds => .ok (.lst (cutD ds lo hi)) g
    | none => .no)
def asI (d : D) (f : Int → R) : R := match d with
  | .int i => f i
  | _ => .no
def eSlLU (mo ml mh : Exp) : Exp := fun ρ g => (mo ρ g).bind fun d g1 => (ml ρ g1).bind fun l g2 => asI l fun i => (mh ρ g2).bind fun h g3 => asI h fun j => cutOp (some i) (some j) d g3
def eSlL (mo ml : Exp) : Exp := fun ρ g => (mo ρ g).bind fun d g1 => (ml ρ g1).bind fun l g2 => asI l fun i => cutOp (some i) none d g2
def eSlU (mo mh : Exp) : Exp := fun ρ g => (mo ρ g).bind fun d g1 => (mh ρ g1).bind fun h g2 => asI h fun j => cutOp none (some j) d g2
theorem repl_cut {w : Wd} {ds : List D} {xs : List V} (lo hi : Option Int) (r : RepL K w xs ds) : RepL K w (cutV xs lo hi) (cutD ds lo hi) := by
  unfold cutV cutD
  rw [r.length]
  exact RepL.take _ (RepL.drop _ r)
def rCut (K : PySem.W.Frag) : V → Option Int → Option Int → Hp → VK → Prop := fun x lo hi H Q => rSlS x lo hi H Q ∨ rSlL K x lo hi H Q
theorem sl_cut : SlR X (rCut X.K) := sl_str.or sl_list
theorem s_cut {w : Wd} {g : Gr} {H : Hp} {x : V} {d : D} {lo hi : Option Int} {Q : VK} {E : XK} (S0 : SG K w g H) (rx : Rep K w x d) (o : Out K w (cutOp lo hi d g) Q E) : rCut K x lo hi H Q := by
  unfold cutOp at o
  split at o
  · split at o
    · exact .inl ⟨_, rep_str rx, by assumption, Out.here o S0 rep_str'⟩
    · exact o.elim
  · split at o
    · rename_i ds h
      obtain ⟨p, xs, rfl, h1, h2⟩ := viewL_ok S0 rx h
      exact .inr ⟨p, xs, rfl, .inl h1, Out.newL o S0 (repl_cut lo hi h2)⟩
    · exact o.elim
theorem bindI {W : WX} {σ : L2.St} {H : Hp} {w : Wd} {ρ : En} {g : Gr} {m : Exp} {f : Int → Gr → R} {Q : VK} {Q1 : Option Int → Hp → Prop} (S0 : SG K w g H) (L : SL K w ρ σ) (o : Out K w ((m ρ g).bind fun d g1 => asI d fun i => f i g1) Q fun c d H' => W c d σ H')
    (k : ∀ i g' H' w', w.Le w' → SG K w' g' H' → SL K w' ρ σ → Out K w' (f i g') Q (fun c d H' => W c d σ H') → Q1 (some i) H') : tPart (tM K W m) σ H Q1 := by
  refine bindM S0 L o fun d g' v H' w' le S' L' r o' => ?_
  cases d with
  | int i => exact ⟨i, rep_int r, k i g' H' w' le S' L' o'⟩
  | _ => exact o'.elim
section
variable {W : WX} {e a b : Expr} {mo ml mh : Exp} {p2 pos : Pos}
theorem xSlLU (ho : RE X W e mo) (ha : RE X W a ml) (hb : RE X W b mh) : RE X W (.Subscript e (.Slice (some a) (some b) none p2) pos) (eSlLU mo ml mh) := by
  refine pe_weak (pe_slice sl_cut ho (po_some ha) (po_some hb)) ?_
  rintro σ H Q ⟨w, ρ, g, S0, L, o⟩
  refine bindM S0 L o fun d g1 x H1 w1 le1 S1 L1 rx o1 => ?_
  refine bindI S1 L1 o1 fun i g2 H2 w2 le2 S2 L2' o2 => ?_
  refine bindI S2 L2' o2 fun j g3 H3 w3 le3 S3 L3 o3 => ?_
  exact s_cut S3 (rx.mono (le2.trans le3)) o3
theorem xSlL (ho : RE X W e mo) (ha : RE X W a ml) : RE X W (.Subscript e (.Slice (some a) none none p2) pos) (eSlL mo ml) := by
  refine pe_weak (pe_slice sl_cut ho (po_some ha) po_none) ?_
  rintro σ H Q ⟨w, ρ, g, S0, L, o⟩
  refine bindM S0 L o fun d g1 x H1 w1 le1 S1 L1 rx o1 => ?_
  refine bindI S1 L1 o1 fun i g2 H2 w2 le2 S2 L2' o2 => ?_
  exact s_cut S2 (rx.mono le2) o2
theorem xSlU (ho : RE X W e mo) (hb : RE X W b mh) : RE X W (.Subscript e (.Slice none (some b) none p2) pos) (eSlU mo mh) := by
  refine pe_weak (pe_slice sl_cut ho po_none (po_some hb)) ?_
  rintro σ H Q ⟨w, ρ, g, S0, L, o⟩
  refine bindM S0 L o fun d g1 x H1 w1 le1 S1 L1 rx o1 => ?_
  show tPart (tM X.K W mh) σ H1 fun u H3 => rCut X.K x none u H3 Q
  refine bindI S1 L1 o1 fun j g2 H2 w2 le2 S2 L2' o2 => ?_
  exact s_cut S2 (rx.mono le2) o2
end

def uNeg (d : D) (g : Gr) : R := match d with
  | .int i => .ok (.int (-i)) g
  | _ => .no
def fLen : Fn := fun ds g => match ds with
  | [.str z] => if z.length ≤ sizeLine then .ok (.int z.length) g else .no
  | [d] => (match viewA g d with
    | some es => .ok (.int es.length) g
    | none => .no)
  | _ => .no
theorem repl1 {w : Wd} {vs : List V} {d : D} (r : RepL K w vs [d]) : ∃ v, vs = [v] ∧ Rep K w v d := by
  simp only [RepL] at r
  obtain ⟨x, t, rfl, h, rfl⟩ := r
  exact ⟨x, rfl, h⟩
theorem repl2 {w : Wd} {vs : List V} {d e : D} (r : RepL K w vs [d, e]) : ∃ v u, vs = [v, u] ∧ Rep K w v d ∧ Rep K w u e := by
  simp only [RepL] at r
  obtain ⟨x, t, rfl, h, y, u, rfl, h2, rfl⟩ := r
  exact ⟨x, y, rfl, h, h2⟩
theorem c_len : CaS K (fun xs H Q => ∃ x n, xs = [x] ∧ LenV K x H n ∧ Q (.int n) H) fLen := by
  intro w g H vs ds Q E S0 r o
  unfold fLen at o
  split at o
  · rename_i z
    split at o
    · obtain ⟨v, rfl, h⟩ := repl1 r
      have e := rep_str h
      subst e
      exact ⟨_, z.length, rfl, ⟨by assumption, rfl⟩, Out.here o S0 rep_int'⟩
    · exact o.elim
  · rename_i d _
    split at o
    · rename_i es h
      obtain ⟨v, rfl, h1⟩ := repl1 r
      obtain ⟨p, xs, rfl, h2, h3⟩ := viewA_ok S0 h1 h
      refine ⟨_, es.length, rfl, ?_, Out.here o S0 rep_int'⟩
      rcases h2 with h2 | h2
      · exact .inl ⟨xs, h2, h3.length.symm⟩
      · exact .inr ⟨xs, h2, h3.length.symm⟩
    · exact o.elim
  · exact o.elim
def fOrd : Fn := fun ds g => match ds with
  | [.str z] => (match z.cps.toList with
    | [c] => .ok (.int c) g
    | _ => .no)
  | _ => .no
def fStr : Fn := fun ds g => match ds with
  | [.int i] => if i.natAbs.log2 < 1920 then .ok (.str (toString i : String)) g else .no
  | [.str z] => .ok (.str z) g
  | _ => .no
def rStrA : List V → Hp → VK → Prop := fun xs H Q => (∃ i, xs = [.int i] ∧ i.natAbs.log2 < 1920 ∧ Q (.str (toString i : String)) H) ∨ ∃ a, xs = [.str a] ∧ Q (.str a) H
theorem call_strA : CallR X (.type "str") rStrA := by
  intro pins s σ H xs us Q I r h
  rcases h with h | h
  · exact call_str_int pins s σ H xs us Q I r h
  · exact SkE.call_str_str pins s σ H xs us Q I r h
theorem c_str : CaS K rStrA fStr := by
  intro w g H vs ds Q E S0 r o
  unfold fStr at o
  split at o
  · split at o
    · obtain ⟨v, rfl, h⟩ := repl1 r
      exact .inl ⟨_, by rw [rep_int h], by assumption, Out.here o S0 rep_str'⟩
    · exact o.elim
  · obtain ⟨v, rfl, h⟩ := repl1 r
    exact .inr ⟨_, by rw [rep_str h], Out.here o S0 rep_str'⟩
  · exact o.elim
def fInt : Fn := fun ds g => match ds with
  | [.int i] => .ok (.int i) g
  | [.bl b] => .ok (.int (if b then 1 else 0)) g
  | [.str z] => (match PySem.intText? z with
    | some n => if z.length ≤ 640 then .ok (.int n) g else .no
    | none => .no)
  | _ => .no
theorem call_intA : CallR X (.type "int") (fun xs H Q => ((∃ i, xs = [.int i] ∧ Q (.int i) H) ∨ ∃ k, xs = [.bl k] ∧ Q (.int (if k then 1 else 0)) H) ∨ (∃ a n, xs = [.str a] ∧ PySem.intText? a = some n ∧ a.length ≤ 640 ∧ Q (.int n) H)) := by
  intro pins s σ H xs us Q I r h
  rcases h with h | h
  · exact call_int1 pins s σ H xs us Q I r h
  · exact call_int_str pins s σ H xs us Q I r h
theorem c_int : CaS K (fun xs H Q => ((∃ i, xs = [.int i] ∧ Q (.int i) H) ∨ ∃ k, xs = [.bl k] ∧ Q (.int (if k then 1 else 0)) H) ∨ (∃ a n, xs = [.str a] ∧ PySem.intText? a = some n ∧ a.length ≤ 640 ∧ Q (.int n) H)) fInt := by
  intro w g H vs ds Q E S0 r o
  unfold fInt at o
  split at o
  · obtain ⟨v, rfl, h⟩ := repl1 r
    exact .inl (.inl ⟨_, by rw [rep_int h], Out.here o S0 rep_int'⟩)
  · obtain ⟨v, rfl, h⟩ := repl1 r
    exact .inl (.inr ⟨_, by rw [rep_blv h], Out.here o S0 rep_int'⟩)
  · split at o
    · rename_i n hn
      split at o
      · obtain ⟨v, rfl, h⟩ := repl1 r
        exact .inr ⟨_, n, by rw [rep_str h], hn, by assumption, Out.here o S0 rep_int'⟩
      · exact o.elim
    · exact o.elim
  · exact o.elim
def fMax2 : Fn := fun ds g => match ds with
  | [.int i, .int j] => .ok (.int (if j > i then j else i)) g
  | _ => .no
def fMin2 : Fn := fun ds g => match ds with
  | [.int i, .int j] => .ok (.int (if j < i then j else i)) g
  | _ => .no
theorem c_max2 : CaS K (fun xs H Q => ∃ i j, xs = [.int i, .int j] ∧ Q (.int (if j > i then j else i)) H) fMax2 := by
  intro w g H vs ds Q E S0 r o
  unfold fMax2 at o
  split at o
  · obtain ⟨v, u, rfl, h1, h2⟩ := repl2 r
    exact ⟨_, _, by rw [rep_int h1, rep_int h2], Out.here o S0 rep_int'⟩
  · exact o.elim
theorem c_min2 : CaS K (fun xs H Q => ∃ i j, xs = [.int i, .int j] ∧ Q (.int (if j < i then j else i)) H) fMin2 := by
  intro w g H vs ds Q E S0 r o
  unfold fMin2 at o
  split at o
  · obtain ⟨v, u, rfl, h1, h2⟩ := repl2 r
    exact ⟨_, _, by rw [rep_int h1, rep_int h2], Out.here o S0 rep_int'⟩
  · exact o.elim
def bools : List D → Option (List Bool)
  | [] => some []
  | .bl b :: ds => (bools ds).map (b :: ·)
  | _ => none
theorem bools_ok {w : Wd} : ∀ {ds : List D} {xs : List V} {bs : List Bool}, RepL K w xs ds → bools ds = some bs → xs = bs.map V.bl
  | [], xs, bs, r, e => by
    simp only [bools, Option.some.injEq] at e
    simp only [RepL] at r
    subst r e; rfl
  | d :: ds, xs, bs, r, e => by
    simp only [RepL] at r
    obtain ⟨x, t, rfl, r1, r2⟩ := r
    cases d with
    | bl b =>
      simp only [bools, Option.map_eq_some_iff] at e
      obtain ⟨cs, e1, rfl⟩ := e
      rw [rep_blv r1, bools_ok r2 e1]; rfl
    | _ => simp only [bools] at e; cases e
def fAll : Fn := fun ds g => match ds with
  | [d] => (match viewL g d with
    | some es => (match bools es with
      | some bs => .ok (.bl (bs.all id)) g
      | none => .no)
    | none => .no)
  | _ => .no
theorem c_all : CaS K (rAll K) fAll := by
  intro w g H vs ds Q E S0 r o
  unfold fAll at o
  split at o
  · split at o
    · rename_i es h
      split at o
      · rename_i bs hb
        obtain ⟨v, rfl, h1⟩ := repl1 r
        obtain ⟨p, xs, rfl, h2, h3⟩ := viewL_ok S0 h1 h
        have e := bools_ok h3 hb
        subst e
        exact ⟨p, bs, rfl, .inl h2, Out.here o S0 rep_bl'⟩
      · exact o.elim
    · exact o.elim
  · exact o.elim
end
end Fw

set_option maxRecDepth 100000
set_option maxHeartbeats 4000000
namespace Fw
open PySem PySem.Spec PyProof.Rows L2

def kpT : Gr → Prop := fun _ => True
def kpL (d : D) (ds : List D) : Gr → Prop := fun g => viewL g d = some ds
section
variable {K : PySem.W.Frag} {w : Wd}
theorem ltR {ds : List D} {xs : List V} {i : Nat} (r : RepL K w xs ds) (h : i < ds.length) : ∃ v, xs[i]? = some v := by
  have : i < xs.length := by rw [r.length]; exact h
  exact ⟨xs[i], by simp [this]⟩
theorem fol_list {v : V} {d : D} {ds : List D} {g : Gr} {H : Hp} {a : Addr} (S0 : SG K w g H) (r : Rep K w v d) (e : viewL g d = some ds) (ha : v = .ref a) : Fol K (Itl K a) ds (kpL d ds) w where
  stop := fun i H' w' g' le S' k hi => by
    obtain ⟨p, xs, e1, h1, h2⟩ := viewL_ok S' (r.mono le) k
    rw [ha] at e1; cases e1
    exact ⟨xs, .inl h1, by rw [h2.length]; exact hi⟩
  go := fun i H' w' g' le S' k hi => by
    obtain ⟨p, xs, e1, h1, h2⟩ := viewL_ok S' (r.mono le) k
    rw [ha] at e1; cases e1
    obtain ⟨x, hx⟩ := ltR h2 hi
    exact ⟨xs, x, .inl h1, hx⟩
  yld := fun i H' x H2 w' g' e1 le S' k hi y => by
    obtain ⟨p, xs, e2, h1, h2⟩ := viewL_ok S' (r.mono le) k
    rw [ha] at e2; cases e2
    obtain ⟨rfl, y⟩ := y
    obtain ⟨u, hu, ru⟩ := h2.get hi
    have := y xs (.inl h1)
    rw [hu] at this; cases this
    exact ⟨w', Wd.Le.refl _, S', ru⟩
theorem fol_tup {v : V} {d : D} {ds : List D} {g : Gr} {H : Hp} {a : Addr} (S0 : SG K w g H) (r : Rep K w v d) (e : viewT d = some ds) (ha : v = .ref a) : Fol K (Itt K a) ds kpT w where
  stop := fun i H' w' g' le S' k hi => by
    obtain ⟨p, xs, e1, h1, h2⟩ := viewT_ok S' (r.mono le) e
    rw [ha] at e1; cases e1
    exact ⟨xs, h1, by rw [h2.length]; exact hi⟩
  go := fun i H' w' g' le S' k hi => by
    obtain ⟨p, xs, e1, h1, h2⟩ := viewT_ok S' (r.mono le) e
    rw [ha] at e1; cases e1
    obtain ⟨x, hx⟩ := ltR h2 hi
    exact ⟨xs, x, h1, hx⟩
  yld := fun i H' x H2 w' g' e1 le S' k hi y => by
    obtain ⟨p, xs, e2, h1, h2⟩ := viewT_ok S' (r.mono le) e
    rw [ha] at e2; cases e2
    obtain ⟨rfl, y⟩ := y
    obtain ⟨u, hu, ru⟩ := h2.get hi
    have := y xs h1
    rw [hu] at this; cases this
    exact ⟨w', Wd.Le.refl _, S', ru⟩
def rangeD (lo : Int) (n : Nat) : List D := (List.range n).map fun i => .int (lo + (i : Nat))
theorem rangeD_len (lo : Int) (n : Nat) : (rangeD lo n).length = n := by simp [rangeD]
theorem fol_rng (lo : Int) (n : Nat) : Fol K (Itr lo n) (rangeD lo n) kpT w where
  stop := fun i H' w' g' le S' k hi => by
    rw [rangeD_len] at hi
    exact hi
  go := fun i H' w' g' le S' k hi => by
    rw [rangeD_len] at hi
    exact hi
  yld := fun i H' x H2 w' g' e1 le S' k hi y => by
    obtain ⟨rfl, rfl⟩ := y
    unfold rangeD at hi
    rw [List.getElem?_map] at hi
    cases q : (List.range n)[i]? with
    | none => rw [q] at hi; cases hi
    | some j =>
      rw [q] at hi
      have hj : j = i := by
        have := List.getElem?_eq_some_iff.mp q
        simpa using this.2.symm
      subst hj
      have e2 : e1 = .int (lo + (j : Nat)) := by simpa using hi.symm
      subst e2
      exact ⟨w', Wd.Le.refl _, S', rep_int'⟩
end

def srcOf (m : Exp) (f : D → Gr → Option (List D × (Gr → Prop))) : Src := fun ρ g => match m ρ g with
  | .ok d g1 => (match f d g1 with
    | some (ds, kp) => .ok ds kp g1
    | none => .no)
  | .err c g1 => .err c g1
  | .no => .no
def srcA (ms : Exps) (f : List D → Gr → Option (List D × (Gr → Prop))) : Src := fun ρ g => match ms ρ g with
  | .ok d g1 => (match f d g1 with
    | some (ds, kp) => .ok ds kp g1
    | none => .no)
  | .err c g1 => .err c g1
  | .no => .no
section
variable {K : PySem.W.Frag} {W : WX} {σ : L2.St} {H : Hp} {w : Wd} {ρ : En} {g : Gr} {m : Exp} {ms : Exps}
theorem bindSrc {f : D → Gr → Option (List D × (Gr → Prop))} {R : It → Hp → Prop} {Q1 : VK} (S0 : SG K w g H) (L : SL K w ρ σ) (o : OutI K w (srcOf m f ρ g) R fun c d H' => W c d σ H')
    (k : ∀ d g' v H' w' ds kp, w.Le w' → SG K w' g' H' → Rep K w' v d → f d g' = some (ds, kp) → (∀ J, Fol K J ds kp w' → R J H') → Q1 v H') : tM K W m σ H Q1 := by
  refine ⟨w, ρ, g, S0, L, ?_⟩
  unfold srcOf at o
  cases e : m ρ g with
  | no => simp only [e] at o; exact o
  | err c g' => simp only [e] at o; exact o
  | ok d g' =>
    simp only [e] at o
    intro v H' w' le S' r
    cases e2 : f d g' with
    | none => simp only [e2] at o; exact o.elim
    | some p =>
      obtain ⟨ds, kp⟩ := p
      simp only [e2] at o
      exact k d g' v H' w' ds kp le S' r e2 fun J F => o J H' w' le S' F
theorem bindSrcA {f : List D → Gr → Option (List D × (Gr → Prop))} {R : It → Hp → Prop} {Q1 : List V → Hp → Prop} (S0 : SG K w g H) (L : SL K w ρ σ) (o : OutI K w (srcA ms f ρ g) R fun c d H' => W c d σ H')
    (k : ∀ es g' vs H' w' ds kp, w.Le w' → SG K w' g' H' → RepL K w' vs es → f es g' = some (ds, kp) → (∀ J, Fol K J ds kp w' → R J H') → Q1 vs H') : tMA K W ms σ H Q1 := by
  refine ⟨w, ρ, g, S0, L, ?_⟩
  unfold srcA at o
  cases e : ms ρ g with
  | no => simp only [e] at o; exact o
  | err c g' => simp only [e] at o; exact o
  | ok d g' =>
    simp only [e] at o
    intro v H' w' le S' r
    cases e2 : f d g' with
    | none => simp only [e2] at o; exact o.elim
    | some p =>
      obtain ⟨ds, kp⟩ := p
      simp only [e2] at o
      exact k d g' v H' w' ds kp le S' r e2 fun J F => o J H' w' le S' F
end
def rngOk (i : Int) : Bool := decide (-4611686018427387904 ≤ i) && decide (i < 4611686018427387904)
def iR1 (ds : List D) (_ : Gr) : Option (List D × (Gr → Prop)) := match ds with
  | [.int j] => if rngOk j then some (rangeD 0 j.toNat, kpT) else none
  | _ => none
theorem rngOk_ok {i : Int} (h : rngOk i = true) : -(2 ^ 62) ≤ i ∧ i < 2 ^ 62 := by
  unfold rngOk at h
  simp only [Bool.and_eq_true, decide_eq_true_eq] at h
  omega
theorem Fol.kpT_of {K : PySem.W.Frag} {J : It} {ds : List D} {kp : Gr → Prop} {w : Wd} (F : Fol K J ds kp w) (h : ∀ g, kp g) : Fol K J ds kpT w :=
  ⟨fun i H w' g le S _ => F.stop i H w' g le S (h g), fun i H w' g le S _ => F.go i H w' g le S (h g), fun i H x H' w' g d le S _ => F.yld i H x H' w' g d le S (h g)⟩
section
variable {P : Program} {w : World} {K : PySem.W.Frag} {mg : Str → Option Value} {base : Heap} {Z : Sc} {hot : Option (Nat × Str)} {k : Nat} {X : Cx} {W : WX} {pos p : Pos} {x : Str} {tg e : Expr} {es : List Expr} {m : Exp} {ms : Exps}
theorem xSrcR1 (C : Cc P w K mg base Z hot k X W) (i : Nat) (fr : mg "range" = none) (ha : RA X W [e] ms) (hN : Z.gl[i]? = some "range" := by rfl) (hs : starEach [e] X.env = [(false, eval e X.env)] := by rfl) : RSrc X W tg (.Call (.Name "range" p) [e] [] pos) (srcA ms iR1) := by
  obtain ⟨h1, h2⟩ := C.glo hN
  refine pi_weak (pi_range1 h1 (by rw [C.pm]; exact fr) ha hs) ?_
  rintro σ H R ⟨w1, ρ, g, S0, L, o⟩
  refine bindSrcA S0 L o fun es g' vs H' w' ds kp le S' r e q => ?_
  unfold iR1 at e
  split at e
  · rename_i j
    split at e
    · rename_i hj
      cases e
      obtain ⟨v, rfl, hv⟩ := repl1 r
      exact ⟨j, by rw [rep_int hv], (rngOk_ok hj).1, (rngOk_ok hj).2, q _ (fol_rng 0 _)⟩
    · cases e
  · cases e
end
end Fw

set_option maxRecDepth 100000
set_option maxHeartbeats 4000000
namespace Fw
open PySem PySem.Spec PyProof.Rows L2

def ItES (z : Str) : It :=
  ⟨fun i _ => i < z.cps.size, fun i H v H' => ∃ T c, v = .ref T ∧ H T = none ∧ H' = upd H T (.tup [.int (i : Nat), .str ⟨#[c]⟩]) ∧ z.cps[i]? = some c, fun i _ => z.cps.size ≤ i⟩
theorem turn_ES {P : Program} {w : World} {K : PySem.W.Frag} {tgs : List Expr} {k0 : Nat} {tp : Pos} (z : Str) (t : Tok) (en ch : Addr) :
    Turn P w K (.Tuple tgs k0 tp) (ItES z) [en, ch] en (fun j hp => (∃ last, IsEnum hp en ch ((j : Nat) : Int) last) ∧ hp.IsStrIter ch (strIterType z) z t j ∧ en ≠ ch) where
  mem := by simp
  obj := fun j hp tn b hb => by
    obtain ⟨⟨last, q1⟩, ⟨o, q2, _, q3⟩, _⟩ := tn
    rcases (show b = en ∨ b = ch by simpa using hb) with rfl | rfl
    · exact ⟨_, q1, fun v z => nomatch z⟩
    · exact ⟨o, q2, fun v z => by rw [q3] at z; cases z⟩
  keep := fun j hp hp' tn kk => by
    obtain ⟨⟨last, q1⟩, ⟨o, q2, r⟩, nq⟩ := tn
    exact ⟨⟨last, kk en (by simp) _ q1⟩, ⟨o, kk ch (by simp) o q2, r⟩, nq⟩
  item := by
    intro X e1 e2 e3 calm j pins s σ H E Iv fp tn more
    subst e1 e2 e3
    obtain ⟨⟨last, q1⟩, q2, nq⟩ := tn
    have lt1 : en < s.heap.objs.size := Heap.lt_size q1
    have lt2 : ch < s.heap.objs.size := by obtain ⟨_, q, _⟩ := id q2; exact Heap.lt_size q
    refine wpAny_pyNext_enum_itemD (Draws.text (A := X.A.in1) (Iv.ok.hd calm) ch z t) q1 q2 more nq (by simpa using nq) fun x hp tk px out q2' hT hsz kk => ?_
    obtain ⟨c, u, hc, rfl⟩ := px
    refine ⟨_, rfl, wpAny_letOwnedTupleGo_enum (s := { s with heap := hp, toks := tk + 1 }) out fun hp2 q1' sb => ?_⟩
    have hT2 : hp2.get? s.heap.objs.size = some { cls := .type "tuple", data := .seq #[.int j tk, .str ⟨#[c]⟩ u] } := (sb.2 _ (Nat.ne_of_gt lt1)).trans hT
    have nw : ObjOk X.prog X.w (upd H s.heap.objs.size (.tup [.int (j : Nat), .str ⟨#[c]⟩])) hp2 s.heap.objs.size (.tup [.int (j : Nat), .str ⟨#[c]⟩]) :=
      ⟨by show 2 ≤ sizeLine; decide, [.int j tk, .str ⟨#[c]⟩ u], .cons ⟨_, rfl⟩ (.cons ⟨_, rfl⟩ .nil), ⟨_, hT2, rfl, _, rfl⟩⟩
    have Iv1 : Inv X pins σ (upd H s.heap.objs.size (.tup [.int (j : Nat), .str ⟨#[c]⟩])) { s with heap := hp2, toks := tk + 1 } :=
      Iv.turnedNew (ch := [en, ch]) (fun b ob hb q => (sb.2 b (fun z => hb (by simp [z]))).trans (kk b ob (fun z => hb (by simp [z])) (fun z => hb (by simp [z])) q)) fp (Nat.le_refl _) nw
    refine ⟨.ref s.heap.objs.size, _, Iv1, rfl, ⟨_, c, rfl, Iv.hok.fresh (Nat.le_refl _), rfl, hc⟩, ⟨⟨.str ⟨#[c]⟩ u, ?_⟩, ?_, nq⟩, fun b hb => ?_⟩
    · rw [show ((j + 1 : Nat) : Int) = (j : Int) + 1 by omega]; exact q1'
    · obtain ⟨o, z1, z2⟩ := q2'
      exact ⟨o, (sb.2 ch (Ne.symm nq)).trans z1, z2⟩
    · have lb : b < s.heap.objs.size := by
        rcases (show b = en ∨ b = ch by simpa using hb) with rfl | rfl
        · exact lt1
        · exact lt2
      rw [upd_ne (Nat.ne_of_lt lb)]
      exact (fp b hb).1
  done := by
    intro X e1 e2 e3 calm j pins s σ H E Iv fp tn more
    subst e1 e2 e3
    obtain ⟨⟨last, q1⟩, q2, nq⟩ := tn
    obtain ⟨g0, g1, g2, g3, g4, g5⟩ := fp ch (by simp)
    have D := Draws.text (prog := X.prog) (w := X.w) (A := X.A.in1) (Iv.ok.hd calm) ch z t
    have ej : j = z.cps.size ∨ z.cps.size < j := by have : z.cps.size ≤ j := more; omega
    have hz : z.cps[j]? = none := Array.getElem?_eq_none more
    have fin : ∀ h', Heap.ExtBut ch s.heap h' → ((none : Option Value) = none ∧ Inv X pins σ H { s with heap := h' }) := fun h' eb => ⟨rfl, Iv.turned (t' := s.toks) (fun b o hb q => eb b o hb q) g0 g1 g3 g4 g5⟩
    have hT : s.TypeIs (.ref en) "enumerate" := ⟨_, q1, rfl⟩
    have D2 : Draws X.prog X.w X.A.in1 ch [ch] 0 (fun _ _ => True) (fun _ h => h.IsStrIter ch (strIterType z) z t j) :=
      { live := fun _ _ st => let ⟨o, ho, _⟩ := st; ⟨o, ho⟩
        frame := fun _ _ _ st kk => let ⟨o, ho, r⟩ := st; ⟨o, kk ch (by simp) o ho, r⟩
        item := fun i s Q E hi _ _ => absurd hi (Nat.not_lt_zero _)
        done := fun s Q E st hE => by
          cases ha : z.cps.all (· < 128)
          · simp only [strIterType, ha, Bool.false_eq_true, if_false] at st
            exact wpAny_nextOf_wide_end (Iv.ok.hd calm) st hz hE
          · simp only [strIterType, ha, if_true] at st
            exact wpAny_nextOf_ascii_end (Iv.ok.hd calm) st hz hE }
    exact wpAny_pyNext_enum_endD D2 q1 q2 fin
  self := fun A j s Q E tn q => by obtain ⟨⟨_, q1⟩, _⟩ := tn; exact wpAny_pyIter_enum q1 q
def chD (z : Str) : List D := z.cps.toList.map fun c => .str ⟨#[c]⟩
def enD : Nat → List D → List D
  | _, [] => []
  | k, d :: ds => .tup [.int (k : Nat), d] :: enD (k + 1) ds
def zpD : List D → List D → List D
  | a :: as, b :: bs => .tup [a, b] :: zpD as bs
  | _, _ => []
theorem chD_len (z : Str) : (chD z).length = z.cps.size := by simp [chD]
theorem chD_get {z : Str} {i : Nat} {d : D} (h : (chD z)[i]? = some d) : ∃ c, z.cps[i]? = some c ∧ d = .str ⟨#[c]⟩ := by
  unfold chD at h
  rw [List.getElem?_map] at h
  cases q : z.cps.toList[i]? with
  | none => rw [q] at h; cases h
  | some c =>
    rw [q] at h
    exact ⟨c, by rw [← q]; simp, by simpa using h.symm⟩
theorem enD_len : ∀ (k : Nat) (ds : List D), (enD k ds).length = ds.length
  | _, [] => rfl
  | k, d :: ds => by simp [enD, enD_len (k + 1) ds]
theorem enD_get : ∀ {k : Nat} {ds : List D} {i : Nat} {e : D}, (enD k ds)[i]? = some e → ∃ d, ds[i]? = some d ∧ e = .tup [.int ((k + i : Nat) : Int), d]
  | k, [], i, e, h => by simp [enD] at h
  | k, d :: ds, 0, e, h => by
    simp only [enD, List.getElem?_cons_zero, Option.some.injEq] at h
    exact ⟨d, rfl, h.symm⟩
  | k, d :: ds, i + 1, e, h => by
    simp only [enD, List.getElem?_cons_succ] at h
    obtain ⟨d', h1, h2⟩ := enD_get h
    exact ⟨d', by simpa using h1, by rw [h2, show k + 1 + i = k + (i + 1) by omega]⟩
section
variable {K : PySem.W.Frag} {w : Wd}
theorem rep_tup2 {w' : Wd} {T : Addr} {x y : V} {a b : D} (h : w'.F T = some (.tup [x, y])) (rx : Rep K w' x a) (ry : Rep K w' y b) : Rep K w' (.ref T) (.tup [a, b]) := by
  simp only [Rep]
  exact ⟨T, [x, y], rfl, .inl (.inl h), by simp only [RepL]; exact ⟨x, [y], rfl, rx, y, [], rfl, ry, rfl⟩⟩
theorem fol_str (z : Str) : Fol K (Its z) (chD z) kpT w where
  stop := fun i H' w' g' le S' k hi => by rw [chD_len] at hi; exact hi
  go := fun i H' w' g' le S' k hi => by rw [chD_len] at hi; exact hi
  yld := fun i H' x H2 w' g' e1 le S' k hi y => by
    obtain ⟨c, h1, rfl⟩ := chD_get hi
    obtain ⟨rfl, c', h2, rfl⟩ := y
    rw [h1] at h2; cases h2
    exact ⟨w', Wd.Le.refl _, S', rep_str'⟩
theorem fol_ES (z : Str) : Fol K (ItES z) (enD 0 (chD z)) kpT w where
  stop := fun i H' w' g' le S' k hi => by rw [enD_len, chD_len] at hi; exact hi
  go := fun i H' w' g' le S' k hi => by rw [enD_len, chD_len] at hi; exact hi
  yld := fun i H' x H2 w' g' e1 le S' k hi y => by
    obtain ⟨d, hd, rfl⟩ := enD_get hi
    obtain ⟨c, h1, rfl⟩ := chD_get hd
    obtain ⟨T, c', rfl, hT, rfl, h2⟩ := y
    rw [h1] at h2; cases h2
    obtain ⟨S2, le2⟩ := S'.allocF hT (.tup [.int (i : Nat), .str ⟨#[c]⟩])
    refine ⟨_, le2, S2, rep_tup2 upd_same ?_ rep_str'⟩
    rw [Nat.zero_add]; exact rep_int'
theorem fol_enum {v : V} {d : D} {ds : List D} {g : Gr} {H : Hp} {a : Addr} (S0 : SG K w g H) (r : Rep K w v d) (e : viewL g d = some ds) (ha : v = .ref a) : Fol K (Ite K a) (enD 0 ds) (kpL d ds) w where
  stop := fun i H' w' g' le S' k hi => by
    rw [enD_len] at hi
    obtain ⟨p, xs, e1, h1, h2⟩ := viewL_ok S' (r.mono le) k
    rw [ha] at e1; cases e1
    exact ⟨xs, .inl h1, by rw [h2.length]; exact hi⟩
  go := fun i H' w' g' le S' k hi => by
    rw [enD_len] at hi
    obtain ⟨p, xs, e1, h1, h2⟩ := viewL_ok S' (r.mono le) k
    rw [ha] at e1; cases e1
    obtain ⟨x, hx⟩ := ltR h2 hi
    exact ⟨xs, x, .inl h1, hx⟩
  yld := fun i H' x H2 w' g' e1 le S' k hi y => by
    obtain ⟨d2, hd, rfl⟩ := enD_get hi
    obtain ⟨p, xs, e2, h1, h2⟩ := viewL_ok S' (r.mono le) k
    rw [ha] at e2; cases e2
    obtain ⟨T, y2, rfl, hT, rfl, hy⟩ := y
    obtain ⟨u, hu, ru⟩ := h2.get hd
    have := hy xs (.inl h1)
    rw [hu] at this; cases this
    obtain ⟨S2, le2⟩ := S'.allocF hT (.tup [.int (i : Nat), y2])
    refine ⟨_, le2, S2, rep_tup2 upd_same ?_ (ru.mono le2)⟩
    rw [Nat.zero_add]; exact rep_int'
end

def iZp (ds : List D) (g : Gr) : Option (List D × (Gr → Prop)) := match ds with
  | [.lst as, .lst bs] => some (zpD as bs, kpT)
  | [d, e] => (match viewL g d, viewL g e with
    | some as, some bs => some (zpD as bs, fun g => viewL g d = some as ∧ viewL g e = some bs)
    | _, _ => none)
  | _ => none
section
variable {P : Program} {w : World} {K : PySem.W.Frag} {mg : Str → Option Value} {base : Heap} {Z : Sc} {hot : Option (Nat × Str)} {k : Nat} {X : Cx} {W : WX} {pos p : Pos} {x : Str} {tg e : Expr} {es : List Expr} {m : Exp} {ms : Exps} {tgs : List Expr} {k0 : Nat} {tp : Pos}
end
end Fw

set_option maxRecDepth 100000
set_option maxHeartbeats 4000000
namespace Fw
open PySem PySem.Spec PyProof.Rows L2
section
variable {X : Cx} {K : PySem.W.Frag}
theorem op_repR : OpR X (binaryOp .Mult) rRepR := by
  intro pins s σ H x y v u Q I rx ry h
  obtain ⟨l, k, xs, rfl, rfl, hR, h1, h2, hz, q⟩ := h
  cases rx
  obtain ⟨t, rfl⟩ := ry
  obtain ⟨z, its, n, r, hl, e⟩ := Rd.lstM hR I
  have room : its.toArray.size * k.toNat ≤ sizeLine := by rw [List.size_toArray, ← hl]; exact hz
  have c1 : ¬ its.toArray.size * k.toNat > (2 ^ 63 - 1) / 8 := by
    have : (sizeLine : Nat) ≤ (2 ^ 63 - 1) / 8 := by decide
    omega
  have c2 : ¬ (!Builtin.List.listFitsIndex k) = true := by rw [fitsIndex_both h1 h2]; exact Bool.false_ne_true
  have c3 : ¬ Builtin.List.listTooLong (its.toArray.size * k.toNat) = true := by rw [notLongL room]; exact Bool.false_ne_true
  have made : List.foldl (fun x1 x2 => x1 ++ x2) #[] (List.replicate (if its.toArray.isEmpty = true then 0 else k.toNat) its.toArray) = (List.replicate k.toNat its).flatten.toArray := by
    have f0 : ∀ m : Nat, List.foldl (fun x1 x2 => x1 ++ x2) #[] (List.replicate m its.toArray) = (List.replicate m its).flatten.toArray := fun m => by
      simpa using foldl_rep its m []
    rw [f0]
    cases its with
    | nil => simp
    | cons a r' => rw [if_neg (by simp)]
  refine wpAny_binaryOp_repeat_ref (T := "list") (U := "int") (by decide) ⟨_, e, rfl⟩ (fun s' => typeIs_int s' k t) noFill_list_mul F.fills_int_mul F.slot_int_rmul repeat_list F.slot_int_index.lookup
    (call_meets F.slot_int_rmul (typeIs_int s k t) F.entry_int_rmul (F.args_int_rmul_2 _ _) (int___rmul___int_list k t l its.toArray n)
      ⟨e, rfl, ⟨_, e, rfl⟩, call_meets F.slot_list_mul ⟨_, e, rfl⟩ F.entry_list_mul (F.args_list_mul_2 _ _) (AutoListH.list___mul___list_int_3 l its.toArray n k t c2 c1 c3) ⟨e, ?_⟩⟩)
  rw [made]
  exact ⟨.ref _, _, I.lnew (t' := s.toks) (r.rep k.toNat) (by rw [PyProof.Rows.lm_len_rep_flat, Nat.mul_comm]; exact hz), rfl, q _ I.fresh⟩
theorem op_mulA : OpR X (binaryOp .Mult) (fun x y H Q => rI CMul (fun i j => .int (i * j)) x y H Q ∨ rRepR x y H Q) := op_mul.or op_repR
theorem repl_rep {w : Wd} {ds : List D} {xs : List V} (r : RepL K w xs ds) : ∀ k : Nat, RepL K w (List.replicate k xs).flatten (List.replicate k ds).flatten
  | 0 => by simp [RepL]
  | k + 1 => by
    rw [List.replicate_succ, List.replicate_succ, List.flatten_cons, List.flatten_cons]
    exact RepL.app (repl_rep r k) r
theorem s_mul : OpS X (fun x y H Q => rI CMul (fun i j => .int (i * j)) x y H Q ∨ rRepR x y H Q) opMul := by
  intro w g H x y d e Q E S0 rx ry o
  unfold opMul at o
  split at o
  · split at o
    · rename_i hh
      exact .inl ⟨_, _, rep_int rx, rep_int ry, by unfold CMul; omega, Out.here o S0 rep_int'⟩
    · exact o.elim
  · split at o
    · rename_i ds h1
      split at o
      · rename_i hz
        obtain ⟨p, xs, rfl, h3, h4⟩ := viewL_ok S0 rx h1
        exact .inr ⟨p, _, xs, rfl, rep_int ry, h3, by omega, by omega, by rw [h4.length]; exact hz.2.2, Out.newL o S0 (repl_rep h4 _)⟩
      · exact o.elim
    · exact o.elim
  · exact o.elim

def opIsB (b : Bool) (d _e : D) (g : Gr) : R := match d with
  | .bl a => .ok (.bl (decide (a = b))) g
  | .non => .ok (.bl false) g
  | .int _ => .ok (.bl false) g
  | .str _ => .ok (.bl false) g
  | _ => .no
def gUnpL (n : Nat) (as : Tgs) : Tg := fun d ρ g => match viewL g d with
  | some ds => if ds.length = n then as ds ρ g else none
  | none => none
def tyS (d : D) (_ : Gr) : Bool := match d with
  | .str _ => true
  | _ => false
theorem tyS_ok {w : Wd} {g : Gr} {H : Hp} {x : V} {d : D} (r : Rep K w x d) (h : tyS d g = true) : tyV K "str" x H := by
  unfold tyS at h
  split at h
  · rw [rep_str r]; rfl
  · cases h
def strsD : List D → Option (List Str)
  | [] => some []
  | .str z :: ds => (strsD ds).map (z :: ·)
  | _ => none
theorem strsD_ok {w : Wd} : ∀ {ds : List D} {xs : List V} {zs : List Str}, RepL K w xs ds → strsD ds = some zs → xs = zs.map V.str
  | [], xs, zs, r, e => by
    simp only [strsD, Option.some.injEq] at e
    simp only [RepL] at r
    subst r e; rfl
  | d :: ds, xs, zs, r, e => by
    simp only [RepL] at r
    obtain ⟨x, t, rfl, r1, r2⟩ := r
    cases d with
    | str z =>
      simp only [strsD, Option.map_eq_some_iff] at e
      obtain ⟨cs, e1, rfl⟩ := e
      rw [rep_str r1, strsD_ok r2 e1]; rfl
    | _ => simp only [strsD] at e; cases e
theorem repl_strsD {w : Wd} : ∀ zs : List Str, RepL K w (zs.map V.str) (zs.map D.str)
  | [] => by simp only [List.map_nil, RepL]
  | z :: zs => by simp only [List.map_cons, RepL]; exact ⟨_, _, rfl, rep_str', repl_strsD zs⟩
def mJoin (d : D) (ds : List D) (g : Gr) : R := match d, ds with
  | .str a, [e] => (match viewA g e with
    | some es => (match strsD es with
      | some ys => if (ys.map (·.length)).sum + ys.length * a.length ≤ 16777216 then .ok (.str (Txt.join a ys)) g else .no
      | none => .no)
    | none => .no)
  | _, _ => .no
theorem ms_join : MtS K "str" (fun x xs H Q => ∃ a p, ∃ ys : List Str, x = .str a ∧ xs = [.ref p] ∧ (SqL K H p (ys.map V.str) ∨ SqT K H p (ys.map V.str)) ∧
      (ys.map (·.length)).sum + ys.length * a.length ≤ 16777216 ∧ Q (.str (Txt.join a ys)) H) tyS mJoin := by
  refine ⟨fun w g H x d S0 r h => tyS_ok r h, fun w g H x d vs ds Q E S0 rx rv o => ?_⟩
  unfold mJoin at o
  split at o
  · split at o
    · rename_i es h1
      split at o
      · rename_i ys h2
        split at o
        · rename_i hz
          obtain ⟨v, rfl, h3⟩ := repl1 rv
          obtain ⟨p, xs, rfl, h4, h5⟩ := viewA_ok S0 h3 h1
          have e := strsD_ok h5 h2
          subst e
          exact ⟨_, p, ys, rep_str rx, rfl, h4, hz, Out.here o S0 rep_str'⟩
        · exact o.elim
      · exact o.elim
    · exact o.elim
  · exact o.elim
def mSplit (d : D) (ds : List D) (g : Gr) : R := match d, ds with
  | .str a, [.str b] => if (b.length == 0) = false ∧ a.length + 2 ≤ sizeLine then .ok (.lst ((Txt.split a b).map .str)) g else .no
  | _, _ => .no
theorem ms_split : MtS K "str" (fun x xs H Q => ∃ a b, x = .str a ∧ xs = [.str b] ∧ (b.length == 0) = false ∧ a.length + 2 ≤ sizeLine ∧ rNewStrs (Txt.split a b) H Q) tyS mSplit := by
  refine ⟨fun w g H x d S0 r h => tyS_ok r h, fun w g H x d vs ds Q E S0 rx rv o => ?_⟩
  unfold mSplit at o
  split at o
  · split at o
    · rename_i hz
      obtain ⟨v, rfl, h3⟩ := repl1 rv
      exact ⟨_, _, rep_str rx, by rw [rep_str h3], hz.1, hz.2, Out.newL o S0 (repl_strsD _)⟩
    · exact o.elim
  · exact o.elim
def mStr2 (f : Str → Str → D) (d : D) (ds : List D) (g : Gr) : R := match d, ds with
  | .str a, [.str b] => .ok (f a b) g
  | _, _ => .no
def mEnds := mStr2 fun a b => .bl (Txt.endswith a b)
def mRfind := mStr2 fun a b => .int (Txt.rfind a b)
def fLstO : Fn := fun ds g => match ds with
  | [d] => (match viewA g d with
    | some es => .ok (.lst es) g
    | none => .no)
  | _ => .no
def fTupO : Fn := fun ds g => match ds with
  | [.tup es] => .ok (.tup es) g
  | [d] => (match viewL g d with
    | some es => .ok (.tup es) g
    | none => .no)
  | _ => .no
def tyD (g : Gr) : D → Option String
  | .non => some "NoneType"
  | .bl _ => some "bool"
  | .int _ => some "int"
  | .str _ => some "str"
  | .lst _ => some "list"
  | .tup _ => some "tuple"
  | .obj l => (match g[l]? with
    | some (.lst _) => some "list"
    | some (.dic _) => some "dict"
    | _ => none)
  | .err _ _ => none
theorem tyD_ok {w : Wd} {g : Gr} {H : Hp} {v : V} {d : D} {t : String} (S0 : SG K w g H) (r : Rep K w v d) (h : tyD g d = some t) : TyX K H v (.type t) := by
  cases d with
  | non => cases h; rw [rep_non r]; exact .base .non
  | bl b => cases h; rw [rep_blv r]; exact .base (.bl b)
  | int i => cases h; rw [rep_int r]; exact .base (.int i)
  | str z => cases h; rw [rep_str r]; exact .base (.str z)
  | lst ds =>
    cases h
    obtain ⟨a, xs, rfl, h1, _⟩ := viewL_ok S0 r (show viewL g (.lst ds) = some ds from rfl)
    rcases h1 with h1 | ⟨o, h1⟩
    · exact .base (.lst h1)
    · exact .base (.frz h1)
  | tup ds =>
    cases h
    obtain ⟨a, xs, rfl, h1, _⟩ := viewT_ok S0 r (show viewT (.tup ds) = some ds from rfl)
    rcases h1 with (h1 | ⟨o, h1⟩) | h1
    · exact .base (.tup h1)
    · exact .fTuple h1
    · obtain ⟨ob, its, n, h2, h3, _⟩ := h1
      exact .kTuple h2 h3
  | obj l =>
    simp only [tyD] at h
    simp only [Rep] at r
    obtain ⟨_, rfl⟩ := r
    split at h
    · rename_i ds hl
      cases h
      obtain ⟨_, xs, h1, _⟩ := S0.cell l _ hl
      exact .base (.lst h1)
    · rename_i ds hl
      cases h
      obtain ⟨_, xs, h1, _⟩ := S0.cell l _ hl
      exact .base (.dK h1)
    · cases h
  | err c a => cases h
def subT (t T : String) : Option Bool := if t = T then some true else if t = "bool" ∧ T = "int" then some true else
  if t ∈ ["NoneType", "bool", "int", "str", "list", "tuple", "dict"] ∧ T ∈ ["bool", "int", "str", "list", "tuple", "dict"] then some false else none
theorem subT_ok {t T : String} {b : Bool} (h : subT t T = some b) : PySem.W.kitOne K (.type t) (.type T) = some b := by
  unfold subT at h
  split at h
  · rename_i e
    cases h; subst e
    unfold PySem.W.kitOne
    rw [if_pos (by simp)]
  · split at h
    · rename_i e
      cases h
      obtain ⟨rfl, rfl⟩ := e
      rfl
    · split at h
      · rename_i n1 n2 e
        cases h
        obtain ⟨e1, e2⟩ := e
        simp only [List.mem_cons, List.not_mem_nil, or_false] at e1 e2
        rcases e1 with rfl | rfl | rfl | rfl | rfl | rfl | rfl <;> rcases e2 with rfl | rfl | rfl | rfl | rfl | rfl <;> first | rfl | exact absurd rfl n1 | exact absurd ⟨rfl, rfl⟩ n2
      · cases h
def opIsT (T : String) (d : D) (g : Gr) : R := match tyD g d with
  | some t => (match subT t T with
    | some b => .ok (.bl b) g
    | none => .no)
  | none => .no
end
section
variable {P : Program} {w : World} {K : PySem.W.Frag} {mg : Str → Option Value} {base : Heap} {Z : Sc} {hot : Option (Nat × Str)} {k : Nat} {X : Cx} {W : WX} {pos p p2 : Pos} {e f : Expr} {m mf : Exp}
theorem xIsT (C : Cc P w K mg base Z hot k X W) (i j : Nat) (T : String) {y : Str} (fr : mg "isinstance" = none) (fr2 : mg y = none) (hv : bootBuiltins y = some (.type T)) (ha : RE X W e m) (hN : Z.gl[i]? = some "isinstance" := by rfl) (hN2 : Z.gl[j]? = some y := by rfl)
    (hn : y ≠ "__name__" := by decide) (hs1 : starEach [e, .Name y p2] X.env = (false, eval e X.env) :: starEach [.Name y p2] X.env := by rfl) (hs2 : starEach [.Name y p2] X.env = (false, eval (.Name y p2) X.env) :: starEach [] X.env := by rfl) (hpl : (backTo pos (starEach [.Name y p2] X.env)).any (·.1) = false := by rfl) :
    RE X W (.Call (.Name "isinstance" p) [e, .Name y p2] [] pos) (eUn (opIsT T) m) := by
  obtain ⟨h1, h2⟩ := C.glo hN
  obtain ⟨h3, h4⟩ := C.glo hN2
  refine pe_weak (pe_callB call_isi h1 (by rw [C.pm]; exact fr) boot_isinstance (pa_cons ha (pa_cons (pe_bltn h3 (by rw [C.pm]; exact fr2) hv (show RelV (.ty T) _ from rfl) hn h4) pa_nil hs2) hs1) (by decide) h2 hs1 hpl) ?_
  rintro σ H Q ⟨w1, ρ, g, S0, L, o⟩
  refine bindM S0 L o fun d g1 x H1 w2 le S1 L1 rx o1 => ?_
  unfold opIsT at o1
  split at o1
  · rename_i t ht
    split at o1
    · rename_i b hb
      exact ⟨x, .ty T, .type t, .type T, b, rfl, .ty T, tyD_ok S1 rx ht, subT_ok hb, Out.here o1 S1 rep_bl'⟩
    · exact o1.elim
  · exact o1.elim

def eTab (tab : List (Str × Str)) (m mf : Exp) : Exp := fun ρ g => (m ρ g).bind fun d g1 => (mf ρ g1).bind fun e g2 => match d with
  | .str z => (match tab.lookup z with
    | some y => .ok (.str y) g2
    | none => .ok e g2)
  | _ => .no
end
end Fw

set_option maxRecDepth 100000
set_option maxHeartbeats 4000000
namespace Fw
open PySem PySem.Spec PyProof.Rows L2
open PySem.Builtin.Str (occurrencesFromRight partsBetween strKind)
section
variable {X : Cx} {K : PySem.W.Frag}
def mRspl (d : D) (ds : List D) (g : Gr) : R := match d, ds with
  | .str a, [.str b, .int k] => if (b.length == 0) = false ∧ -9223372036854775808 ≤ k ∧ k < 9223372036854775808 ∧ a.length + 2 ≤ sizeLine then .ok (.lst ((Txt.rsplitMax a b k).map .str)) g else .no
  | _, _ => .no
end
end Fw

set_option maxRecDepth 100000
set_option maxHeartbeats 4000000
namespace Fw
open PySem PySem.Spec PyProof.Rows L2

theorem lookup_in {a : Addr} {o : Obj} : ∀ {l : List (Addr × Obj)}, l.lookup a = some o → ∃ b, (b, o) ∈ l
  | [], h => nomatch h
  | (b, u) :: l, h => by
    simp only [List.lookup] at h
    split at h
    · cases h; exact ⟨b, List.mem_cons_self⟩
    · obtain ⟨c, hc⟩ := lookup_in h
      exact ⟨c, List.mem_cons_of_mem _ hc⟩
theorem noLst_ok {K : PySem.W.Frag} (h : noLst K = true) {a : Addr} {o : Obj} (e : K.lookup a = some o) : o.cls ≠ .type "list" := by
  obtain ⟨b, hb⟩ := lookup_in e
  have := List.all_eq_true.mp h _ hb
  intro z
  simp only [z] at this
  simp at this
theorem repl_ints {K : PySem.W.Frag} {w : Wd} : ∀ ns : List Int, RepL K w (ns.map V.int) (ns.map D.int)
  | [] => by simp only [List.map_nil, RepL]
  | n :: ns => by simp only [List.map_cons, RepL]; exact ⟨_, _, rfl, rep_int', repl_ints ns⟩
theorem law_callM {P : Program} {w : World} {K : PySem.W.Frag} {mg mb : Str → Option Value} {k : Nat} {fa a : Addr} {fd : FuncData} {x : Str} {m : Fn} {s₁ : Shared} {vs : List Value} {ns : List Int}
    (KX : K.In s₁.heap) (hns : s₁.heap.Ns mainGlobals mg) (hb : s₁.heap.Ns builtinsNs mb) (hbb : ∀ x : Str, x ≠ "__name__" → mb x = bootBuiltins x) (hlim : s₁.heap.NoLimit) (hg : s₁.gens = #[])
    (ha : s₁.heap.get? a = some { cls := .type "list", data := .seq vs.toArray }) (hi : IntsAre vs ns) (hl : ns.length ≤ sizeLine) (hr : RM k callerA) (nl : noLst K = true)
    (F : ∀ base : Heap, K.In base → base.Ns mainGlobals mg → FnM P w K mg base none k fa fd [x] (spM K 1 m)) (hbind : ∀ (s : Shared) (u : Value), BindsTo s fd ⟨[u], []⟩ [(x, u)])
    (hm : ∃ g', m [.lst (ns.map .int)] [] = .ok (.bl true) g') :
    codeAny (model P w) callerA (.call (.ref fa) ⟨[.ref a], []⟩) (fun r s' => r = .ok (.ret (.bool true)) ∧ OldK s₁.heap s'.heap ∧ s'.os = s₁.os ∧ AllBare s'.gens) s₁ := by
  have rv := vals_ints hi
  have notK : K.lookup a = none := by
    cases e : K.lookup a with
    | none => rfl
    | some o =>
      have q := KX a o e
      rw [ha] at q
      cases q
      exact absurd rfl (noLst_ok nl e)
  let so : Obj := { cls := .type "list", data := .seq vs.toArray }
  let H : Hp := fun b => if b = a then some (.frz so (.lst (ns.map V.int))) else none
  have Ha : H a = some (.frz so (.lst (ns.map V.int))) := if_pos rfl
  have Hn : ∀ {b}, b ≠ a → H b = none := fun n => if_neg n
  have Hs : ∀ {b u}, H b = some u → b = a ∧ u = .frz so (.lst (ns.map V.int)) := fun {b u} e => by
    by_cases z : b = a
    · subst z; rw [Ha] at e; exact ⟨rfl, (Option.some.inj e).symm⟩
    · rw [Hn z] at e; cases e
  have hok : HOk P w H s₁.heap := fun b u e => by
    obtain ⟨rfl, rfl⟩ := Hs e
    exact ⟨ha, by rw [List.length_map]; exact hl, vs, _, rv, ha⟩
  have under : ∀ {b : Addr} {o : Obj}, s₁.heap.get? b = some o → b ≠ a → (hidT s₁.heap H).get? b = some o := fun e n => hidT_get e (Hn n)
  have dictNe : ∀ {b : Addr} {o : Obj} {es : Array DictEntry} {ep : Nat}, s₁.heap.get? b = some o → o.data = .dict es ep → b ≠ a := fun {b o es ep} e d z => by
    subst z
    rw [ha] at e; cases e
    have d' : Data.seq vs.toArray _ = Data.dict es ep := d
    cases d'
  have nsU : ∀ {b : Addr} {mm : Str → Option Value}, s₁.heap.Ns b mm → (hidT s₁.heap H).Ns b mm := fun {b mm} ⟨o, es, ep, e, d, r⟩ => ⟨o, es, ep, under e (dictNe e d), d, r⟩
  have hKb : K.In (hidT s₁.heap H) := fun b o e => under (KX b o e) fun z => by subst z; rw [notK] at e; cases e
  have hM : Mod K mg (hidT s₁.heap H) := ⟨hKb, nsU hns, ⟨mb, nsU hb, hbb⟩, let ⟨mc, h1, h2⟩ := hlim; ⟨mc, nsU h1, h2⟩⟩
  have e0 : Env0 P w K mg (hidT s₁.heap H) callerA [] s₁ H := ⟨rfl, hM, fun b o e => of_hidT e, Nat.le_of_eq (hidT_size _ _), trivial, fun b hb => absurd (show b ∈ ([] : List Addr) from hb) (by simp), hok, .of_eq hg⟩
  have sp : spM K 1 m [.ref a] H (fun v _ => v = .bl true) fun _ _ _ => False := by
    obtain ⟨g', e⟩ := hm
    refine ⟨rfl, ⟨H, fun _ => 0, 0, fun _ => none⟩, [], [.lst (ns.map .int)], ⟨Exn.refl _, rfl, fun l c h => by simp at h, fun l l' c c' h => by simp at h, fun b o h => (by cases h), fun b o h => (by cases h), fun b o l c h => (by cases h)⟩, ?_, ?_⟩
    · refine RepL.one ?_
      simp only [Rep]
      exact ⟨a, ns.map V.int, rfl, .inr ⟨so, Ha⟩, repl_ints ns⟩
    · rw [e]
      exact fun v H' w' le S r => rep_blv r
  refine codeAny_mono ((F _ hKb (nsU hns)).run callerA [] s₁ H ⟨[.ref a], []⟩ [.ref a] [.ref a] _ _ hr rfl e0 (hbind s₁ (.ref a)) (.cons rfl .nil) sp) fun r s' h => ?_
  cases r with
  | error e =>
    obtain ⟨_, _, _, _, _, _, _, _, _, _, _, _, z⟩ := h
    exact z.elim
  | ok fl =>
    cases fl with
    | next => exact False.elim h
    | brk => exact False.elim h
    | cont => exact False.elim h
    | ret u =>
      obtain ⟨v, H', os, bare, un, hok', r', q⟩ := h
      have q' : v = .bl true := q
      subst q'
      obtain rfl : u = Value.bool true := r'
      refine ⟨rfl, OldK.of_keep fun b o e => ?_, os, bare⟩
      by_cases z : b = a
      · subst z
        have z2 := un.frzs b so _ Ha
        obtain ⟨e2, _⟩ := hok' b _ z2
        rw [ha] at e; cases e
        exact e2
      · exact un.keep b o e (Hn z) (by intro y; exact absurd (show b ∈ ([] : List Addr) from y) (by simp)) (by simp)
theorem walk_ofM {l : PySem.W.OpenLaw} {n k : Nat} {q : Program} {loose : List Str} {XP : (Str → Option Value) → Heap → Prop} {YP : World → Heap → Prop} {d : DefRec} {x : Str} {m : Fn}
    (hn : l.most = some n) (hn2 : n ≤ sizeLine) (hdf : d.params.defaults = []) (hr : RM k callerA)
    (F : ∀ (w : World) (mg : Str → Option Value) (fa : Addr) (h : Heap), YP w h → h.Ns mainGlobals mg → mg d.name = some (.ref fa) →
      ∃ (K : PySem.W.Frag) (fd : FuncData), K.In h ∧ noLst K = true ∧ (∀ (s : Shared) (u : Value), BindsTo s fd ⟨[u], []⟩ [(x, u)]) ∧
        ∀ base : Heap, K.In base → base.Ns mainGlobals mg → FnM l.prog w K mg base none k fa fd [x] (spM K 1 m))
    (hm : ∀ ns : List Int, ns.length ≤ n → (∀ z ∈ ns, Builtin.Int.intBits z ≤ 1048576) → ∃ g', m [.lst (ns.map .int)] [] = .ok (.bl true) g') :
    PySem.W.WalkO q loose XP YP l.row.toRowW d [] (fun f vs => PySem.call f vs) := by
  refine Att.attach_callB hn hdf fun w s₀ s₁ mg mb fa o pm cd doc a vs ns G Y ho hd hcd hmg hobj hints hlen hbits hg => ?_
  obtain ⟨K, fd, KX, nl, hb, hF⟩ := F w mg fa _ Y G.T.g hmg
  exact law_callM KX G.T.g G.T.b G.T.builtins G.T.nolimit hg hobj hints (Nat.le_trans hlen hn2) hr nl hF hb (hm ns hlen hbits)
end Fw

set_option maxRecDepth 100000
set_option maxHeartbeats 4000000
namespace Fw
open PySem PySem.Spec PyProof.Rows L2

section
variable {X : Cx} {W : WX} {st : Stmt} {b : List Stmt} {tg e : Expr}
end

def relab (sc scope : Scope) : Scope := { scope with names := scope.names.map fun (n, k) => if (k == .free && sc.kind == .function && sc.names.lookup n == some .cell) then (n, .cell) else (n, k) }
theorem relab_eq {env : Env} {sc scope : Scope} (h : env.scope = sc) : relabel scope env = relab sc scope := by subst h; rfl
def isCell (scope : Scope) (x : Str) : Bool := scope.names.lookup x == some .cell
section
variable {P : Program} {w : World} {K : PySem.W.Frag} {mg : Str → Option Value} {base : Heap} {N : List Str} {sc scope : Scope} {vi ow vi' ow' : List Nat} {gl gl' : List Str} {top : Bool} {k : Nat} {X : Cx} {W : WX}
theorem Cc.blk (C : Cc P w K mg base ⟨N, sc, vi, ow, gl, top⟩ none k X W) (s : Shared) (H : Hp) (D : Addr) (cl : List (Str × Addr)) (fp : List Addr)
    (ok : (Sc.okV ⟨N, relab sc scope, vi', ow', gl', false⟩ && (Sc.okG ⟨N, relab sc scope, vi', ow', gl', false⟩ && Sc.okS ⟨N, relab sc scope, vi', ow', gl', false⟩ (isCell scope))) = true) :
    Cc P w K mg base ⟨N, relab sc scope, vi', ow', gl', false⟩ none k (X.blk s H scope (compEnvC scope cl D X.env) fp) NoW := by
  simp only [Bool.and_eq_true] at ok
  obtain ⟨o1, o2, o3⟩ := ok
  exact { pP := C.pP, pw := C.pw, pK := C.pK, pm := C.pm, pb := C.pb, nn := C.nn, ss := relab_eq C.ss, nd := C.nd, room := C.room,
          tk := fun u s' h => by obtain ⟨_, _, _, _, _, _, _, _, _, _, _, _, _, _, _, _, z⟩ := h; exact z.elim
          pass := PassesOwn.never, md := C.calm, okv := o1, okg := o2, oks := o3, stk := fun z => by cases z }
variable {elt tg iter : Expr} {ifs : List Expr} {own : List (Str × Nat)} {pos : Pos} {ms : Src} {mt : Tg} {mc me : Exp} {fin : List D → Gr → R}
theorem xLc (C : Cc P w K mg base ⟨N, sc, vi, ow, gl, top⟩ none k X W) (hfin : FinOk X.K fin) (own : List (Str × Nat)) (vi' ow' : List Nat) (gl' : List Str)
    (ok : (blkC N sc scope own && (Sc.okV ⟨N, relab sc scope, vi', ow', gl', false⟩ && (Sc.okG ⟨N, relab sc scope, vi', ow', gl', false⟩ && Sc.okS ⟨N, relab sc scope, vi', ow', gl', false⟩ (isCell scope)))) = true)
    (hi : RSrc X W tg iter ms)
    (hb : ∀ X' : Cx, Cc P w K mg base ⟨N, relab sc scope, vi', ow', gl', false⟩ none k X' NoW → X'.K = X.K → RG X' (own.map (·.2)) tg mt ∧ RTs X' NoW ifs mc ∧ RE X' NoW elt me)
    (hs : ∀ x, foldedSetIterable iter X.env x = pure x := by intro _; rfl) : RE X W (.ListComp elt [⟨tg, iter, ifs, 0⟩] scope pos) (eLc fin ms (own.map (·.2)) mt mc me) := by
  obtain ⟨o0, o1⟩ := Bool.and_eq_true_iff.mp ok
  exact re_lc hfin C.calm (by rw [C.nn]; exact C.nd) hi (by rw [C.nn, C.ss]; exact blkOk_by o0) (fun s H D cl fp => (hb _ (C.blk s H D cl fp o1) rfl).1) (fun s H D cl fp => (hb _ (C.blk s H D cl fp o1) rfl).2.1) (fun s H D cl fp => (hb _ (C.blk s H D cl fp o1) rfl).2.2) hs
theorem xSetLc (C : Cc P w K mg base ⟨N, sc, vi, ow, gl, top⟩ none k X W) (i : Nat) {y : Str} {py spos : Pos} (hfin : FinOk X.K fin) (own : List (Str × Nat)) (vi' ow' : List Nat) (gl' : List Str)
    (ok : (blkC N sc scope own && (Sc.okV ⟨N, relab sc scope, vi', ow', gl', false⟩ && (Sc.okG ⟨N, relab sc scope, vi', ow', gl', false⟩ && Sc.okS ⟨N, relab sc scope, vi', ow', gl', false⟩ (isCell scope)))) = true)
    (hi : RSrc X W tg iter ms)
    (hb : ∀ X' : Cx, Cc P w K mg base ⟨N, relab sc scope, vi', ow', gl', false⟩ none k X' NoW → X'.K = X.K → RG X' (own.map (·.2)) tg mt ∧ RTs X' NoW ifs mc ∧ RE X' NoW elt me)
    (hy : N[i]? = some y := by rfl) (hyl : sc.names.lookup y = some .local := by rfl)
    (hsw : swapsWith (.ListComp elt [⟨tg, iter, ifs, 0⟩] scope pos) (some (.Name y py)) spos.line X.env = pure true := by rfl) (hs : ∀ x, foldedSetIterable iter X.env x = pure x := by intro _; rfl) :
    RS X W (.Assign [.Name y py] (.ListComp elt [⟨tg, iter, ifs, 0⟩] scope pos) spos) (sAsg (gVar i) (eLc fin ms (own.map (·.2)) mt mc me)) := by
  obtain ⟨o0, o1⟩ := Bool.and_eq_true_iff.mp ok
  exact rs_setLc i hfin C.calm (by rw [C.nn]; exact C.nd) (by rw [C.nn]; exact hy) (by rw [C.ss]; exact hyl) hsw hi (by rw [C.nn, C.ss]; exact blkOk_by o0) (fun s H D cl fp => (hb _ (C.blk s H D cl fp o1) rfl).1) (fun s H D cl fp => (hb _ (C.blk s H D cl fp o1) rfl).2.1) (fun s H D cl fp => (hb _ (C.blk s H D cl fp o1) rfl).2.2) hs
end

section
variable {P : Program} {w : World} {K : PySem.W.Frag} {mg : Str → Option Value} {base : Heap} {Z : Sc} {hot : Option (Nat × Str)} {k : Nat} {X : Cx} {W : WX}
theorem Cc.units64 (C : Cc P w K mg base Z hot k X W) : X.A.units + 64 < cLine := C.room.units
end
section
variable {X : Cx} {W : WX} {a b c e : Expr} {ma mb mc : Exp} {pos : Pos}
theorem re_chain {op op' : CmpOp} {r r' : R2} {p q : D → D → Gr → R} (ho : OpR X (compareOp op) r) (hs : OpS X r p) (ho' : OpR X (compareOp op') r') (hs' : OpS X r' q) (ha : RE X W a ma) (hb : RE X W b mb) (hc : RE X W c mc)
    (hm : lastMarks [op, op'] [b, c] = false := by with_unfolding_all rfl) : RE X W (.Compare a [op, op'] [b, c] pos) (eChain p q ma mb mc) :=
  pe_weak (pe_chain ho ho' ha hb hc hm) fun _ _ _ h => read_chain (c := c) hs hs' h
theorem rt_chain {op op' : CmpOp} {r r' : R2} {p q : D → D → Gr → R} (ho : OpR X (compareOp op) r) (hs : OpS X r p) (ho' : OpR X (compareOp op') r') (hs' : OpS X r' q) (ha : RE X W a ma) (hb : RE X W b mb) (hc : RE X W c mc)
    (hm : lastMarks [op, op'] [b, c] = false := by with_unfolding_all rfl) : RT X W (.Compare a [op, op'] [b, c] pos) (eChain p q ma mb mc) :=
  pt_weak (pt_chain ho ho' ha hb hc hm) (test_of fun _ _ _ h => read_chain (c := c) hs hs' h)
end
def tyL (d : D) (g : Gr) : Bool := (viewL g d).isSome
def viewC (g : Gr) : D → Option (Nat × List D)
  | .obj l => (match g[l]? with
    | some (.lst ds) => some (l, ds)
    | _ => none)
  | _ => none
theorem viewC_ok {K : PySem.W.Frag} {w : Wd} {g : Gr} {H : Hp} {v : V} {d : D} {l : Nat} {ds : List D} (S0 : SG K w g H) (r : Rep K w v d) (e : viewC g d = some (l, ds)) :
    d = .obj l ∧ v = .ref (w.mm l) ∧ g[l]? = some (.lst ds) ∧ ∃ xs, H (w.mm l) = some (.lst xs) ∧ RepL K w xs ds := by
  cases d with
  | obj j =>
    simp only [viewC] at e
    split at e
    · rename_i es hl
      cases e
      simp only [Rep] at r
      obtain ⟨_, xs, h1, h2⟩ := S0.cell _ _ hl
      exact ⟨rfl, r.2, hl, xs, h1, h2⟩
    · cases e
  | _ => simp only [viewC] at e; cases e
theorem SG.setL {K : PySem.W.Frag} {w : Wd} {g : Gr} {H : Hp} {l : Nat} {ds es : List D} {ys : List V} (S0 : SG K w g H) (hl : g[l]? = some (.lst ds)) (r : RepL K w ys es) : SG K w (g.set l (.lst es)) (upd H (w.mm l) (.lst ys)) :=
  S0.setC hl rfl (by obtain ⟨f0, _⟩ := S0.cell l _ hl; exact ⟨f0, ys, upd_same, r⟩) rfl
section
variable {K : PySem.W.Frag}
theorem tyL_ok {w : Wd} {g : Gr} {H : Hp} {x : V} {d : D} (S0 : SG K w g H) (r : Rep K w x d) (h : tyL d g = true) : tyV K "list" x H := by
  unfold tyL at h
  obtain ⟨ds, e⟩ := Option.isSome_iff_exists.mp h
  obtain ⟨a, xs, rfl, h1, _⟩ := viewL_ok S0 r e
  exact .inl ⟨rfl, xs, .inl h1⟩
def mAppend (d : D) (ds : List D) (g : Gr) : R := match ds with
  | [e] => (match viewC g d with
    | some (l, xs) => if xs.length < sizeLine then .ok .non (g.set l (.lst (xs ++ [e]))) else .no
    | none => .no)
  | _ => .no
theorem ms_append : MtS K "list" rAppend tyL mAppend := by
  refine ⟨fun w g H x d S0 r h => tyL_ok S0 r h, fun w g H x d vs ds Q E S0 rx rv o => ?_⟩
  unfold mAppend at o
  split at o
  · split at o
    · rename_i l xs h
      split at o
      · rename_i hz
        obtain ⟨v, rfl, h3⟩ := repl1 rv
        obtain ⟨_, rfl, hl, ys, h1, h2⟩ := viewC_ok S0 rx h
        exact ⟨_, ys, v, rfl, rfl, h1, by rw [h2.length]; exact hz, Out.here o (S0.setL hl (RepL.app (RepL.one h3) h2)) rep_non'⟩
      · exact o.elim
    · exact o.elim
  · exact o.elim
end
theorem mt_app {X : Cx} : MtR X "list.append" rAppend := mt_append
end Fw

set_option maxRecDepth 100000
set_option maxHeartbeats 4000000
namespace Fw
open PySem PySem.Spec PyProof.Rows L2
abbrev Zi (h : Heap) (z TI TO T : Addr) (f : Bool) : Prop := h.get? z = some { cls := .type "zip", dict := none, data := .fields #[rawInt T, .bool f, .bool false, .ref TI, .ref TO], slots := #[] }
section
variable {prog : Program} {w : World} {A : Around} {E : Value → Shared → Prop} {s : Shared} {z TI TO i1 i2 T : Addr} {fp1 fp2 : List Addr} {n1 n2 i : Nat} {P1 P2 : Nat → Value → Prop} {St1 St2 : Nat → Heap → Prop} {f : Bool} {oT : Obj}
end
def ZiAt (lo : Addr) (h : Heap) (z TI TO : Addr) (i : Nat) : Prop := (i = 0 ∧ IsZip h z TI TO .none ∧ ∃ a b, IsTupOf2 h TO a b) ∨ ∃ T f o, Zi h z TI TO T f ∧ h.get? T = some o ∧ lo < T
theorem ZiAt.lt {h : Heap} {z TI TO lo : Addr} {i : Nat} (q : ZiAt lo h z TI TO i) : z < h.objs.size := by
  rcases q with ⟨_, h, _⟩ | ⟨T, f, o, h, _⟩
  · exact Heap.lt_size h
  · exact Heap.lt_size h
structure Low (lo z TO i1 i2 : Addr) : Prop where
  z : z ≤ lo
  TO : TO ≤ lo
  i1 : i1 ≤ lo
  i2 : i2 ≤ lo
theorem Low.ne {lo z TO i1 i2 T : Addr} (L : Low lo z TO i1 i2) (h : lo < T) : T ≠ z ∧ T ≠ TO ∧ T ≠ i1 ∧ T ≠ i2 :=
  ⟨Nat.ne_of_gt (Nat.lt_of_le_of_lt L.z h), Nat.ne_of_gt (Nat.lt_of_le_of_lt L.TO h), Nat.ne_of_gt (Nat.lt_of_le_of_lt L.i1 h), Nat.ne_of_gt (Nat.lt_of_le_of_lt L.i2 h)⟩
section
variable {prog : Program} {w : World} {A : Around} {E : Value → Shared → Prop} {s : Shared} {lo z TI TO i1 i2 : Addr} {fp1 fp2 : List Addr} {n1 n2 i : Nat} {P1 P2 : Nat → Value → Prop} {St1 St2 : Nat → Heap → Prop}
end
section
variable {prog : Program} {w : World} {A : Around} {R : Result → Shared → Prop} {s : Shared} {lo z TI TO i1 i2 : Addr} {fp1 fp2 : List Addr} {n1 n2 : Nat} {P1 P2 : Nat → Value → Prop} {St1 St2 : Nat → Heap → Prop}
end
section
variable {prog : Program} {w : World} {A : Around} {s : Shared} {z TI TO i1 i2 : Addr} {fp1 fp2 : List Addr} {n1 n2 : Nat} {P1 P2 : Nat → Value → Prop} {St1 St2 : Nat → Heap → Prop}
end
end Fw

set_option maxRecDepth 100000
set_option maxHeartbeats 4000000
namespace Fw
open PySem PySem.Spec PyProof.Rows L2
section
variable {X : Cx} {pins : List (Addr × Obj)} {σ : L2.St} {H : Hp} {s : Shared} {x : V} {v : Value} {xs : List V}
end
section
variable {K : PySem.W.Frag}
end
def srcD (g : Gr) : D → Option (List D)
  | .str z => some (chD z)
  | d => viewL g d
def fLZ : Fn := fun ds g => match ds with
  | [d, e] => (match srcD g d, srcD g e with
    | some as, some bs => if min as.length bs.length ≤ sizeLine then .ok (.lst (zpD as bs)) g else .no
    | _, _ => .no)
  | _ => .no
section
variable {P : Program} {w : World} {K : PySem.W.Frag} {mg : Str → Option Value} {base : Heap} {Z : Sc} {k : Nat} {X : Cx} {W : WX} {pos p p2 pos2 : Pos} {e e2 : Expr} {ms : Exps}
end
end Fw

set_option maxRecDepth 100000
set_option maxHeartbeats 4000000
namespace Fw
open PySem PySem.Spec PyProof.Rows L2
def iAny (K : PySem.W.Frag) (te : TE) : TI := fun σ H R => te σ H fun x H1 => (∃ z, x = .str z ∧ R (Its z) H1) ∨ (∃ a, x = .ref a ∧ (∃ xs, SqL K H1 a xs) ∧ R (Itl K a) H1) ∨ ∃ a, x = .ref a ∧ (∃ xs, SqT K H1 a xs) ∧ R (Itt K a) H1
theorem pi_any {X : Cx} {tg e : Expr} {te : TE} (he : PE X e te) : PI X tg e (iAny X.K te) := by
  refine ⟨fun pins s σ H R Iv hh => thn (he.run pins s σ H _ Iv hh) fun v s1 ⟨y, H1, I1, r1, q1⟩ => ?_⟩
  rcases q1 with ⟨z, rfl, q⟩ | ⟨a, rfl, ⟨xs, hq⟩, q⟩ | ⟨a, rfl, ⟨xs, hq⟩, q⟩
  · obtain ⟨t, rfl⟩ := r1
    cases ha : z.cps.all (· < 128)
    · exact wpAny_pyIter_wide ha (pi_one (tk := s1.toks) I1 _ (turn_str _ z t "str_iterator" (.inr rfl)) ⟨_, Heap.get?_push_size _ rfl, rfl, rfl⟩ q)
    · exact wpAny_pyIter_ascii ha (pi_one (tk := s1.toks) I1 _ (turn_str _ z t "str_ascii_iterator" (.inl rfl)) ⟨_, Heap.get?_push_size _ rfl, rfl, rfl⟩ q)
  · cases r1
    obtain ⟨its, rv, p, hz⟩ := I1.list hq
    exact wpAny_pyIter_list p.isList (pi_one (tk := s1.toks) I1 _ (turn_list a _) ⟨_, Heap.get?_push_size _ rfl, rfl, rfl⟩ q)
  · cases r1
    obtain ⟨its, rv, p, hz⟩ := I1.tuple hq
    exact wpAny_pyIter_tuple (show s1.heap.IsTuple a its.toArray from p) (pi_one (tk := s1.toks) I1 _ (turn_tuple a _) ⟨_, Heap.get?_push_size _ rfl, rfl, rfl⟩ q)
def iEAny (K : PySem.W.Frag) (ta : TA) : TI := fun σ H R => ta σ H fun vs H1 => (∃ z, vs = [.str z] ∧ R (ItES z) H1) ∨ ∃ a xs, vs = [.ref a] ∧ SqL K H1 a xs ∧ R (Ite K a) H1
theorem pi_eany {X : Cx} {e : Expr} {ta : TA} {p pos tp : Pos} {tgs : List Expr} {k0 : Nat} (hg : Gl X "enumerate") (hm : X.mg "enumerate" = none) (ha : PA X [e] ta) (hs : starEach [e] X.env = [(false, eval e X.env)]) :
    PI X (.Tuple tgs k0 tp) (.Call (.Name "enumerate" p) [e] [] pos) (iEAny X.K ta) := by
  refine ⟨fun pins s σ H R Iv hh => Call_ (ld_blt Iv hg hm boot_enumerate (PyProof.Rows.callWith_type1 (thn (ha.run pos pins s σ H _ Iv hh) fun us s1 ⟨vs, H1, Iv1, r1, q1⟩ => ?_) hs rfl))⟩
  have fresh2 : ∀ b ∈ [s1.heap.objs.size + 1, s1.heap.objs.size], FpOk X pins H1 b := fun b hb => by
    have le : s1.heap.objs.size ≤ b := by
      rcases (show b = s1.heap.objs.size + 1 ∨ b = s1.heap.objs.size by simpa using hb) with z | z
      · rw [z]; exact Nat.le_add_right _ _
      · rw [z]; exact Nat.le_refl _
    exact Iv1.fpOk le (Iv1.hok.fresh le)
  rcases q1 with ⟨z, ex, q⟩ | ⟨a, xs, ex, hq, q⟩
  · subst ex
    cases r1 with
    | cons r rr =>
      cases rr
      obtain ⟨t, rfl⟩ := r
      exact call_enumerate_str fun h' he hit hsz hk => wpAny_pyIter_enum he
        ⟨s1.heap.objs.size + 1, [s1.heap.objs.size + 1, s1.heap.objs.size], _, _, H1, rfl, Iv1.kept (t' := s1.toks) hk, turn_ES z t (s1.heap.objs.size + 1) s1.heap.objs.size, ⟨⟨.none, he⟩, hit, Nat.succ_ne_self _⟩, fresh2, q⟩
  · subst ex
    cases r1 with
    | cons r rr =>
      cases rr
      cases r
      obtain ⟨its, rv, p', hz⟩ := Iv1.list hq
      exact call_enumerate_list p'.isList fun h' he hit hsz hk => wpAny_pyIter_enum he
        ⟨s1.heap.objs.size + 1, [s1.heap.objs.size + 1, s1.heap.objs.size], _, _, H1, rfl, Iv1.kept (t' := s1.toks) hk, turn_enum a (s1.heap.objs.size + 1) s1.heap.objs.size, ⟨⟨.none, he⟩, hit, Nat.succ_ne_self _⟩, fresh2, q⟩
def iA (d : D) (g : Gr) : Option (List D × (Gr → Prop)) := match d with
  | .str z => some (chD z, kpT)
  | .tup ds => some (ds, kpT)
  | .lst ds => some (ds, kpT)
  | d => (viewL g d).map fun ds => (ds, kpL d ds)
def iEA (ds : List D) (g : Gr) : Option (List D × (Gr → Prop)) := match ds with
  | [.str z] => some (enD 0 (chD z), kpT)
  | [.lst es] => some (enD 0 es, kpT)
  | [d] => (viewL g d).map fun es => (enD 0 es, kpL d es)
  | _ => none
section
variable {P : Program} {w : World} {K : PySem.W.Frag} {mg : Str → Option Value} {base : Heap} {Z : Sc} {hot : Option (Nat × Str)} {k : Nat} {X : Cx} {W : WX} {pos p : Pos} {tg e : Expr} {m : Exp} {ms : Exps} {tgs : List Expr} {k0 : Nat} {tp : Pos}
theorem xSrcA (h : RE X W e m) : RSrc X W tg e (srcOf m iA) := by
  refine pi_weak (pi_any h) ?_
  rintro σ H R ⟨w1, ρ, g, S0, L, o⟩
  refine bindSrc S0 L o fun d g' v H' w' ds kp le S' r e q => ?_
  unfold iA at e
  split at e
  · cases e
    exact .inl ⟨_, rep_str r, q _ (fol_str _)⟩
  · rename_i es
    cases e
    have e2 : viewT (.tup ds) = some ds := rfl
    obtain ⟨a, xs, rfl, h1, _⟩ := viewT_ok S' r e2
    exact .inr (.inr ⟨a, rfl, ⟨xs, h1⟩, q _ (fol_tup S' r e2 rfl)⟩)
  · rename_i es
    cases e
    have e2 : viewL g' (.lst ds) = some ds := rfl
    obtain ⟨a, xs, rfl, h1, _⟩ := viewL_ok S' r e2
    exact .inr (.inl ⟨a, rfl, ⟨xs, .inl h1⟩, q _ ((fol_list S' r e2 rfl).kpT_of fun _ => rfl)⟩)
  · simp only [Option.map_eq_some_iff] at e
    obtain ⟨es, e2, e3⟩ := e
    cases e3
    obtain ⟨a, xs, rfl, h1, _⟩ := viewL_ok S' r e2
    exact .inr (.inl ⟨a, rfl, ⟨xs, .inl h1⟩, q _ (fol_list S' r e2 rfl)⟩)
theorem xSrcEA (C : Cc P w K mg base Z hot k X W) (i : Nat) (fr : mg "enumerate" = none) (ha : RA X W [e] ms) (hN : Z.gl[i]? = some "enumerate" := by rfl) (hs : starEach [e] X.env = [(false, eval e X.env)] := by rfl) : RSrc X W (.Tuple tgs k0 tp) (.Call (.Name "enumerate" p) [e] [] pos) (srcA ms iEA) := by
  obtain ⟨h1, h2⟩ := C.glo hN
  refine pi_weak (pi_eany h1 (by rw [C.pm]; exact fr) ha hs) ?_
  rintro σ H R ⟨w1, ρ, g, S0, L, o⟩
  refine bindSrcA S0 L o fun es g' vs H' w' ds kp le S' r e q => ?_
  unfold iEA at e
  split at e
  · cases e
    obtain ⟨v, rfl, hv⟩ := repl1 r
    exact .inl ⟨_, by rw [rep_str hv], q _ (fol_ES _)⟩
  · rename_i es
    cases e
    obtain ⟨v, rfl, hv⟩ := repl1 r
    have e2 : viewL g' (.lst es) = some es := rfl
    obtain ⟨a, xs, rfl, h1, _⟩ := viewL_ok S' hv e2
    exact .inr ⟨a, xs, rfl, .inl h1, q _ ((fol_enum S' hv e2 rfl).kpT_of fun _ => rfl)⟩
  · simp only [Option.map_eq_some_iff] at e
    obtain ⟨es, e2, e3⟩ := e
    cases e3
    obtain ⟨v, rfl, hv⟩ := repl1 r
    obtain ⟨a, xs, rfl, h1, _⟩ := viewL_ok S' hv e2
    exact .inr ⟨a, xs, rfl, .inl h1, q _ (fol_enum S' hv e2 rfl)⟩
  · cases e
end
end Fw

set_option maxRecDepth 100000
set_option maxHeartbeats 4000000
namespace Fw
open PySem PySem.Spec PyProof.Rows L2
section
variable {ρ : En} {g g1 : Gr} {d d1 d2 : D} {a b c : Exp} {as : Exps} {f : Fn} {op op2 : D → D → Gr → R}
@[simp] theorem br_t {x y : R} : (D.bl true).br x y = x := rfl
variable {p q : Stm} {t : Tg}
theorem pure_ret {n k : Nat} {m : Stm} {ds : List D} {d : D} {g g2 : Gr} (hl : ds.length = n) (h : m (ds.map some ++ List.replicate (k - n) none) g = .ret d (g ++ g2)) (lo : d.low g.length = true) : pureF (fnOf n k m) ds g = .ok d g := by
  unfold pureF fnOf
  rw [if_pos hl, h]
  simp [lo]
theorem pure_ret0 {n k : Nat} {m : Stm} {ds : List D} {d : D} {g : Gr} (hl : ds.length = n) (h : m (ds.map some ++ List.replicate (k - n) none) g = .ret d g) (lo : d.low g.length = true) : pureF (fnOf n k m) ds g = .ok d g := by
  refine pure_ret (g2 := []) hl ?_ lo
  rw [h, List.append_nil]
end
section
variable {g : Gr} {i j : Int} {x y : Str}
@[simp] theorem o_lt : opLt (.int i) (.int j) g = .ok (.bl (decide (i < j))) g := rfl
@[simp] theorem o_le : opLe (.int i) (.int j) g = .ok (.bl (decide (i ≤ j))) g := rfl
@[simp] theorem o_gt : opGt (.int i) (.int j) g = .ok (.bl (decide (j < i))) g := rfl
@[simp] theorem o_ge : opGe (.int i) (.int j) g = .ok (.bl (decide (j ≤ i))) g := rfl
@[simp] theorem o_addI : opAdd (.int i) (.int j) g = .ok (.int (i + j)) g := rfl
@[simp] theorem o_sub : opSub (.int i) (.int j) g = .ok (.int (i - j)) g := rfl
@[simp] theorem o_neg : uNeg (.int i) g = .ok (.int (-i)) g := rfl
theorem o_mul (h : (-18446744073709551616 < i ∧ i < 18446744073709551616) ∨ (-18446744073709551616 < j ∧ j < 18446744073709551616)) : opMul (.int i) (.int j) g = .ok (.int (i * j)) g := if_pos h
theorem o_mod (h : 0 < j) : opMod (.int i) (.int j) g = .ok (.int (i % j)) g := by
  have e : opMod (.int i) (.int j) g = .ok (.int (i.fmod j)) g := if_pos (show j ≠ 0 by omega)
  rw [e, Int.fmod_eq_emod_of_nonneg i (by omega)]
theorem o_div (h : 0 < j) (h2 : j < 1073741824) : opDiv (.int i) (.int j) g = .ok (.int (i / j)) g := by
  have e : opDiv (.int i) (.int j) g = .ok (.int (i.fdiv j)) g := if_pos (show j ≠ 0 ∧ j.natAbs < 1073741824 by omega)
  rw [e, Int.fdiv_eq_ediv_of_nonneg i (by omega)]
theorem o_pow (h : 0 ≤ j ∧ j ≤ 1000000 ∧ i.natAbs < 18446744073709551616) : opPow (.int i) (.int j) g = .ok (.int (i ^ j.toNat)) g := if_pos h
theorem o_addS (h : x.length + y.length ≤ sizeLine) : opAdd (.str x) (.str y) g = .ok (.str (x ++ y)) g := if_pos h
@[simp] theorem o_eqS : opEq (.str x) (.str y) g = .ok (.bl (x == y)) g := rfl
@[simp] theorem o_neS : opNe (.str x) (.str y) g = .ok (.bl (!(x == y))) g := rfl
@[simp] theorem o_eqI : opEq (.int i) (.int j) g = .ok (.bl (i == j)) g := rfl
@[simp] theorem o_neI : opNe (.int i) (.int j) g = .ok (.bl (!(i == j))) g := rfl
@[simp] theorem f_intI : fInt [.int i] g = .ok (.int i) g := rfl
@[simp] theorem f_intB {b : Bool} : fInt [.bl b] g = .ok (.int (if b then 1 else 0)) g := rfl
theorem f_str (h : i.natAbs.log2 < 1920) : fStr [.int i] g = .ok (.str (toString i : String)) g := if_pos h
@[simp] theorem f_lenL {ds : List D} : fLen [.lst ds] g = .ok (.int ds.length) g := rfl
@[simp] theorem f_lenT {ds : List D} : fLen [.tup ds] g = .ok (.int ds.length) g := rfl
theorem f_lenS (h : x.length ≤ sizeLine) : fLen [.str x] g = .ok (.int x.length) g := if_pos h
@[simp] theorem f_max : fMax2 [.int i, .int j] g = .ok (.int (if j > i then j else i)) g := rfl
@[simp] theorem f_min : fMin2 [.int i, .int j] g = .ok (.int (if j < i then j else i)) g := rfl
theorem f_lst {ds : List D} (h : ds.length ≤ sizeLine) : fLst ds g = .ok (.lst ds) g := if_pos h
theorem f_tup {ds : List D} (h : ds.length ≤ sizeLine) : fTup ds g = .ok (.tup ds) g := if_pos h
theorem f_cel {ds : List D} (h : ds.length ≤ sizeLine) : fCel ds g = .ok (.obj g.length) (g ++ [.lst ds]) := if_pos h
theorem atI_nat {α : Type} {xs : List α} {k : Nat} {d : α} (h : xs[k]? = some d) : L2.atI xs (k : Int) = some d := by
  have hk := (List.getElem?_eq_some_iff.mp h).1
  unfold L2.atI L2.ixN
  rw [if_pos (Int.natCast_nonneg k), if_pos (by omega)]
  simpa using h
theorem o_ixL {ds : List D} {k : Nat} {d : D} (h : ds[k]? = some d) : opIx (.lst ds) (.int k) g = .ok d g := by
  unfold opIx
  simp only [viewA, viewT, viewL, atI_nat h]
theorem o_ixT {ds : List D} {k : Nat} {d : D} (h : ds[k]? = some d) : opIx (.tup ds) (.int k) g = .ok d g := by
  unfold opIx
  simp only [viewA, viewT, atI_nat h]
theorem o_ixS {k c : Nat} (hz : x.length ≤ sizeLine) (h : x.cps[k]? = some c) : opIx (.str x) (.int k) g = .ok (.str ⟨#[c]⟩) g := by
  have e : x.cps.toList[k]? = some c := by rw [Array.getElem?_toList]; exact h
  unfold opIx
  simp only [if_pos hz, atI_nat e]
theorem sizeLine_big : 8388608 ≤ sizeLine := by decide
theorem loop_inv {kp : Gr → Prop} {t : Tg} {b : Stm} (Pv : Nat → En → Gr → Prop) (ds : List D) (hk : ∀ n ρ g, Pv n ρ g → kp g)
    (step : ∀ n ρ g d, ds[n]? = some d → Pv n ρ g → ∃ ρ1 g1 ρ2 g2, t d ρ g = some (ρ1, g1) ∧ (b ρ1 g1 = .nx ρ2 g2 ∨ b ρ1 g1 = .ct ρ2 g2) ∧ Pv (n + 1) ρ2 g2) :
    ∀ (m n : Nat) (ρ : En) (g : Gr), n + m = ds.length → Pv n ρ g → ∃ ρ' g', sLoop kp t b (ds.drop n) ρ g = .nx ρ' g' ∧ Pv ds.length ρ' g'
  | 0, n, ρ, g, e, h => by
    have : n = ds.length := by omega
    subst this
    rw [List.drop_length]
    exact ⟨ρ, g, by unfold sLoop; rw [if_pos (hk _ _ _ h)], h⟩
  | m + 1, n, ρ, g, e, h => by
    have hn : n < ds.length := by omega
    obtain ⟨ρ1, g1, ρ2, g2, e1, e2, e3⟩ := step n ρ g ds[n] (by simp [hn]) h
    obtain ⟨ρ', g', q1, q2⟩ := loop_inv Pv ds hk step m (n + 1) ρ2 g2 (by omega) e3
    refine ⟨ρ', g', ?_, q2⟩
    rw [List.drop_eq_getElem_cons hn]
    unfold sLoop
    rw [if_pos (hk _ _ _ h), e1]
    rcases e2 with e2 | e2
    · simp only [e2]; exact q1
    · simp only [e2]; exact q1
end
section
variable {g : Gr}
@[simp] theorem snoc_at (c : Cl) : (g ++ [c])[g.length]? = some c := by simp
@[simp] theorem snoc_set (c e : Cl) : (g ++ [c]).set g.length e = g ++ [e] := by
  rw [List.set_append_right _ _ (Nat.le_refl _)]; simp
@[simp] theorem tyL_snoc (ds : List D) : tyL (.obj g.length) (g ++ [.lst ds]) = true := by simp [tyL, viewL]
theorem app_snoc {ds : List D} {e : D} (h : ds.length < sizeLine) : mAppend (.obj g.length) [e] (g ++ [.lst ds]) = .ok .non (g ++ [.lst (ds ++ [e])]) := by
  simp [mAppend, viewC, h]
theorem rangeD_get {lo : Int} {n i : Nat} {d : D} (h : (rangeD lo n)[i]? = some d) : d = .int (lo + (i : Int)) ∧ i < n := by
  have hi : i < n := by have := (List.getElem?_eq_some_iff.mp h).1; rwa [rangeD_len] at this
  unfold rangeD at h
  rw [List.getElem?_map, List.getElem?_range hi] at h
  exact ⟨by simpa using h.symm, hi⟩
end
end Fw

set_option maxRecDepth 100000
set_option maxHeartbeats 4000000
namespace Fw
open PySem PySem.Spec PyProof.Rows
def tx (l : List Nat) : Str := ⟨l.toArray⟩
theorem tx_cps (l : List Nat) : (tx l).cps.toList = l := by simp [tx]
theorem tx_len (l : List Nat) : (tx l).length = l.length := by simp [tx, Str.length]
theorem tx_of (z : Str) : tx z.cps.toList = z := by cases z; simp [tx]
theorem tx_inj {a b : List Nat} (h : tx a = tx b) : a = b := by
  have := congrArg (fun z : Str => z.cps.toList) h
  simpa [tx] using this
theorem tx_app (a b : List Nat) : tx a ++ tx b = tx (a ++ b) := by
  show (⟨(tx a).cps ++ (tx b).cps⟩ : Str) = _
  simp [tx]
theorem glue_fold (l : List Str) : ∀ acc : Array Nat, (l.foldl (fun acc p => acc ++ (tx []).cps ++ p.cps) acc).toList = acc.toList ++ (l.map fun z => z.cps.toList).flatten := by
  induction l with
  | nil => intro acc; simp
  | cons z l ih => intro acc; rw [List.foldl_cons, ih]; simp [tx]
theorem join_e (ys : List Str) : Txt.join (tx []) ys = tx (ys.map fun z => z.cps.toList).flatten := by
  cases ys with
  | nil => simp [Txt.join, Builtin.Str.glued, tx, Str.empty]
  | cons z l =>
    have h := glue_fold l z.cps
    show (⟨(l.foldl (fun acc p => acc ++ (tx []).cps ++ p.cps) z.cps)⟩ : Str) = _
    have e : (l.foldl (fun acc p => acc ++ (tx []).cps ++ p.cps) z.cps) = (((z :: l).map fun z => z.cps.toList).flatten).toArray := by
      apply Array.toList_inj.mp
      rw [h]; simp
    rw [e]; rfl
end Fw

set_option maxRecDepth 100000
set_option maxHeartbeats 4000000
namespace Fw
open PySem PySem.Spec PyProof.Rows PySem.NumText
def nm (m : Nat) : List Nat := (Nat.toDigits 10 m).map Char.toNat
theorem nm_str (m : Nat) : ((toString ((m : Nat) : Int) : String) : Str) = tx (nm m) := by
  rw [← tx_of ((toString ((m : Nat) : Int) : String) : Str)]
  congr 1
  exact PySem.W.KIN.signs_num m
theorem nm_dig (m : Nat) : AllDigits (nm m) := by
  intro c hc
  obtain ⟨ch, hch, e⟩ := List.mem_map.mp hc
  rw [← e]
  exact digit_range (Nat.isDigit_of_mem_toDigits (by decide) (by decide) hch)
theorem nm_val (m : Nat) : digitsVal (nm m) = m := PySem.W.KIN.val_back m
theorem nm_low {m : Nat} (h : m < 10) : nm m = [48 + m] := by
  have : ∀ d : Nat, d < 10 → nm d = [48 + d] := by decide
  exact this m h
theorem nm_step {m : Nat} (h : 10 ≤ m) : nm m = nm (m / 10) ++ [48 + m % 10] := by
  have hm : m % 10 < 10 := Nat.mod_lt m (by decide)
  have t : Nat.toDigits 10 (m / 10) ++ Nat.toDigits 10 (m % 10) = Nat.toDigits 10 (10 * (m / 10) + m % 10) := Nat.toDigits_append_toDigits (by decide) (by omega) hm
  rw [Nat.div_add_mod] at t
  have e := nm_low hm
  unfold nm at e ⊢
  rw [← t, List.map_append, e]
theorem nm_len : ∀ (k m : Nat), m < 10 ^ (k + 1) → (nm m).length ≤ k + 1
  | 0, m, h => by rw [nm_low (by simpa using h)]; simp
  | k + 1, m, h => by
    by_cases h2 : m < 10
    · rw [nm_low h2]; simp
    · rw [nm_step (by omega), List.length_append, List.length_singleton]
      have := nm_len k (m / 10) (by rw [Nat.pow_succ] at h; omega)
      omega
theorem nm_ne (m : Nat) : nm m ≠ [] := by
  by_cases h : m < 10
  · rw [nm_low h]; simp
  · rw [nm_step (by omega)]; simp
theorem nm_head : ∀ (m : Nat), m ≠ 0 → (nm m)[0]? ≠ some 48 := by
  intro m
  induction m using Nat.strongRecOn with
  | _ m ih =>
    intro h0 e
    by_cases h : m < 10
    · rw [nm_low h] at e
      simp at e; omega
    · rw [nm_step (by omega)] at e
      have l : 0 < (nm (m / 10)).length := List.length_pos_iff.mpr (nm_ne _)
      rw [List.getElem?_append_left l] at e
      exact ih (m / 10) (by omega) (by omega) e
theorem nm_int {m : Nat} (h : (nm m).length ≤ 4300) : PySem.intText? (tx (nm m)) = some (m : Int) := by
  rw [intText_digits (x := tx (nm m)) (by rw [tx_cps]; exact nm_dig m) (by rw [tx_cps]; exact nm_ne m) (by rw [tx_len]; exact h), tx_cps, nm_val]
theorem log_small {m : Nat} (h : m < 1000000000000000000) : ((m : Int)).natAbs.log2 < 1920 := by
  show Nat.log2 m < 1920
  by_cases h0 : m = 0
  · subst h0; decide
  · rw [Nat.log2_lt h0]
    refine Nat.lt_of_lt_of_le h ?_
    exact Nat.le_trans (show 1000000000000000000 ≤ 2 ^ 60 by decide) (Nat.pow_le_pow_right (by decide) (by decide))
theorem f_strN {m : Nat} (h : m < 1000000000000000000) (g : Gr) : fStr [.int (m : Int)] g = .ok (.str (tx (nm m))) g := by
  rw [f_str (log_small h), nm_str]
end Fw

set_option maxRecDepth 100000
set_option maxHeartbeats 4000000
namespace Fw
open PySem PySem.Spec PyProof.Rows
def fBinR (op : D → D → Gr → R) (x : D) : R → R
  | .ok y g => op x y g
  | .err c g => .err c g
  | .no => .no
def fBinL (op : D → D → Gr → R) (b : Exp) (ρ : En) : R → R
  | .ok x g => fBinR op x (b ρ g)
  | .err c g => .err c g
  | .no => .no
def fUn (op : D → Gr → R) : R → R
  | .ok x g => op x g
  | .err c g => .err c g
  | .no => .no
def fAnd (b : Exp) (ρ : En) : R → R
  | .ok x g => x.br (b ρ g) (.ok (.bl false) g)
  | .err c g => .err c g
  | .no => .no
def fOr (b : Exp) (ρ : En) : R → R
  | .ok x g => x.br (.ok (.bl true) g) (b ρ g)
  | .err c g => .err c g
  | .no => .no
def fNot : R → R
  | .ok (.bl b) g => .ok (.bl (!b)) g
  | .ok _ _ => .no
  | .err c g => .err c g
  | .no => .no
def fIfE (a b : Exp) (ρ : En) : R → R
  | .ok x g => x.br (a ρ g) (b ρ g)
  | .err c g => .err c g
  | .no => .no
def fArg (f : Fn) : RL → R
  | .ok ds g => f ds g
  | .err c g => .err c g
  | .no => .no
def fConsR (d : D) : RL → RL
  | .ok ds g => .ok (d :: ds) g
  | .err c g => .err c g
  | .no => .no
def fConsL (as : Exps) (ρ : En) : R → RL
  | .ok d g => fConsR d (as ρ g)
  | .err c g => .err c g
  | .no => .no
def fBmA (m : D → List D → Gr → R) (d : D) : RL → R
  | .ok ds g => m d ds g
  | .err c g => .err c g
  | .no => .no
def fBm (ty : D → Gr → Bool) (m : D → List D → Gr → R) (as : Exps) (ρ : En) : R → R
  | .ok d g => if ty d g = true then fBmA m d (as ρ g) else .no
  | .err c g => .err c g
  | .no => .no
def frzD (g : Gr) : D → R
  | .obj l => (match g[l]? with
    | some (.lst ds) => .ok (.lst ds) (g.set l .dead)
    | _ => .no)
  | d => .ok d g
def fFrz : R → R
  | .ok d g => frzD g d
  | .err c g => .err c g
  | .no => .no
def fCh2 (q : D → D → Gr → R) (y : D) (c : Exp) (ρ : En) : R → R
  | .ok (.bl true) g => fBinR q y (c ρ g)
  | .ok (.bl false) g => .ok (.bl false) g
  | .ok _ _ => .no
  | .err c g => .err c g
  | .no => .no
def fCh1 (p q : D → D → Gr → R) (x : D) (c : Exp) (ρ : En) : R → R
  | .ok y g => fCh2 q y c ρ (p x y g)
  | .err c g => .err c g
  | .no => .no
def fCh0 (p q : D → D → Gr → R) (b c : Exp) (ρ : En) : R → R
  | .ok x g => fCh1 p q x c ρ (b ρ g)
  | .err c g => .err c g
  | .no => .no
def fSl3 (d : D) (i : Int) : R → R
  | .ok (.int j) g => cutOp (some i) (some j) d g
  | .ok _ _ => .no
  | .err c g => .err c g
  | .no => .no
def fSl2 (mh : Exp) (ρ : En) (d : D) : R → R
  | .ok (.int i) g => fSl3 d i (mh ρ g)
  | .ok _ _ => .no
  | .err c g => .err c g
  | .no => .no
def fSl1 (ml mh : Exp) (ρ : En) : R → R
  | .ok d g => fSl2 mh ρ d (ml ρ g)
  | .err c g => .err c g
  | .no => .no
def fSlL2 (d : D) : R → R
  | .ok (.int i) g => cutOp (some i) none d g
  | .ok _ _ => .no
  | .err c g => .err c g
  | .no => .no
def fSlL1 (ml : Exp) (ρ : En) : R → R
  | .ok d g => fSlL2 d (ml ρ g)
  | .err c g => .err c g
  | .no => .no
def fSlU2 (d : D) : R → R
  | .ok (.int i) g => cutOp none (some i) d g
  | .ok _ _ => .no
  | .err c g => .err c g
  | .no => .no
def fSlU1 (mh : Exp) (ρ : En) : R → R
  | .ok d g => fSlU2 d (mh ρ g)
  | .err c g => .err c g
  | .no => .no
def fSeq (q : Stm) : S → S
  | .nx ρ g => q ρ g
  | s => s
def fRet (ρ : En) : R → S
  | .ok d g => .ret d g
  | .err c g => .err c ρ g
  | .no => .no
def fDo (ρ : En) : R → S
  | .ok _ g => .nx ρ g
  | .err c g => .err c ρ g
  | .no => .no
def fTg : Option (En × Gr) → S
  | some (ρ, g) => .nx ρ g
  | none => .no
def fAsg (t : Tg) (ρ : En) : R → S
  | .ok d g => fTg (t d ρ g)
  | .err c g => .err c ρ g
  | .no => .no
def fIf (p q : Stm) (ρ : En) : R → S
  | .ok x g => x.brS (p ρ g) (q ρ g)
  | .err c g => .err c ρ g
  | .no => .no
def fGs (ts : Tgs) (ds : List D) : Option (En × Gr) → Option (En × Gr)
  | some (ρ, g) => ts ds ρ g
  | none => none
noncomputable def fFor (t : Tg) (b : Stm) (ρ : En) : RI → S
  | .ok ds kp g => sLoop kp t b ds ρ g
  | .err c g => .err c ρ g
  | .no => .no
def fSrc2 : Gr → Option (List D × (Gr → Prop)) → RI
  | g, some (xs, kp) => .ok xs kp g
  | _, none => .no
def fSrc (f : D → Gr → Option (List D × (Gr → Prop))) : R → RI
  | .ok d g => fSrc2 g (f d g)
  | .err c g => .err c g
  | .no => .no
def fSrcA (f : List D → Gr → Option (List D × (Gr → Prop))) : RL → RI
  | .ok ds g => fSrc2 g (f ds g)
  | .err c g => .err c g
  | .no => .no
noncomputable def fLc (fin : List D → Gr → R) (vs : List Nat) (t : Tg) (c e : Exp) (ρ : En) : RI → R
  | .ok ds kp g => lcLoop kp t c e (wipeR ρ vs) fin ds [] g
  | .err c g => .err c g
  | .no => .no
def fEnd : S → R
  | .nx _ g' => .ok .non g'
  | .ret d g' => .ok d g'
  | .err c _ g' => .err c g'
  | _ => .no
section
variable {ρ ρ' : En} {g g1 : Gr} {d d1 d2 x y : D} {a b c : Exp} {as : Exps} {f : Fn} {op op2 : D → D → Gr → R} {cc : Str} {ds : List D} {p q : Stm} {t : Tg} {ts : Tgs} {u1 : D → Gr → R} {src : Src}
theorem v_c : eC d ρ g = .ok d g := rfl
theorem v_bin : eBin op a b ρ g = fBinL op b ρ (a ρ g) := by
  show R.bind (a ρ g) _ = _
  cases a ρ g with
  | ok d g =>
    show R.bind (b ρ g) _ = fBinR op d (b ρ g)
    cases b ρ g <;> rfl
  | _ => rfl
theorem v_un : eUn u1 a ρ g = fUn u1 (a ρ g) := by unfold eUn fUn; cases a ρ g <;> rfl
theorem v_and : eAnd a b ρ g = fAnd b ρ (a ρ g) := by unfold eAnd fAnd; cases a ρ g <;> rfl
theorem v_or : eOr a b ρ g = fOr b ρ (a ρ g) := by unfold eOr fOr; cases a ρ g <;> rfl
theorem v_not : eNot a ρ g = fNot (a ρ g) := by
  unfold eNot fNot; cases a ρ g with
  | ok d g => cases d with
    | bl b => cases b <;> rfl
    | _ => rfl
  | _ => rfl
theorem v_ife : eIf c a b ρ g = fIfE a b ρ (c ρ g) := by unfold eIf fIfE; cases c ρ g <;> rfl
theorem v_args : eArgs f as ρ g = fArg f (as ρ g) := by unfold eArgs fArg; cases as ρ g <;> rfl
theorem v_nil : aNil ρ g = .ok [] g := rfl
theorem cons_eq {r : R} {h : Gr → RL} : (match r with
  | .ok d g1 => (match h g1 with
    | .ok ds g2 => RL.ok (d :: ds) g2
    | .err c g2 => .err c g2
    | .no => .no)
  | .err c g1 => .err c g1
  | .no => .no) = (match r with
  | .ok d g1 => fConsR d (h g1)
  | .err c g1 => .err c g1
  | .no => .no) := by
  cases r with
  | ok d g => dsimp only; cases h g <;> rfl
  | _ => rfl
theorem v_cons : aCons a as ρ g = fConsL as ρ (a ρ g) := (cons_eq (r := a ρ g) (h := as ρ)).trans (by cases a ρ g <;> rfl)
theorem v_bm {ty : D → Gr → Bool} {m : D → List D → Gr → R} : eBm ty m a as ρ g = fBm ty m as ρ (a ρ g) := by
  show R.bind (a ρ g) _ = _
  cases a ρ g with
  | ok d g =>
    show (if ty d g = true then RL.bind (as ρ g) _ else _) = (if ty d g = true then fBmA m d (as ρ g) else _)
    cases as ρ g <;> rfl
  | _ => rfl
theorem v_frz : eFrz a ρ g = fFrz (a ρ g) := by unfold eFrz fFrz frzD; cases a ρ g <;> rfl
theorem v_chain : eChain op op2 a b c ρ g = fCh0 op op2 b c ρ (a ρ g) := by
  show R.bind (a ρ g) _ = _
  cases a ρ g with
  | ok x g =>
    show R.bind (b ρ g) _ = fCh1 op op2 x c ρ (b ρ g)
    cases b ρ g with
    | ok y g =>
      show R.bind (op x y g) _ = fCh2 op2 y c ρ (op x y g)
      cases op x y g with
      | ok z g =>
        cases z with
        | bl k =>
          cases k with
          | true =>
            show R.bind (c ρ g) _ = fBinR op2 y (c ρ g)
            cases c ρ g <;> rfl
          | false => rfl
        | _ => rfl
      | _ => rfl
    | _ => rfl
  | _ => rfl
theorem v_slLU : eSlLU a b c ρ g = fSl1 b c ρ (a ρ g) := by
  show R.bind (a ρ g) _ = _
  cases a ρ g with
  | ok x g =>
    show R.bind (b ρ g) _ = fSl2 c ρ x (b ρ g)
    cases b ρ g with
    | ok y g =>
      cases y with
      | int i =>
        show R.bind (c ρ g) _ = fSl3 x i (c ρ g)
        cases c ρ g with
        | ok z g => cases z <;> rfl
        | _ => rfl
      | _ => rfl
    | _ => rfl
  | _ => rfl
theorem v_slL : eSlL a b ρ g = fSlL1 b ρ (a ρ g) := by
  show R.bind (a ρ g) _ = _
  cases a ρ g with
  | ok x g =>
    show R.bind (b ρ g) _ = fSlL2 x (b ρ g)
    cases b ρ g with
    | ok y g => cases y <;> rfl
    | _ => rfl
  | _ => rfl
theorem v_slU : eSlU a b ρ g = fSlU1 b ρ (a ρ g) := by
  show R.bind (a ρ g) _ = _
  cases a ρ g with
  | ok x g =>
    show R.bind (b ρ g) _ = fSlU2 x (b ρ g)
    cases b ρ g with
    | ok y g => cases y <;> rfl
    | _ => rfl
  | _ => rfl
theorem v_lc {fin : List D → Gr → R} {vs : List Nat} : eLc fin src vs t c a ρ g = fLc fin vs t c a ρ (src ρ g) := by unfold eLc fLc; cases src ρ g <;> rfl
theorem v_seq : sSeq p q ρ g = fSeq q (p ρ g) := by unfold sSeq fSeq; cases p ρ g <;> rfl
theorem v_snil : sNil ρ g = .nx ρ g := rfl
theorem v_ret : sRet a ρ g = fRet ρ (a ρ g) := by unfold sRet fRet; cases a ρ g <;> rfl
theorem v_retN : sRetN ρ g = .ret .non g := rfl
theorem v_brk : sBrk ρ g = .bk ρ g := rfl
theorem v_cnt : sCnt ρ g = .ct ρ g := rfl
theorem v_do : sDo a ρ g = fDo ρ (a ρ g) := by unfold sDo fDo; cases a ρ g <;> rfl
theorem v_asg : sAsg t a ρ g = fAsg t ρ (a ρ g) := by
  show R.toS (a ρ g) ρ _ = _
  cases a ρ g with
  | ok d g =>
    show (match t d ρ g with | some (ρ2, g2) => S.nx ρ2 g2 | none => S.no) = fTg (t d ρ g)
    cases t d ρ g <;> rfl
  | _ => rfl
theorem v_if : sIf c p q ρ g = fIf p q ρ (c ρ g) := by unfold sIf fIf; cases c ρ g <;> rfl
theorem v_for : sFor src t p ρ g = fFor t p ρ (src ρ g) := by unfold sFor fFor; cases src ρ g <;> rfl
theorem srcOf_eq {r : R} {f : D → Gr → Option (List D × (Gr → Prop))} : (match r with
  | .ok d g1 => (match f d g1 with
    | some (ds, kp) => RI.ok ds kp g1
    | none => .no)
  | .err c g1 => .err c g1
  | .no => .no) = fSrc f r := by
  cases r with
  | ok d g =>
    show (match f d g with | some (ds, kp) => RI.ok ds kp g | none => .no) = fSrc2 g (f d g)
    cases f d g <;> rfl
  | _ => rfl
theorem v_srcOf {f : D → Gr → Option (List D × (Gr → Prop))} : srcOf a f ρ g = fSrc f (a ρ g) := (by unfold srcOf; rfl : srcOf a f ρ g = _).trans srcOf_eq
theorem srcA_eq {r : RL} {f : List D → Gr → Option (List D × (Gr → Prop))} : (match r with
  | .ok d g1 => (match f d g1 with
    | some (ds, kp) => RI.ok ds kp g1
    | none => .no)
  | .err c g1 => .err c g1
  | .no => .no) = fSrcA f r := by
  cases r with
  | ok d g =>
    show (match f d g with | some (ds, kp) => RI.ok ds kp g | none => .no) = fSrc2 g (f d g)
    cases f d g <;> rfl
  | _ => rfl
theorem v_srcA {f : List D → Gr → Option (List D × (Gr → Prop))} : srcA as f ρ g = fSrcA f (as ρ g) := (by unfold srcA; rfl : srcA as f ρ g = _).trans srcA_eq
theorem v_fn {n k : Nat} {m : Stm} (h : ds.length = n) : fnOf n k m ds g = fEnd (m (ds.map some ++ List.replicate (k - n) none) g) := by
  unfold fnOf fEnd; rw [if_pos h] <;> rfl
theorem w_binL : fBinL op b ρ (.ok x g) = fBinR op x (b ρ g) := rfl
theorem w_binR : fBinR op x (.ok y g) = op x y g := rfl
theorem w_un : fUn u1 (.ok x g) = u1 x g := rfl
theorem w_andT : fAnd b ρ (.ok (.bl true) g) = b ρ g := rfl
theorem w_andF : fAnd b ρ (.ok (.bl false) g) = .ok (.bl false) g := rfl
theorem w_orT : fOr b ρ (.ok (.bl true) g) = .ok (.bl true) g := rfl
theorem w_orF : fOr b ρ (.ok (.bl false) g) = b ρ g := rfl
theorem w_not {k : Bool} : fNot (.ok (.bl k) g) = .ok (.bl (!k)) g := rfl
theorem w_ifT : fIfE a b ρ (.ok (.bl true) g) = a ρ g := rfl
theorem w_ifF : fIfE a b ρ (.ok (.bl false) g) = b ρ g := rfl
theorem w_arg : fArg f (.ok ds g) = f ds g := rfl
theorem w_consL : fConsL as ρ (.ok d g) = fConsR d (as ρ g) := rfl
theorem w_consR : fConsR d (.ok ds g) = .ok (d :: ds) g := rfl
theorem w_bmA {m : D → List D → Gr → R} : fBmA m d (.ok ds g) = m d ds g := rfl
theorem w_bmS {m : D → List D → Gr → R} {z : Str} : fBm tyS m as ρ (.ok (.str z) g) = fBmA m (.str z) (as ρ g) := rfl
theorem w_bm {ty : D → Gr → Bool} {m : D → List D → Gr → R} (h : ty d g = true) : fBm ty m as ρ (.ok d g) = fBmA m d (as ρ g) := if_pos h
theorem w_frz : fFrz (.ok d g) = frzD g d := rfl
theorem w_ch0 : fCh0 op op2 b c ρ (.ok x g) = fCh1 op op2 x c ρ (b ρ g) := rfl
theorem w_ch1 : fCh1 op op2 x c ρ (.ok y g) = fCh2 op2 y c ρ (op x y g) := rfl
theorem w_ch2T : fCh2 op2 y c ρ (.ok (.bl true) g) = fBinR op2 y (c ρ g) := rfl
theorem w_ch2F : fCh2 op2 y c ρ (.ok (.bl false) g) = .ok (.bl false) g := rfl
theorem w_sl1 : fSl1 b c ρ (.ok d g) = fSl2 c ρ d (b ρ g) := rfl
theorem w_sl2 {i : Int} : fSl2 c ρ d (.ok (.int i) g) = fSl3 d i (c ρ g) := rfl
theorem w_sl3 {i j : Int} : fSl3 d i (.ok (.int j) g) = cutOp (some i) (some j) d g := rfl
theorem w_slL1 : fSlL1 b ρ (.ok d g) = fSlL2 d (b ρ g) := rfl
theorem w_slL2 {i : Int} : fSlL2 d (.ok (.int i) g) = cutOp (some i) none d g := rfl
theorem w_slU1 : fSlU1 b ρ (.ok d g) = fSlU2 d (b ρ g) := rfl
theorem w_slU2 {i : Int} : fSlU2 d (.ok (.int i) g) = cutOp none (some i) d g := rfl
theorem w_seq : fSeq q (.nx ρ g) = q ρ g := rfl
theorem w_seqR : fSeq q (.ret d g) = .ret d g := rfl
theorem w_seqB : fSeq q (.bk ρ g) = .bk ρ g := rfl
theorem w_seqC : fSeq q (.ct ρ g) = .ct ρ g := rfl
theorem w_seqE : fSeq q (.err cc ρ g) = .err cc ρ g := rfl
theorem w_ret : fRet ρ (.ok d g) = .ret d g := rfl
theorem w_do : fDo ρ (.ok d g) = .nx ρ g := rfl
theorem w_asg : fAsg t ρ (.ok d g) = fTg (t d ρ g) := rfl
theorem w_tg : fTg (some (ρ, g)) = .nx ρ g := rfl
theorem w_sifT : fIf p q ρ (.ok (.bl true) g) = p ρ g := rfl
theorem w_sifF : fIf p q ρ (.ok (.bl false) g) = q ρ g := rfl
theorem w_gs : fGs ts ds (some (ρ, g)) = ts ds ρ g := rfl
theorem w_gsnil : gsNil [] ρ g = some (ρ, g) := rfl
theorem w_gscons : gsCons t ts (d :: ds) ρ g = fGs ts ds (t d ρ g) := by
  show (match t d ρ g with | some (ρ1, g1) => ts ds ρ1 g1 | none => none) = _
  cases t d ρ g <;> rfl
theorem w_for {kp : Gr → Prop} : fFor t p ρ (.ok ds kp g) = sLoop kp t p ds ρ g := rfl
theorem w_src {f : D → Gr → Option (List D × (Gr → Prop))} : fSrc f (.ok d g) = fSrc2 g (f d g) := rfl
theorem w_srcA {f : List D → Gr → Option (List D × (Gr → Prop))} : fSrcA f (.ok ds g) = fSrc2 g (f ds g) := rfl
theorem w_src2 {kp : Gr → Prop} : fSrc2 g (some (ds, kp)) = .ok ds kp g := rfl
theorem w_lc {fin : List D → Gr → R} {vs : List Nat} {kp : Gr → Prop} : fLc fin vs t c a ρ (.ok ds kp g) = lcLoop kp t c a (wipeR ρ vs) fin ds [] g := rfl
theorem w_endN : fEnd (.nx ρ g) = .ok .non g := rfl
theorem w_endR : fEnd (.ret d g) = .ok d g := rfl
theorem w_endE : fEnd (.err cc ρ g) = .err cc g := rfl
theorem e_binL : fBinL op b ρ (.err cc g) = .err cc g := rfl
theorem e_binR : fBinR op x (.err cc g) = .err cc g := rfl
theorem e_un : fUn u1 (.err cc g) = .err cc g := rfl
theorem e_and : fAnd b ρ (.err cc g) = .err cc g := rfl
theorem e_or : fOr b ρ (.err cc g) = .err cc g := rfl
theorem e_not : fNot (.err cc g) = .err cc g := rfl
theorem e_ife : fIfE a b ρ (.err cc g) = .err cc g := rfl
theorem e_arg : fArg f (.err cc g) = .err cc g := rfl
theorem e_consL : fConsL as ρ (.err cc g) = .err cc g := rfl
theorem e_consR : fConsR d (.err cc g) = .err cc g := rfl
theorem e_bmA {m : D → List D → Gr → R} : fBmA m d (.err cc g) = .err cc g := rfl
theorem e_bm {ty : D → Gr → Bool} {m : D → List D → Gr → R} : fBm ty m as ρ (.err cc g) = .err cc g := rfl
theorem e_ret : fRet ρ (.err cc g) = .err cc ρ g := rfl
theorem e_do : fDo ρ (.err cc g) = .err cc ρ g := rfl
theorem e_asg : fAsg t ρ (.err cc g) = .err cc ρ g := rfl
theorem e_if : fIf p q ρ (.err cc g) = .err cc ρ g := rfl
theorem e_for : fFor t p ρ (.err cc g) = .err cc ρ g := rfl
theorem e_src {f : D → Gr → Option (List D × (Gr → Prop))} : fSrc f (.err cc g) = .err cc g := rfl
theorem e_srcA {f : List D → Gr → Option (List D × (Gr → Prop))} : fSrcA f (.err cc g) = .err cc g := rfl
theorem v_x0 {r : En} : eVar 0 (some d :: r) g = .ok d g := rfl
theorem v_s0 {z : Option D} {r : En} : gVar 0 d (z :: r) g = some (some d :: r, g) := rfl
theorem v_x1 {x0 : Option D} {r : En} : eVar 1 (x0 :: some d :: r) g = .ok d g := rfl
theorem v_s1 {x0 : Option D} {z : Option D} {r : En} : gVar 1 d (x0 :: z :: r) g = some (x0 :: some d :: r, g) := rfl
theorem v_x2 {x0 x1 : Option D} {r : En} : eVar 2 (x0 :: x1 :: some d :: r) g = .ok d g := rfl
theorem v_s2 {x0 x1 : Option D} {z : Option D} {r : En} : gVar 2 d (x0 :: x1 :: z :: r) g = some (x0 :: x1 :: some d :: r, g) := rfl
theorem v_x3 {x0 x1 x2 : Option D} {r : En} : eVar 3 (x0 :: x1 :: x2 :: some d :: r) g = .ok d g := rfl
theorem v_s3 {x0 x1 x2 : Option D} {z : Option D} {r : En} : gVar 3 d (x0 :: x1 :: x2 :: z :: r) g = some (x0 :: x1 :: x2 :: some d :: r, g) := rfl
theorem v_x4 {x0 x1 x2 x3 : Option D} {r : En} : eVar 4 (x0 :: x1 :: x2 :: x3 :: some d :: r) g = .ok d g := rfl
theorem v_s4 {x0 x1 x2 x3 : Option D} {z : Option D} {r : En} : gVar 4 d (x0 :: x1 :: x2 :: x3 :: z :: r) g = some (x0 :: x1 :: x2 :: x3 :: some d :: r, g) := rfl
theorem v_x5 {x0 x1 x2 x3 x4 : Option D} {r : En} : eVar 5 (x0 :: x1 :: x2 :: x3 :: x4 :: some d :: r) g = .ok d g := rfl
theorem v_s5 {x0 x1 x2 x3 x4 : Option D} {z : Option D} {r : En} : gVar 5 d (x0 :: x1 :: x2 :: x3 :: x4 :: z :: r) g = some (x0 :: x1 :: x2 :: x3 :: x4 :: some d :: r, g) := rfl
theorem v_x6 {x0 x1 x2 x3 x4 x5 : Option D} {r : En} : eVar 6 (x0 :: x1 :: x2 :: x3 :: x4 :: x5 :: some d :: r) g = .ok d g := rfl
theorem v_s6 {x0 x1 x2 x3 x4 x5 : Option D} {z : Option D} {r : En} : gVar 6 d (x0 :: x1 :: x2 :: x3 :: x4 :: x5 :: z :: r) g = some (x0 :: x1 :: x2 :: x3 :: x4 :: x5 :: some d :: r, g) := rfl
theorem v_x7 {x0 x1 x2 x3 x4 x5 x6 : Option D} {r : En} : eVar 7 (x0 :: x1 :: x2 :: x3 :: x4 :: x5 :: x6 :: some d :: r) g = .ok d g := rfl
theorem v_s7 {x0 x1 x2 x3 x4 x5 x6 : Option D} {z : Option D} {r : En} : gVar 7 d (x0 :: x1 :: x2 :: x3 :: x4 :: x5 :: x6 :: z :: r) g = some (x0 :: x1 :: x2 :: x3 :: x4 :: x5 :: x6 :: some d :: r, g) := rfl
theorem v_x8 {x0 x1 x2 x3 x4 x5 x6 x7 : Option D} {r : En} : eVar 8 (x0 :: x1 :: x2 :: x3 :: x4 :: x5 :: x6 :: x7 :: some d :: r) g = .ok d g := rfl
theorem v_s8 {x0 x1 x2 x3 x4 x5 x6 x7 : Option D} {z : Option D} {r : En} : gVar 8 d (x0 :: x1 :: x2 :: x3 :: x4 :: x5 :: x6 :: x7 :: z :: r) g = some (x0 :: x1 :: x2 :: x3 :: x4 :: x5 :: x6 :: x7 :: some d :: r, g) := rfl
theorem v_x9 {x0 x1 x2 x3 x4 x5 x6 x7 x8 : Option D} {r : En} : eVar 9 (x0 :: x1 :: x2 :: x3 :: x4 :: x5 :: x6 :: x7 :: x8 :: some d :: r) g = .ok d g := rfl
theorem v_s9 {x0 x1 x2 x3 x4 x5 x6 x7 x8 : Option D} {z : Option D} {r : En} : gVar 9 d (x0 :: x1 :: x2 :: x3 :: x4 :: x5 :: x6 :: x7 :: x8 :: z :: r) g = some (x0 :: x1 :: x2 :: x3 :: x4 :: x5 :: x6 :: x7 :: x8 :: some d :: r, g) := rfl
theorem v_x10 {x0 x1 x2 x3 x4 x5 x6 x7 x8 x9 : Option D} {r : En} : eVar 10 (x0 :: x1 :: x2 :: x3 :: x4 :: x5 :: x6 :: x7 :: x8 :: x9 :: some d :: r) g = .ok d g := rfl
theorem v_s10 {x0 x1 x2 x3 x4 x5 x6 x7 x8 x9 : Option D} {z : Option D} {r : En} : gVar 10 d (x0 :: x1 :: x2 :: x3 :: x4 :: x5 :: x6 :: x7 :: x8 :: x9 :: z :: r) g = some (x0 :: x1 :: x2 :: x3 :: x4 :: x5 :: x6 :: x7 :: x8 :: x9 :: some d :: r, g) := rfl
theorem v_x11 {x0 x1 x2 x3 x4 x5 x6 x7 x8 x9 x10 : Option D} {r : En} : eVar 11 (x0 :: x1 :: x2 :: x3 :: x4 :: x5 :: x6 :: x7 :: x8 :: x9 :: x10 :: some d :: r) g = .ok d g := rfl
theorem v_s11 {x0 x1 x2 x3 x4 x5 x6 x7 x8 x9 x10 : Option D} {z : Option D} {r : En} : gVar 11 d (x0 :: x1 :: x2 :: x3 :: x4 :: x5 :: x6 :: x7 :: x8 :: x9 :: x10 :: z :: r) g = some (x0 :: x1 :: x2 :: x3 :: x4 :: x5 :: x6 :: x7 :: x8 :: x9 :: x10 :: some d :: r, g) := rfl
theorem v_x12 {x0 x1 x2 x3 x4 x5 x6 x7 x8 x9 x10 x11 : Option D} {r : En} : eVar 12 (x0 :: x1 :: x2 :: x3 :: x4 :: x5 :: x6 :: x7 :: x8 :: x9 :: x10 :: x11 :: some d :: r) g = .ok d g := rfl
theorem v_s12 {x0 x1 x2 x3 x4 x5 x6 x7 x8 x9 x10 x11 : Option D} {z : Option D} {r : En} : gVar 12 d (x0 :: x1 :: x2 :: x3 :: x4 :: x5 :: x6 :: x7 :: x8 :: x9 :: x10 :: x11 :: z :: r) g = some (x0 :: x1 :: x2 :: x3 :: x4 :: x5 :: x6 :: x7 :: x8 :: x9 :: x10 :: x11 :: some d :: r, g) := rfl
theorem v_x13 {x0 x1 x2 x3 x4 x5 x6 x7 x8 x9 x10 x11 x12 : Option D} {r : En} : eVar 13 (x0 :: x1 :: x2 :: x3 :: x4 :: x5 :: x6 :: x7 :: x8 :: x9 :: x10 :: x11 :: x12 :: some d :: r) g = .ok d g := rfl
theorem v_s13 {x0 x1 x2 x3 x4 x5 x6 x7 x8 x9 x10 x11 x12 : Option D} {z : Option D} {r : En} : gVar 13 d (x0 :: x1 :: x2 :: x3 :: x4 :: x5 :: x6 :: x7 :: x8 :: x9 :: x10 :: x11 :: x12 :: z :: r) g = some (x0 :: x1 :: x2 :: x3 :: x4 :: x5 :: x6 :: x7 :: x8 :: x9 :: x10 :: x11 :: x12 :: some d :: r, g) := rfl
theorem v_x14 {x0 x1 x2 x3 x4 x5 x6 x7 x8 x9 x10 x11 x12 x13 : Option D} {r : En} : eVar 14 (x0 :: x1 :: x2 :: x3 :: x4 :: x5 :: x6 :: x7 :: x8 :: x9 :: x10 :: x11 :: x12 :: x13 :: some d :: r) g = .ok d g := rfl
theorem v_s14 {x0 x1 x2 x3 x4 x5 x6 x7 x8 x9 x10 x11 x12 x13 : Option D} {z : Option D} {r : En} : gVar 14 d (x0 :: x1 :: x2 :: x3 :: x4 :: x5 :: x6 :: x7 :: x8 :: x9 :: x10 :: x11 :: x12 :: x13 :: z :: r) g = some (x0 :: x1 :: x2 :: x3 :: x4 :: x5 :: x6 :: x7 :: x8 :: x9 :: x10 :: x11 :: x12 :: x13 :: some d :: r, g) := rfl
theorem v_x15 {x0 x1 x2 x3 x4 x5 x6 x7 x8 x9 x10 x11 x12 x13 x14 : Option D} {r : En} : eVar 15 (x0 :: x1 :: x2 :: x3 :: x4 :: x5 :: x6 :: x7 :: x8 :: x9 :: x10 :: x11 :: x12 :: x13 :: x14 :: some d :: r) g = .ok d g := rfl
theorem v_s15 {x0 x1 x2 x3 x4 x5 x6 x7 x8 x9 x10 x11 x12 x13 x14 : Option D} {z : Option D} {r : En} : gVar 15 d (x0 :: x1 :: x2 :: x3 :: x4 :: x5 :: x6 :: x7 :: x8 :: x9 :: x10 :: x11 :: x12 :: x13 :: x14 :: z :: r) g = some (x0 :: x1 :: x2 :: x3 :: x4 :: x5 :: x6 :: x7 :: x8 :: x9 :: x10 :: x11 :: x12 :: x13 :: x14 :: some d :: r, g) := rfl
theorem v_x16 {x0 x1 x2 x3 x4 x5 x6 x7 x8 x9 x10 x11 x12 x13 x14 x15 : Option D} {r : En} : eVar 16 (x0 :: x1 :: x2 :: x3 :: x4 :: x5 :: x6 :: x7 :: x8 :: x9 :: x10 :: x11 :: x12 :: x13 :: x14 :: x15 :: some d :: r) g = .ok d g := rfl
theorem v_s16 {x0 x1 x2 x3 x4 x5 x6 x7 x8 x9 x10 x11 x12 x13 x14 x15 : Option D} {z : Option D} {r : En} : gVar 16 d (x0 :: x1 :: x2 :: x3 :: x4 :: x5 :: x6 :: x7 :: x8 :: x9 :: x10 :: x11 :: x12 :: x13 :: x14 :: x15 :: z :: r) g = some (x0 :: x1 :: x2 :: x3 :: x4 :: x5 :: x6 :: x7 :: x8 :: x9 :: x10 :: x11 :: x12 :: x13 :: x14 :: x15 :: some d :: r, g) := rfl
theorem v_x17 {x0 x1 x2 x3 x4 x5 x6 x7 x8 x9 x10 x11 x12 x13 x14 x15 x16 : Option D} {r : En} : eVar 17 (x0 :: x1 :: x2 :: x3 :: x4 :: x5 :: x6 :: x7 :: x8 :: x9 :: x10 :: x11 :: x12 :: x13 :: x14 :: x15 :: x16 :: some d :: r) g = .ok d g := rfl
theorem v_s17 {x0 x1 x2 x3 x4 x5 x6 x7 x8 x9 x10 x11 x12 x13 x14 x15 x16 : Option D} {z : Option D} {r : En} : gVar 17 d (x0 :: x1 :: x2 :: x3 :: x4 :: x5 :: x6 :: x7 :: x8 :: x9 :: x10 :: x11 :: x12 :: x13 :: x14 :: x15 :: x16 :: z :: r) g = some (x0 :: x1 :: x2 :: x3 :: x4 :: x5 :: x6 :: x7 :: x8 :: x9 :: x10 :: x11 :: x12 :: x13 :: x14 :: x15 :: x16 :: some d :: r, g) := rfl
theorem v_x18 {x0 x1 x2 x3 x4 x5 x6 x7 x8 x9 x10 x11 x12 x13 x14 x15 x16 x17 : Option D} {r : En} : eVar 18 (x0 :: x1 :: x2 :: x3 :: x4 :: x5 :: x6 :: x7 :: x8 :: x9 :: x10 :: x11 :: x12 :: x13 :: x14 :: x15 :: x16 :: x17 :: some d :: r) g = .ok d g := rfl
theorem v_s18 {x0 x1 x2 x3 x4 x5 x6 x7 x8 x9 x10 x11 x12 x13 x14 x15 x16 x17 : Option D} {z : Option D} {r : En} : gVar 18 d (x0 :: x1 :: x2 :: x3 :: x4 :: x5 :: x6 :: x7 :: x8 :: x9 :: x10 :: x11 :: x12 :: x13 :: x14 :: x15 :: x16 :: x17 :: z :: r) g = some (x0 :: x1 :: x2 :: x3 :: x4 :: x5 :: x6 :: x7 :: x8 :: x9 :: x10 :: x11 :: x12 :: x13 :: x14 :: x15 :: x16 :: x17 :: some d :: r, g) := rfl
theorem v_x19 {x0 x1 x2 x3 x4 x5 x6 x7 x8 x9 x10 x11 x12 x13 x14 x15 x16 x17 x18 : Option D} {r : En} : eVar 19 (x0 :: x1 :: x2 :: x3 :: x4 :: x5 :: x6 :: x7 :: x8 :: x9 :: x10 :: x11 :: x12 :: x13 :: x14 :: x15 :: x16 :: x17 :: x18 :: some d :: r) g = .ok d g := rfl
theorem v_s19 {x0 x1 x2 x3 x4 x5 x6 x7 x8 x9 x10 x11 x12 x13 x14 x15 x16 x17 x18 : Option D} {z : Option D} {r : En} : gVar 19 d (x0 :: x1 :: x2 :: x3 :: x4 :: x5 :: x6 :: x7 :: x8 :: x9 :: x10 :: x11 :: x12 :: x13 :: x14 :: x15 :: x16 :: x17 :: x18 :: z :: r) g = some (x0 :: x1 :: x2 :: x3 :: x4 :: x5 :: x6 :: x7 :: x8 :: x9 :: x10 :: x11 :: x12 :: x13 :: x14 :: x15 :: x16 :: x17 :: x18 :: some d :: r, g) := rfl
theorem v_x20 {x0 x1 x2 x3 x4 x5 x6 x7 x8 x9 x10 x11 x12 x13 x14 x15 x16 x17 x18 x19 : Option D} {r : En} : eVar 20 (x0 :: x1 :: x2 :: x3 :: x4 :: x5 :: x6 :: x7 :: x8 :: x9 :: x10 :: x11 :: x12 :: x13 :: x14 :: x15 :: x16 :: x17 :: x18 :: x19 :: some d :: r) g = .ok d g := rfl
theorem v_s20 {x0 x1 x2 x3 x4 x5 x6 x7 x8 x9 x10 x11 x12 x13 x14 x15 x16 x17 x18 x19 : Option D} {z : Option D} {r : En} : gVar 20 d (x0 :: x1 :: x2 :: x3 :: x4 :: x5 :: x6 :: x7 :: x8 :: x9 :: x10 :: x11 :: x12 :: x13 :: x14 :: x15 :: x16 :: x17 :: x18 :: x19 :: z :: r) g = some (x0 :: x1 :: x2 :: x3 :: x4 :: x5 :: x6 :: x7 :: x8 :: x9 :: x10 :: x11 :: x12 :: x13 :: x14 :: x15 :: x16 :: x17 :: x18 :: x19 :: some d :: r, g) := rfl
theorem v_x21 {x0 x1 x2 x3 x4 x5 x6 x7 x8 x9 x10 x11 x12 x13 x14 x15 x16 x17 x18 x19 x20 : Option D} {r : En} : eVar 21 (x0 :: x1 :: x2 :: x3 :: x4 :: x5 :: x6 :: x7 :: x8 :: x9 :: x10 :: x11 :: x12 :: x13 :: x14 :: x15 :: x16 :: x17 :: x18 :: x19 :: x20 :: some d :: r) g = .ok d g := rfl
theorem v_s21 {x0 x1 x2 x3 x4 x5 x6 x7 x8 x9 x10 x11 x12 x13 x14 x15 x16 x17 x18 x19 x20 : Option D} {z : Option D} {r : En} : gVar 21 d (x0 :: x1 :: x2 :: x3 :: x4 :: x5 :: x6 :: x7 :: x8 :: x9 :: x10 :: x11 :: x12 :: x13 :: x14 :: x15 :: x16 :: x17 :: x18 :: x19 :: x20 :: z :: r) g = some (x0 :: x1 :: x2 :: x3 :: x4 :: x5 :: x6 :: x7 :: x8 :: x9 :: x10 :: x11 :: x12 :: x13 :: x14 :: x15 :: x16 :: x17 :: x18 :: x19 :: x20 :: some d :: r, g) := rfl
theorem v_x22 {x0 x1 x2 x3 x4 x5 x6 x7 x8 x9 x10 x11 x12 x13 x14 x15 x16 x17 x18 x19 x20 x21 : Option D} {r : En} : eVar 22 (x0 :: x1 :: x2 :: x3 :: x4 :: x5 :: x6 :: x7 :: x8 :: x9 :: x10 :: x11 :: x12 :: x13 :: x14 :: x15 :: x16 :: x17 :: x18 :: x19 :: x20 :: x21 :: some d :: r) g = .ok d g := rfl
theorem v_s22 {x0 x1 x2 x3 x4 x5 x6 x7 x8 x9 x10 x11 x12 x13 x14 x15 x16 x17 x18 x19 x20 x21 : Option D} {z : Option D} {r : En} : gVar 22 d (x0 :: x1 :: x2 :: x3 :: x4 :: x5 :: x6 :: x7 :: x8 :: x9 :: x10 :: x11 :: x12 :: x13 :: x14 :: x15 :: x16 :: x17 :: x18 :: x19 :: x20 :: x21 :: z :: r) g = some (x0 :: x1 :: x2 :: x3 :: x4 :: x5 :: x6 :: x7 :: x8 :: x9 :: x10 :: x11 :: x12 :: x13 :: x14 :: x15 :: x16 :: x17 :: x18 :: x19 :: x20 :: x21 :: some d :: r, g) := rfl
theorem v_x23 {x0 x1 x2 x3 x4 x5 x6 x7 x8 x9 x10 x11 x12 x13 x14 x15 x16 x17 x18 x19 x20 x21 x22 : Option D} {r : En} : eVar 23 (x0 :: x1 :: x2 :: x3 :: x4 :: x5 :: x6 :: x7 :: x8 :: x9 :: x10 :: x11 :: x12 :: x13 :: x14 :: x15 :: x16 :: x17 :: x18 :: x19 :: x20 :: x21 :: x22 :: some d :: r) g = .ok d g := rfl
theorem v_s23 {x0 x1 x2 x3 x4 x5 x6 x7 x8 x9 x10 x11 x12 x13 x14 x15 x16 x17 x18 x19 x20 x21 x22 : Option D} {z : Option D} {r : En} : gVar 23 d (x0 :: x1 :: x2 :: x3 :: x4 :: x5 :: x6 :: x7 :: x8 :: x9 :: x10 :: x11 :: x12 :: x13 :: x14 :: x15 :: x16 :: x17 :: x18 :: x19 :: x20 :: x21 :: x22 :: z :: r) g = some (x0 :: x1 :: x2 :: x3 :: x4 :: x5 :: x6 :: x7 :: x8 :: x9 :: x10 :: x11 :: x12 :: x13 :: x14 :: x15 :: x16 :: x17 :: x18 :: x19 :: x20 :: x21 :: x22 :: some d :: r, g) := rfl
theorem v_x24 {x0 x1 x2 x3 x4 x5 x6 x7 x8 x9 x10 x11 x12 x13 x14 x15 x16 x17 x18 x19 x20 x21 x22 x23 : Option D} {r : En} : eVar 24 (x0 :: x1 :: x2 :: x3 :: x4 :: x5 :: x6 :: x7 :: x8 :: x9 :: x10 :: x11 :: x12 :: x13 :: x14 :: x15 :: x16 :: x17 :: x18 :: x19 :: x20 :: x21 :: x22 :: x23 :: some d :: r) g = .ok d g := rfl
theorem v_s24 {x0 x1 x2 x3 x4 x5 x6 x7 x8 x9 x10 x11 x12 x13 x14 x15 x16 x17 x18 x19 x20 x21 x22 x23 : Option D} {z : Option D} {r : En} : gVar 24 d (x0 :: x1 :: x2 :: x3 :: x4 :: x5 :: x6 :: x7 :: x8 :: x9 :: x10 :: x11 :: x12 :: x13 :: x14 :: x15 :: x16 :: x17 :: x18 :: x19 :: x20 :: x21 :: x22 :: x23 :: z :: r) g = some (x0 :: x1 :: x2 :: x3 :: x4 :: x5 :: x6 :: x7 :: x8 :: x9 :: x10 :: x11 :: x12 :: x13 :: x14 :: x15 :: x16 :: x17 :: x18 :: x19 :: x20 :: x21 :: x22 :: x23 :: some d :: r, g) := rfl
theorem v_x25 {x0 x1 x2 x3 x4 x5 x6 x7 x8 x9 x10 x11 x12 x13 x14 x15 x16 x17 x18 x19 x20 x21 x22 x23 x24 : Option D} {r : En} : eVar 25 (x0 :: x1 :: x2 :: x3 :: x4 :: x5 :: x6 :: x7 :: x8 :: x9 :: x10 :: x11 :: x12 :: x13 :: x14 :: x15 :: x16 :: x17 :: x18 :: x19 :: x20 :: x21 :: x22 :: x23 :: x24 :: some d :: r) g = .ok d g := rfl
theorem v_s25 {x0 x1 x2 x3 x4 x5 x6 x7 x8 x9 x10 x11 x12 x13 x14 x15 x16 x17 x18 x19 x20 x21 x22 x23 x24 : Option D} {z : Option D} {r : En} : gVar 25 d (x0 :: x1 :: x2 :: x3 :: x4 :: x5 :: x6 :: x7 :: x8 :: x9 :: x10 :: x11 :: x12 :: x13 :: x14 :: x15 :: x16 :: x17 :: x18 :: x19 :: x20 :: x21 :: x22 :: x23 :: x24 :: z :: r) g = some (x0 :: x1 :: x2 :: x3 :: x4 :: x5 :: x6 :: x7 :: x8 :: x9 :: x10 :: x11 :: x12 :: x13 :: x14 :: x15 :: x16 :: x17 :: x18 :: x19 :: x20 :: x21 :: x22 :: x23 :: x24 :: some d :: r, g) := rfl
theorem v_unp1 {y0 : D} : gUnp 1 ts (.tup [y0]) ρ g = ts [y0] ρ g := rfl
theorem v_unpL1 {y0 : D} : gUnpL 1 ts (.lst [y0]) ρ g = ts [y0] ρ g := rfl
theorem v_unp2 {y0 y1 : D} : gUnp 2 ts (.tup [y0, y1]) ρ g = ts [y0, y1] ρ g := rfl
theorem v_unpL2 {y0 y1 : D} : gUnpL 2 ts (.lst [y0, y1]) ρ g = ts [y0, y1] ρ g := rfl
theorem v_unp3 {y0 y1 y2 : D} : gUnp 3 ts (.tup [y0, y1, y2]) ρ g = ts [y0, y1, y2] ρ g := rfl
theorem v_unpL3 {y0 y1 y2 : D} : gUnpL 3 ts (.lst [y0, y1, y2]) ρ g = ts [y0, y1, y2] ρ g := rfl
theorem v_unp4 {y0 y1 y2 y3 : D} : gUnp 4 ts (.tup [y0, y1, y2, y3]) ρ g = ts [y0, y1, y2, y3] ρ g := rfl
theorem v_unpL4 {y0 y1 y2 y3 : D} : gUnpL 4 ts (.lst [y0, y1, y2, y3]) ρ g = ts [y0, y1, y2, y3] ρ g := rfl
theorem v_unp5 {y0 y1 y2 y3 y4 : D} : gUnp 5 ts (.tup [y0, y1, y2, y3, y4]) ρ g = ts [y0, y1, y2, y3, y4] ρ g := rfl
theorem v_unpL5 {y0 y1 y2 y3 y4 : D} : gUnpL 5 ts (.lst [y0, y1, y2, y3, y4]) ρ g = ts [y0, y1, y2, y3, y4] ρ g := rfl
theorem v_unp6 {y0 y1 y2 y3 y4 y5 : D} : gUnp 6 ts (.tup [y0, y1, y2, y3, y4, y5]) ρ g = ts [y0, y1, y2, y3, y4, y5] ρ g := rfl
theorem v_unpL6 {y0 y1 y2 y3 y4 y5 : D} : gUnpL 6 ts (.lst [y0, y1, y2, y3, y4, y5]) ρ g = ts [y0, y1, y2, y3, y4, y5] ρ g := rfl
theorem v_unp7 {y0 y1 y2 y3 y4 y5 y6 : D} : gUnp 7 ts (.tup [y0, y1, y2, y3, y4, y5, y6]) ρ g = ts [y0, y1, y2, y3, y4, y5, y6] ρ g := rfl
theorem v_unpL7 {y0 y1 y2 y3 y4 y5 y6 : D} : gUnpL 7 ts (.lst [y0, y1, y2, y3, y4, y5, y6]) ρ g = ts [y0, y1, y2, y3, y4, y5, y6] ρ g := rfl
theorem v_unp8 {y0 y1 y2 y3 y4 y5 y6 y7 : D} : gUnp 8 ts (.tup [y0, y1, y2, y3, y4, y5, y6, y7]) ρ g = ts [y0, y1, y2, y3, y4, y5, y6, y7] ρ g := rfl
theorem v_unpL8 {y0 y1 y2 y3 y4 y5 y6 y7 : D} : gUnpL 8 ts (.lst [y0, y1, y2, y3, y4, y5, y6, y7]) ρ g = ts [y0, y1, y2, y3, y4, y5, y6, y7] ρ g := rfl
end
end Fw

set_option maxRecDepth 100000
set_option maxHeartbeats 4000000
namespace Fw
open PySem PySem.Spec PyProof.Rows
def S.go (P : En → Gr → Prop) : S → Prop
  | .nx ρ g => P ρ g
  | .ct ρ g => P ρ g
  | _ => False
def fTurn (b : Stm) : Option (En × Gr) → S
  | some (ρ, g) => b ρ g
  | none => .no
section
variable {P : En → Gr → Prop} {ρ : En} {g : Gr} {b : Stm}
theorem w_goN : S.go P (.nx ρ g) = P ρ g := rfl
theorem w_goC : S.go P (.ct ρ g) = P ρ g := rfl
theorem w_turn : fTurn b (some (ρ, g)) = b ρ g := rfl
end
theorem loop_wp {kp : Gr → Prop} {t : Tg} {b : Stm} (I : Nat → En → Gr → Prop) {ds : List D} {ρ : En} {g : Gr} (h0 : I 0 ρ g) (hk : ∀ n ρ g, I n ρ g → kp g)
    (step : ∀ n ρ g d, ds[n]? = some d → I n ρ g → S.go (I (n + 1)) (fTurn b (t d ρ g))) : ∃ ρ' g', sLoop kp t b ds ρ g = .nx ρ' g' ∧ I ds.length ρ' g' := by
  have key := loop_inv (kp := kp) (t := t) (b := b) I ds hk (fun n ρ g d hd hI => by
    have z := step n ρ g d hd hI
    cases e : t d ρ g with
    | none => rw [e] at z; exact z.elim
    | some p =>
      obtain ⟨ρ1, g1⟩ := p
      rw [e, w_turn] at z
      cases e2 : b ρ1 g1 with
      | nx ρ2 g2 => rw [e2] at z; exact ⟨ρ1, g1, ρ2, g2, rfl, .inl e2, z⟩
      | ct ρ2 g2 => rw [e2] at z; exact ⟨ρ1, g1, ρ2, g2, rfl, .inr e2, z⟩
      | _ => rw [e2] at z; exact z.elim) ds.length 0 ρ g (Nat.zero_add _) h0
  rw [List.drop_zero] at key
  exact key
theorem loop_rng {t : Tg} {b : Stm} (I : Nat → En → Gr → Prop) {n : Nat} {ρ : En} {g : Gr} (h0 : I 0 ρ g)
    (step : ∀ i ρ g, i < n → I i ρ g → S.go (I (i + 1)) (fTurn b (t (.int (i : Int)) ρ g))) : ∃ ρ' g', sLoop kpT t b (rangeD 0 n) ρ g = .nx ρ' g' ∧ I n ρ' g' := by
  have key := loop_wp (kp := kpT) (t := t) (b := b) I (ds := rangeD 0 n) h0 (fun _ _ _ _ => trivial) (fun i ρ g d hd h => by
    obtain ⟨e, hi⟩ := rangeD_get hd
    subst e
    rw [Int.zero_add]
    exact step i ρ g hi h)
  rw [rangeD_len] at key
  exact key
theorem loop_then {K : S → Prop} {kp : Gr → Prop} {t : Tg} {b : Stm} {ds : List D} {ρ : En} {g : Gr} (I : Nat → En → Gr → Prop) (h0 : I 0 ρ g) (hk : ∀ n ρ g, I n ρ g → kp g)
    (step : ∀ n ρ g d, ds[n]? = some d → I n ρ g → S.go (I (n + 1)) (fTurn b (t d ρ g))) (fin : ∀ ρ' g', I ds.length ρ' g' → K (.nx ρ' g')) : K (sLoop kp t b ds ρ g) := by
  obtain ⟨ρ', g', e, h⟩ := loop_wp I h0 hk step
  rw [e]; exact fin ρ' g' h
theorem rng_then {K : S → Prop} {t : Tg} {b : Stm} {n : Nat} {ρ : En} {g : Gr} (I : Nat → En → Gr → Prop) (h0 : I 0 ρ g)
    (step : ∀ i ρ g, i < n → I i ρ g → S.go (I (i + 1)) (fTurn b (t (.int (i : Int)) ρ g))) (fin : ∀ ρ' g', I n ρ' g' → K (.nx ρ' g')) : K (sLoop kpT t b (rangeD 0 n) ρ g) := by
  obtain ⟨ρ', g', e, h⟩ := loop_rng I h0 step
  rw [e]; exact fin ρ' g' h
abbrev li (ns : List Int) : D := .lst (ns.map .int)
def at_ (ns : List Int) (k : Int) : Int := ns.getD k.toNat 0
section
variable {g : Gr} {ns : List Int} {i k : Int} {a b : List Nat}
theorem v_lenli : fLen [.lst (ns.map .int)] g = .ok (.int (ns.length : Int)) g := by rw [f_lenL, List.length_map]
theorem v_ixli (h : 0 ≤ k ∧ k < (ns.length : Int)) : opIx (.lst (ns.map .int)) (.int k) g = .ok (.int (at_ ns k)) g := by
  have e : k = (k.toNat : Int) := (Int.toNat_of_nonneg h.1).symm
  have hl : k.toNat < ns.length := by omega
  have q := o_ixL (g := g) (ds := ns.map D.int) (k := k.toNat) (d := .int (at_ ns k)) (by rw [List.getElem?_map, at_, List.getElem?_eq_getElem hl]; simp [hl])
  rw [← e] at q
  exact q
theorem v_lenT (h : a.length ≤ 8388608) : fLen [.str (tx a)] g = .ok (.int (a.length : Int)) g := by
  rw [f_lenS (by rw [tx_len]; exact Nat.le_trans h sizeLine_big), tx_len]
theorem v_addT (h : a.length + b.length ≤ 8388608) : opAdd (.str (tx a)) (.str (tx b)) g = .ok (.str (tx (a ++ b))) g := by
  rw [o_addS (by rw [tx_len, tx_len]; exact Nat.le_trans h sizeLine_big), tx_app]
theorem tx_beq : (tx a == tx b) = decide (a = b) := by
  by_cases h : a = b
  · subst h; simp
  · have : tx a ≠ tx b := fun e => h (tx_inj e)
    simp [h, this]
theorem v_eqT : opEq (.str (tx a)) (.str (tx b)) g = .ok (.bl (decide (a = b))) g := by rw [o_eqS, tx_beq]
theorem v_neT : opNe (.str (tx a)) (.str (tx b)) g = .ok (.bl (!decide (a = b))) g := by rw [o_neS, tx_beq]
theorem v_eqI : opEq (.int i) (.int k) g = .ok (.bl (decide (i = k))) g := by rw [o_eqI]; congr 2
theorem v_neI : opNe (.int i) (.int k) g = .ok (.bl (!decide (i = k))) g := by rw [o_neI]; congr 2
theorem v_strN (h : 0 ≤ i ∧ i < 1000000000000000000) : fStr [.int i] g = .ok (.str (tx (nm i.toNat))) g := by
  have e : i = (i.toNat : Int) := (Int.toNat_of_nonneg h.1).symm
  have q := f_strN (m := i.toNat) (by omega) g
  rw [← e] at q
  exact q
theorem v_strS {z : Str} : fStr [.str z] g = .ok (.str z) g := rfl
theorem v_ord (c : Nat) : fOrd [.str (tx [c])] g = .ok (.int c) g := rfl
theorem v_appC {ds : List D} {e : D} (h : ds.length < 8388608) : mAppend (.obj g.length) [e] (g ++ [.lst ds]) = .ok .non (g ++ [.lst (ds ++ [e])]) := app_snoc (Nat.lt_of_lt_of_le h sizeLine_big)
@[irreducible] def E18 : Int := 1000000000000000000
theorem E18_eq : E18 = 1000000000000000000 := by unfold E18; rfl
theorem v_pow18 : opPow (.int 10) (.int 18) g = .ok (.int E18) g := by
  rw [o_pow (by decide), E18_eq]
  rfl
theorem v_ixT (hz : a.length ≤ 8388608) (h : 0 ≤ k ∧ k < (a.length : Int)) : opIx (.str (tx a)) (.int k) g = .ok (.str (tx [a.getD k.toNat 0])) g := by
  have e : k = (k.toNat : Int) := (Int.toNat_of_nonneg h.1).symm
  have hl : k.toNat < a.length := by omega
  have q := o_ixS (x := tx a) (g := g) (k := k.toNat) (c := a.getD k.toNat 0) (by rw [tx_len]; exact Nat.le_trans hz sizeLine_big) (by simp [tx, hl])
  rw [← e] at q
  exact q
theorem v_lst {ds : List D} (h : ds.length ≤ 8388608) : fLst ds g = .ok (.lst ds) g := f_lst (Nat.le_trans h sizeLine_big)
theorem v_tup {ds : List D} (h : ds.length ≤ 8388608) : fTup ds g = .ok (.tup ds) g := f_tup (Nat.le_trans h sizeLine_big)
theorem v_cel {ds : List D} (h : ds.length ≤ 8388608) : fCel ds g = .ok (.obj g.length) (g ++ [.lst ds]) := f_cel (Nat.le_trans h sizeLine_big)
theorem v_appT {xs ys : List D} (h : xs ≠ [] ∧ xs.length + ys.length ≤ 8388608) : opAdd (.tup xs) (.tup ys) g = .ok (.tup (xs ++ ys)) g := if_pos ⟨h.1, Nat.le_trans h.2 sizeLine_big⟩
theorem v_appL {xs ys : List D} (h : xs.length + ys.length ≤ 8388608) : opAdd (.lst xs) (.lst ys) g = .ok (.lst (xs ++ ys)) g := if_pos (Nat.le_trans h sizeLine_big)
theorem v_rng1 (h : -1000000 ≤ i ∧ i ≤ 1000000) : iR1 [.int i] g = some (rangeD 0 i.toNat, kpT) := by
  have e : rngOk i = true := by
    unfold rngOk
    have h1 : (-4611686018427387904 : Int) ≤ i := Int.le_trans (by decide) h.1
    have h2 : i < 4611686018427387904 := Int.lt_of_le_of_lt h.2 (by decide)
    rw [decide_eq_true h1, decide_eq_true h2]
    rfl
  unfold iR1
  simp only [e, if_true]
theorem v_enT : iEA [.str (tx a)] g = some (enD 0 (chD (tx a)), kpT) := rfl
theorem v_iT : iA (.str (tx a)) g = some (chD (tx a), kpT) := rfl
theorem v_iL {ds : List D} : iA (.lst ds) g = some (ds, kpT) := rfl
theorem v_iTp {ds : List D} : iA (.tup ds) g = some (ds, kpT) := rfl
theorem chD_tx : chD (tx a) = a.map fun c => .str (tx [c]) := by simp [chD, tx]
theorem v_cutLTo {ds : List D} (h : 0 ≤ k) : cutOp none (some k) (.lst ds) g = .ok (.lst (ds.take k.toNat)) g := by
  have e : k = (k.toNat : Int) := (Int.toNat_of_nonneg h).symm
  show R.ok (.lst (cutD ds none (some k))) g = _
  rw [e]
  unfold cutD
  rw [HT.sIx_nat, HT.sIx_none, List.drop_zero, Nat.sub_zero, Int.toNat_natCast]
  rcases Nat.le_total k.toNat ds.length with h | h
  · rw [Nat.min_eq_left h]
  · rw [Nat.min_eq_right h, List.take_of_length_le (Nat.le_refl _), List.take_of_length_le h]
theorem v_cutLFrom {ds : List D} (h : 0 ≤ k) : cutOp (some k) none (.lst ds) g = .ok (.lst (ds.drop k.toNat)) g := by
  have e : k = (k.toNat : Int) := (Int.toNat_of_nonneg h).symm
  show R.ok (.lst (cutD ds (some k) none)) g = _
  rw [e]
  unfold cutD
  rw [HT.sIx_nat, HT.sIx_none, Int.toNat_natCast]
  rcases Nat.le_total k.toNat ds.length with h | h
  · rw [Nat.min_eq_left h, List.take_of_length_le (by simp)]
  · rw [Nat.min_eq_right h, List.drop_of_length_le h, List.drop_of_length_le (Nat.le_refl _), List.take_nil]
theorem v_wipe0 {ρ : En} : wipeR ρ [] = ρ := rfl
theorem v_wipe1 {ρ : En} {v : Nat} {vs : List Nat} : wipeR ρ (v :: vs) = (wipeR ρ vs).set v none := rfl
end
def fTe (e : Exp) : Option (En × Gr) → R
  | some (ρ, g) => e ρ g
  | none => .no
theorem w_te {e : Exp} {ρ : En} {g : Gr} : fTe e (some (ρ, g)) = e ρ g := rfl
theorem lc_of {α : Type} (F : α → D) {kp : Gr → Prop} {t : Tg} {e : Exp} {ρ : En} {g : Gr} {f : α → D} {xs : List α} (hk : kp g) (h : ∀ x ∈ xs, fTe e (t (f x) ρ g) = .ok (F x) g) (hz : xs.length < 8388608) :
    lcLoop kp t eYes e ρ finF (xs.map f) [] g = .ok (.lst (xs.map F)) g := by
  have key : ∀ (ys : List α) (acc : List D), (∀ x ∈ ys, fTe e (t (f x) ρ g) = .ok (F x) g) → acc.length + ys.length < sizeLine → lcLoop kp t eYes e ρ finF (ys.map f) acc g = .ok (.lst (acc ++ ys.map F)) g := by
    intro ys
    induction ys with
    | nil => intro acc _ _; simp only [List.map_nil, lcLoop, if_pos hk, List.append_nil]; rfl
    | cons y ys ih =>
      intro acc hy hz
      have h1 := hy y List.mem_cons_self
      rw [List.map_cons]
      cases et : t (f y) ρ g with
      | none => rw [et] at h1; cases h1
      | some p =>
        obtain ⟨ρ1, g1⟩ := p
        rw [et, w_te] at h1
        simp only [List.length_cons] at hz
        unfold lcLoop
        rw [if_pos ⟨hk, by omega⟩, et]
        simp only [eYes, br_t, h1]
        rw [ih (acc ++ [F y]) (fun x hx => hy x (List.mem_cons_of_mem _ hx)) (by rw [List.length_append, List.length_singleton]; omega), List.append_assoc]
        rfl
  rw [key xs [] h (by have := sizeLine_big; simp; omega), List.nil_append]
end Fw

set_option maxRecDepth 100000
set_option maxHeartbeats 4000000
namespace Fw
open PySem PySem.Spec PyProof.Rows PySem.Builtin PySem.Builtin.Str
def joinL (c : Nat) : List (List Nat) → List Nat
  | [] => []
  | [p] => p
  | p :: q :: r => p ++ c :: joinL c (q :: r)
def splitL (c : Nat) : List Nat → List (List Nat)
  | [] => [[]]
  | a :: l => if a = c then [] :: splitL c l else (match splitL c l with
    | p :: r => (a :: p) :: r
    | [] => [[a]])
theorem splitL_one {c : Nat} : ∀ {p : List Nat}, c ∉ p → splitL c p = [p]
  | [], _ => rfl
  | a :: p, h => by
    have h1 : a ≠ c := fun e => h (e ▸ List.mem_cons_self)
    have h2 := splitL_one (c := c) (p := p) fun m => h (List.mem_cons_of_mem _ m)
    simp only [splitL, if_neg h1, h2]
theorem splitL_cut {c : Nat} {l : List Nat} : ∀ {p : List Nat}, c ∉ p → splitL c (p ++ c :: l) = p :: splitL c l
  | [], _ => by simp [splitL]
  | a :: p, h => by
    have h1 : a ≠ c := fun e => h (e ▸ List.mem_cons_self)
    have h2 := splitL_cut (c := c) (l := l) (p := p) fun m => h (List.mem_cons_of_mem _ m)
    simp only [List.cons_append, splitL, if_neg h1, h2]
theorem splitL_join {c : Nat} : ∀ {ps : List (List Nat)}, ps ≠ [] → (∀ p ∈ ps, c ∉ p) → splitL c (joinL c ps) = ps
  | [], h, _ => absurd rfl h
  | [p], _, h => splitL_one (h p List.mem_cons_self)
  | p :: q :: r, _, h => by
    rw [joinL, splitL_cut (h p List.mem_cons_self), splitL_join (List.cons_ne_nil _ _) fun x hx => h x (List.mem_cons_of_mem _ hx)]
theorem join_list (c : Nat) : ∀ ss : List Str, (Str.join (tx [c]) ss).cps.toList = joinL c (ss.map fun z => z.cps.toList)
  | [] => rfl
  | [p] => rfl
  | p :: q :: r => by
    show (p ++ tx [c] ++ Str.join (tx [c]) (q :: r)).cps.toList = _
    rw [Str.cps_append, Str.cps_append, Array.toList_append, Array.toList_append, join_list c (q :: r)]
    simp [joinL, tx]
theorem split_ne (x y : Str) : Txt.split x y ≠ [] := by
  unfold Txt.split
  split
  · exact List.cons_ne_nil _ _
  · split
    · exact List.cons_ne_nil _ _
    · rw [StrLaws.partsBetween_eq]
      obtain ⟨p, r, e⟩ := StrLaws.partsFrom_ne x y.length 0 (occurrences x y 0 x.length (x.length + 1))
      rw [e]; exact List.cons_ne_nil _ _
theorem split_tx (l : List Nat) (c : Nat) : Txt.split (tx l) (tx [c]) = (splitL c l).map tx := by
  have h1 := congrArg (fun z : Str => z.cps.toList) (StrLaws.join_split (tx l) (tx [c]))
  simp only [join_list, tx_cps] at h1
  have h2 : ∀ p ∈ (Txt.split (tx l) (tx [c])).map (fun z => z.cps.toList), c ∉ p := by
    intro p hp
    obtain ⟨z, hz, rfl⟩ := List.mem_map.mp hp
    exact StrLaws.split_free (tx l) c z hz
  have h3 := splitL_join (c := c) (ps := (Txt.split (tx l) (tx [c])).map (fun z => z.cps.toList)) (by simpa using split_ne _ _) h2
  rw [h1] at h3
  rw [h3, List.map_map]
  have : (tx ∘ fun z : Str => z.cps.toList) = fun z => z := by funext z; exact tx_of z
  rw [this, List.map_id']
theorem at_tx {l : List Nat} {c i : Nat} : (i + (tx [c]).length ≤ (tx l).length ∧ subAt (tx l) (tx [c]) i = true) ↔ l[i]? = some c := by
  have h := StrLaws.subAt_one (tx l) c i
  rw [tx_cps] at h
  exact h
theorem occR_stay (s sub : Str) : ∀ (l : List Nat) (st : Array Nat × Nat), 1 ≤ st.1.size → (forIn l st (StrLaws.occRBody s sub 1)).run = st
  | [], st, _ => rfl
  | a :: l, st, h => by
    rw [List.forIn_cons]
    have e : StrLaws.occRBody s sub 1 a st = pure (ForInStep.yield (st.fst, st.snd)) := by
      unfold StrLaws.occRBody
      rw [if_neg (by omega)]
    rw [e]
    exact occR_stay s sub l st h
theorem occR_find (l : List Nat) (c : Nat) : ∀ (ks : List Nat) (k : Nat) (post : List Nat), (∀ j ∈ ks, l[l.length - j]? ≠ some c) → 1 ≤ k → k ≤ l.length → l[l.length - k]? = some c →
    (forIn (ks ++ k :: post) ((#[] : Array Nat), l.length) (StrLaws.occRBody (tx l) (tx [c]) 1)).run.1 = #[l.length - k]
  | [], k, post, _, hk1, hk2, hk => by
    rw [List.nil_append, List.forIn_cons]
    have z := at_tx.mpr hk
    have e : StrLaws.occRBody (tx l) (tx [c]) 1 k (#[], l.length) = pure (ForInStep.yield ((#[] : Array Nat).push (l.length - k), l.length - k)) := by
      unfold StrLaws.occRBody
      rw [tx_len l, if_pos ⟨⟨by simp, by rw [tx_len]; simp only [List.length_cons, List.length_nil]; omega⟩, z.2⟩]
    rw [e]
    exact congrArg Prod.fst (occR_stay _ _ post _ (by simp))
  | j :: ks, k, post, hj, hk1, hk2, hk => by
    rw [List.cons_append, List.forIn_cons]
    have e : StrLaws.occRBody (tx l) (tx [c]) 1 j (#[], l.length) = pure (ForInStep.yield ((#[] : Array Nat), l.length)) := by
      unfold StrLaws.occRBody
      rw [if_neg]
      rintro ⟨⟨_, h1⟩, h2⟩
      rw [tx_len l] at h1 h2
      refine hj j List.mem_cons_self (at_tx.mp ⟨?_, h2⟩)
      rw [tx_len l]; exact h1
    rw [e]
    exact occR_find l c ks k post (fun x hx => hj x (List.mem_cons_of_mem _ hx)) hk1 hk2 hk
theorem rsplit_tx {a b : List Nat} {c : Nat} (hb : c ∉ b) (hc : c < 256) : Txt.rsplitMax (tx (a ++ c :: b)) (tx [c]) 1 = [tx a, tx b] := by
  have hlen : (tx (a ++ c :: b)).length = a.length + b.length + 1 := by rw [tx_len]; simp; omega
  have hget : ∀ j, j ≤ b.length → (a ++ c :: b)[(a ++ c :: b).length - j]? ≠ some c := by
    intro j hj e
    by_cases h0 : j = 0
    · subst h0
      rw [List.getElem?_eq_none (by omega)] at e; cases e
    · rw [List.getElem?_append_right (by simp; omega)] at e
      have e2 : (a ++ c :: b).length - j - a.length = (b.length - j) + 1 := by simp; omega
      rw [e2, List.getElem?_cons_succ] at e
      exact hb (List.mem_of_getElem? e)
  have hat : (a ++ c :: b)[(a ++ c :: b).length - (b.length + 1)]? = some c := by
    have e2 : (a ++ c :: b).length - (b.length + 1) = a.length := by simp only [List.length_append, List.length_cons]; omega
    rw [e2]; simp
  have key : occurrencesFromRight (tx (a ++ c :: b)) (tx [c]) 1 = [a.length] := by
    rw [StrLaws.occR_eq, hlen]
    have sp : List.range' 0 (a.length + b.length + 1 + 1) = List.range' 0 (b.length + 1) ++ (b.length + 1) :: List.range' (b.length + 2) a.length := by
      have e : a.length + b.length + 1 + 1 = (b.length + 1) + (1 + a.length) := by omega
      rw [e, ← List.range'_append_1]
      congr 1
      rw [Nat.add_comm 1, List.range'_succ]
      have e5 : 0 + (b.length + 1) = b.length + 1 := Nat.zero_add _
      rw [e5]
    have h := occR_find (a ++ c :: b) c (List.range' 0 (b.length + 1)) (b.length + 1) (List.range' (b.length + 2) a.length) (fun j hj => hget j (by rw [List.mem_range'_1] at hj; omega)) (by omega) (by simp only [List.length_append, List.length_cons]; omega) hat
    have e3 : (a ++ c :: b).length = a.length + b.length + 1 := by simp; omega
    rw [e3] at h
    rw [sp, h]
    have e4 : a.length + b.length + 1 - (b.length + 1) = a.length := by omega
    rw [e4]; rfl
  have lim : limitOf (tx (a ++ c :: b)) 1 = 1 := rfl
  have k1 : Str.strKind (tx [c]) = 1 := by
    unfold PySem.Builtin.Str.strKind
    rw [if_pos]
    simp [tx]; exact hc
  have k2 : 1 ≤ Str.strKind (tx (a ++ c :: b)) := by
    unfold PySem.Builtin.Str.strKind
    split
    · exact Nat.le_refl _
    · split <;> decide
  unfold Txt.rsplitMax
  rw [lim, key, if_neg, if_neg (by simp)]
  · rw [StrLaws.partsBetween_eq]
    show [strSub (tx (a ++ c :: b)) 0 a.length, strSub (tx (a ++ c :: b)) (a.length + (tx [c]).length) (tx (a ++ c :: b)).length] = _
    have f1 : strSub (tx (a ++ c :: b)) 0 a.length = tx a := by
      rw [← tx_of (strSub (tx (a ++ c :: b)) 0 a.length), StrLaws.strSub_toList, tx_cps]; simp
    have f2 : strSub (tx (a ++ c :: b)) (a.length + (tx [c]).length) (tx (a ++ c :: b)).length = tx b := by
      rw [← tx_of (strSub (tx (a ++ c :: b)) _ _), StrLaws.strSub_toList, tx_cps, tx_len, tx_len]
      have e : (a ++ c :: b).drop (a.length + [c].length) = b := by
        rw [← List.drop_drop]; simp
      show tx (((a ++ c :: b).drop (a.length + [c].length)).take _) = _
      rw [e, List.take_of_length_le (by simp only [List.length_append, List.length_cons, List.length_nil]; omega)]
    rw [f1, f2]
  · rw [k1, tx_len, tx_len]
    simp
    omega
theorem rfind_tx {a b : List Nat} {c : Nat} (hb : c ∉ b) : Txt.rfind (tx (a ++ c :: b)) (tx [c]) = (a.length : Int) := by
  have hat : (a ++ c :: b)[a.length]? = some c := by simp
  have hno : ∀ k, a.length < k → (a ++ c :: b)[k]? ≠ some c := fun k hk e => by
    rw [List.getElem?_append_right (by omega)] at e
    obtain ⟨m, rfl⟩ : ∃ m, k = a.length + m + 1 := ⟨k - a.length - 1, by omega⟩
    have e2 : a.length + m + 1 - a.length = m + 1 := by omega
    rw [e2, List.getElem?_cons_succ] at e
    exact hb (List.mem_of_getElem? e)
  unfold Txt.rfind
  rcases StrLaws.last_spec (tx (a ++ c :: b)) (tx [c]) with ⟨h1, h2⟩ | ⟨i, h1, h2, h3⟩
  · exact absurd (at_tx.mpr hat) (h2 a.length)
  · rw [h1]
    have e1 := at_tx.mp h2
    have : i = a.length := by
      rcases Nat.lt_trichotomy i a.length with h | h | h
      · exact absurd (at_tx.mpr hat) (h3 a.length h)
      · exact h
      · exact absurd e1 (hno i h)
    rw [this]
theorem ends_tx (l : List Nat) (c d : Nat) : Txt.endswith (tx (l ++ [d])) (tx [c]) = decide (d = c) := by
  unfold Txt.endswith
  rw [tx_len, tx_len, StrLaws.subAt_eq, tx_cps, tx_cps, tx_len]
  have e : (l ++ [d]).length - [c].length = l.length := by simp
  rw [e]
  simp
  by_cases h : d = c <;> simp [h]
theorem cutS_to (l : List Nat) (k : Nat) : L2.cutS (tx l) none (some (k : Int)) = tx (l.take k) := by
  unfold L2.cutS
  rw [tx_cps, tx_len, HT.sIx_nat, HT.sIx_none, List.drop_zero, Nat.sub_zero]
  show tx _ = _
  congr 1
  rcases Nat.le_total k l.length with h | h
  · rw [Nat.min_eq_left h]
  · rw [Nat.min_eq_right h, List.take_of_length_le (Nat.le_refl _), List.take_of_length_le h]
theorem cutS_from (l : List Nat) (k : Nat) : L2.cutS (tx l) (some (k : Int)) none = tx (l.drop k) := by
  unfold L2.cutS
  rw [tx_cps, tx_len, HT.sIx_nat, HT.sIx_none]
  show tx _ = _
  congr 1
  rcases Nat.le_total k l.length with h | h
  · rw [Nat.min_eq_left h, List.take_of_length_le (by simp)]
  · rw [Nat.min_eq_right h, List.drop_of_length_le h, List.drop_of_length_le (Nat.le_refl _), List.take_nil]
theorem cutS_last (l : List Nat) (d : Nat) : L2.cutS (tx (l ++ [d])) none (some (-1)) = tx l := by
  unfold L2.cutS
  rw [tx_cps, tx_len, HT.sIx_none, List.drop_zero, Nat.sub_zero]
  show tx _ = _
  congr 1
  have e : HT.sIx (l ++ [d]).length (l ++ [d]).length (some (-1)) = l.length := by
    show (if (-1 : Int) < 0 then ((-1 : Int) + ((l ++ [d]).length : Int)).toNat else min (-1 : Int).toNat (l ++ [d]).length) = _
    rw [if_pos (by decide)]; simp; omega
  rw [e]; simp
section
variable {g : Gr} {l a b : List Nat} {c d : Nat} {k : Int}
theorem v_cutTo (hz : l.length ≤ 8388608) (h : 0 ≤ k) : cutOp none (some k) (.str (tx l)) g = .ok (.str (tx (l.take k.toNat))) g := by
  have e : k = (k.toNat : Int) := (Int.toNat_of_nonneg h).symm
  have q := cutS_to l k.toNat
  rw [← e] at q
  unfold cutOp
  dsimp only
  rw [if_pos (by rw [tx_len]; exact Nat.le_trans hz sizeLine_big), q]
theorem v_cutFrom (hz : l.length ≤ 8388608) (h : 0 ≤ k) : cutOp (some k) none (.str (tx l)) g = .ok (.str (tx (l.drop k.toNat))) g := by
  have e : k = (k.toNat : Int) := (Int.toNat_of_nonneg h).symm
  have q := cutS_from l k.toNat
  rw [← e] at q
  unfold cutOp
  dsimp only
  rw [if_pos (by rw [tx_len]; exact Nat.le_trans hz sizeLine_big), q]
theorem v_cutLast (hz : l.length < 8388608) : cutOp none (some (-1)) (.str (tx (l ++ [d]))) g = .ok (.str (tx l)) g := by
  unfold cutOp
  dsimp only
  rw [if_pos (by rw [tx_len]; simp; exact Nat.le_trans hz sizeLine_big), cutS_last]
theorem v_splT (hz : l.length ≤ 8000000) : mSplit (.str (tx l)) [.str (tx [c])] g = .ok (.lst ((splitL c l).map fun p => .str (tx p))) g := by
  have s2 := sizeLine_big
  unfold mSplit
  dsimp only
  rw [if_pos ⟨by rw [tx_len]; rfl, by rw [tx_len]; omega⟩, split_tx, List.map_map]
  rfl
theorem v_rsplT (hb : c ∉ b) (hc : c < 256) (hz : a.length + b.length ≤ 8000000) : mRspl (.str (tx (a ++ c :: b))) [.str (tx [c]), .int 1] g = .ok (.lst [.str (tx a), .str (tx b)]) g := by
  have s2 := sizeLine_big
  unfold mRspl
  dsimp only
  rw [if_pos ⟨by rw [tx_len]; rfl, by decide, by decide, by rw [tx_len]; simp; omega⟩, rsplit_tx hb hc]
  rfl
theorem v_rfindT (hb : c ∉ b) : mRfind (.str (tx (a ++ c :: b))) [.str (tx [c])] g = .ok (.int a.length) g := by
  show R.ok (.int (Txt.rfind _ _)) g = _
  rw [rfind_tx hb]
theorem v_endsT : mEnds (.str (tx (l ++ [d]))) [.str (tx [c])] g = .ok (.bl (decide (d = c))) g := by
  show R.ok (.bl (Txt.endswith _ _)) g = _
  rw [ends_tx]
theorem v_inT : opIn (.str (tx [c])) (.str (tx l)) g = .ok (.bl (decide (c ∈ l))) g := by
  have e : (tx [c]).cps.toList = [c] := tx_cps _
  have e2 : (tx l).cps.toList = l := tx_cps _
  show opInB false _ _ g = _
  unfold opInB
  simp only [e, e2]
  simp
theorem v_notInT : opNotIn (.str (tx [c])) (.str (tx l)) g = .ok (.bl (!decide (c ∈ l))) g := by
  have e : (tx [c]).cps.toList = [c] := tx_cps _
  have e2 : (tx l).cps.toList = l := tx_cps _
  show opInB true _ _ g = _
  unfold opInB
  simp only [e, e2]
  simp
theorem strs_tx : ∀ ls : List (List Nat), strsD (ls.map fun p => .str (tx p)) = some (ls.map tx)
  | [] => rfl
  | p :: ls => by simp only [List.map_cons, strsD, strs_tx ls]; rfl
theorem v_joinT {ls : List (List Nat)} (h : (ls.map List.length).sum ≤ 8388608) : mJoin (.str (tx [])) [.lst (ls.map fun p => .str (tx p))] g = .ok (.str (tx ls.flatten)) g := by
  have e1 : ((ls.map tx).map (·.length)).sum = (ls.map List.length).sum := by
    rw [List.map_map]
    exact congrArg List.sum (List.map_congr_left fun p _ => tx_len p)
  unfold mJoin
  simp only [viewA, viewT, viewL, strs_tx]
  rw [if_pos (by rw [e1, tx_len, List.length_nil, Nat.mul_zero]; omega)]
  rw [join_e, List.map_map]
  have : ((fun z : Str => z.cps.toList) ∘ tx) = fun p => p := by funext p; exact tx_cps p
  rw [this, List.map_id']
end
end Fw

set_option maxRecDepth 100000
set_option maxHeartbeats 4000000
namespace Fw
open PySem PySem.Spec PyProof.Rows L2
section
variable {P : Program} {w : World} {K : PySem.W.Frag} {mg : Str → Option Value} {base : Heap} {Z : Sc} {hot : Option (Nat × Str)} {k : Nat} {X : Cx} {W : WX} {pos : Pos} {x : Str}
theorem re_strT {z : String} {j pos} (l : List Nat) (h : (z : Str) = tx l := by decide +kernel) : RE X W (.Constant (.str z) j pos) (eC (.str (tx l))) := by
  rw [← h]; exact re_str
theorem xgStrT (C : Cc P w K mg base Z hot k X W) (j : Nat) (l : List Nat) {z : Str} (hm : ∃ t, mg x = some (.str z t)) (h : z = tx l := by decide +kernel) (hN : Z.gl[j]? = some x := by rfl) : RE X W (.Name x pos) (eC (.str (tx l))) := by
  rw [← h]; exact xgStr C j hm hN
end
section
variable {ρ : En} {g : Gr} {a b : Exp} {tab : List (Str × Str)} {d e : D} {z y : Str}
def fTabR (tab : List (Str × Str)) (d : D) : R → R
  | .ok e g => (match d with
    | .str z => (match tab.lookup z with
      | some y => .ok (.str y) g
      | none => .ok e g)
    | _ => .no)
  | .err c g => .err c g
  | .no => .no
def fTabL (tab : List (Str × Str)) (b : Exp) (ρ : En) : R → R
  | .ok d g => fTabR tab d (b ρ g)
  | .err c g => .err c g
  | .no => .no
theorem v_tab : eTab tab a b ρ g = fTabL tab b ρ (a ρ g) := by
  show R.bind (a ρ g) _ = _
  cases a ρ g with
  | ok d g =>
    show R.bind (b ρ g) _ = fTabR tab d (b ρ g)
    cases b ρ g with
    | ok e g => cases d <;> rfl
    | _ => rfl
  | _ => rfl
theorem w_tabL : fTabL tab b ρ (.ok d g) = fTabR tab d (b ρ g) := rfl
theorem w_tabR (h : tab.lookup z = some y) : fTabR tab (.str z) (.ok e g) = .ok (.str y) g := by
  show (match tab.lookup z with | some y => R.ok (.str y) g | none => .ok e g) = _
  rw [h]
end
end Fw

set_option maxRecDepth 100000
set_option maxHeartbeats 4000000
namespace Fw
open PySem PySem.Spec PyProof.Rows
section
variable {g : Gr} {a b : List Nat} {c : Nat}
theorem v_lstT {ds : List D} : fLstO [.tup ds] g = .ok (.lst ds) g := rfl
theorem v_lstL {ds : List D} : fLstO [.lst ds] g = .ok (.lst ds) g := rfl
theorem v_tupT {ds : List D} : fTupO [.tup ds] g = .ok (.tup ds) g := rfl
theorem v_tupL {ds : List D} : fTupO [.lst ds] g = .ok (.tup ds) g := rfl
theorem v_isBt {x : Bool} : opIsB true (.bl x) .non g = .ok (.bl (decide (x = true))) g := rfl
theorem v_isBf {x : Bool} : opIsB false (.bl x) .non g = .ok (.bl (decide (x = false))) g := rfl
theorem v_isBi {t : Bool} {i : Int} : opIsB t (.int i) .non g = .ok (.bl false) g := rfl
theorem v_isBs {t : Bool} {z : Str} : opIsB t (.str z) .non g = .ok (.bl false) g := rfl
theorem v_ixL0 {x : D} {ds : List D} : opIx (.lst (x :: ds)) (.int 0) g = .ok x g := o_ixL (k := 0) rfl
theorem v_ixL1 {x y : D} {ds : List D} : opIx (.lst (x :: y :: ds)) (.int 1) g = .ok y g := o_ixL (k := 1) rfl
theorem v_isTs {z : Str} : opIsT "str" (.str z) g = .ok (.bl true) g := rfl
theorem v_isTsI {i : Int} : opIsT "str" (.int i) g = .ok (.bl false) g := rfl
theorem v_isTsB {i : Bool} : opIsT "str" (.bl i) g = .ok (.bl false) g := rfl
end
theorem bools_of : ∀ bs : List Bool, bools (bs.map D.bl) = some bs
  | [] => rfl
  | b :: bs => by simp only [List.map_cons, bools, bools_of bs]; rfl
theorem v_allB {bs : List Bool} {g : Gr} : fAll [.lst (bs.map D.bl)] g = .ok (.bl (bs.all fun b => b)) g := by
  show (match bools (bs.map D.bl) with | some bs => R.ok (.bl (bs.all id)) g | none => .no) = _
  rw [bools_of]; rfl
theorem v_all0 {g : Gr} : fAll [.lst []] g = .ok (.bl true) g := rfl
theorem v_all1 {b0 : Bool} {g : Gr} : fAll [.lst [.bl b0]] g = .ok (.bl (b0 && true)) g := rfl
theorem v_all2 {b0 b1 : Bool} {g : Gr} : fAll [.lst [.bl b0, .bl b1]] g = .ok (.bl (b0 && (b1 && true))) g := rfl
theorem v_all3 {b0 b1 b2 : Bool} {g : Gr} : fAll [.lst [.bl b0, .bl b1, .bl b2]] g = .ok (.bl (b0 && (b1 && (b2 && true)))) g := rfl
theorem v_all4 {b0 b1 b2 b3 : Bool} {g : Gr} : fAll [.lst [.bl b0, .bl b1, .bl b2, .bl b3]] g = .ok (.bl (b0 && (b1 && (b2 && (b3 && true))))) g := rfl
theorem v_all5 {b0 b1 b2 b3 b4 : Bool} {g : Gr} : fAll [.lst [.bl b0, .bl b1, .bl b2, .bl b3, .bl b4]] g = .ok (.bl (b0 && (b1 && (b2 && (b3 && (b4 && true)))))) g := rfl
theorem v_all6 {b0 b1 b2 b3 b4 b5 : Bool} {g : Gr} : fAll [.lst [.bl b0, .bl b1, .bl b2, .bl b3, .bl b4, .bl b5]] g = .ok (.bl (b0 && (b1 && (b2 && (b3 && (b4 && (b5 && true))))))) g := rfl
theorem v_all7 {b0 b1 b2 b3 b4 b5 b6 : Bool} {g : Gr} : fAll [.lst [.bl b0, .bl b1, .bl b2, .bl b3, .bl b4, .bl b5, .bl b6]] g = .ok (.bl (b0 && (b1 && (b2 && (b3 && (b4 && (b5 && (b6 && true)))))))) g := rfl
theorem v_all8 {b0 b1 b2 b3 b4 b5 b6 b7 : Bool} {g : Gr} : fAll [.lst [.bl b0, .bl b1, .bl b2, .bl b3, .bl b4, .bl b5, .bl b6, .bl b7]] g = .ok (.bl (b0 && (b1 && (b2 && (b3 && (b4 && (b5 && (b6 && (b7 && true))))))))) g := rfl
theorem v_appT2 {x : D} {xs ys : List D} {g : Gr} (h : xs.length + 1 + ys.length ≤ 8388608) : opAdd (.tup (x :: xs)) (.tup ys) g = .ok (.tup (x :: xs ++ ys)) g := v_appT ⟨List.cons_ne_nil _ _, by rw [List.length_cons]; exact h⟩
theorem v_lz {cs : List Nat} {ds : List D} {g : Gr} (h : cs.length ≤ 8388608) : fLZ [.str (tx cs), .lst ds] g = .ok (.lst (zpD (cs.map fun c => .str (tx [c])) ds)) g := by
  show (if min (chD (tx cs)).length ds.length ≤ sizeLine then R.ok (.lst (zpD (chD (tx cs)) ds)) g else .no) = _
  rw [chD_tx, if_pos]
  rw [List.length_map]
  have := sizeLine_big
  omega
theorem v_castN {n : Nat} : ((no_index (OfNat.ofNat n : Nat) : Nat) : Int) = (OfNat.ofNat n : Int) := rfl
theorem v_zpN {ds : List D} : zpD [] ds = [] := by cases ds <;> rfl
theorem v_zpN2 {ds : List D} : zpD ds [] = [] := by cases ds <;> rfl
theorem v_zpC {a b : D} {as bs : List D} : zpD (a :: as) (b :: bs) = .tup [a, b] :: zpD as bs := rfl
theorem v_intT {m : Nat} {g : Gr} (h : m < 1000000000000000000) : fInt [.str (tx (nm m))] g = .ok (.int m) g := by
  have hl : (nm m).length ≤ 18 := nm_len 17 m h
  show (match PySem.intText? (tx (nm m)) with | some n => if (tx (nm m)).length ≤ 640 then R.ok (.int n) g else .no | none => .no) = _
  rw [nm_int (by omega)]
  exact if_pos (by rw [tx_len]; omega)
theorem v_in2 {l a b : List Nat} {g : Gr} : opIn (.str (tx l)) (.tup [.str (tx a), .str (tx b)]) g = .ok (.bl (decide (l = a ∨ l = b))) g := by
  show R.ok (.bl (if false then _ else inD (.str (tx l)) [.str (tx a), .str (tx b)])) g = _
  have e : inD (.str (tx l)) [.str (tx a), .str (tx b)] = decide (l = a ∨ l = b) := by
    have c1 : (tx a == tx l) = decide (l = a) := by rw [tx_beq]; exact decide_eq_decide.mpr eq_comm
    have c2 : (tx b == tx l) = decide (l = b) := by rw [tx_beq]; exact decide_eq_decide.mpr eq_comm
    simp [inD, feq, c1, c2]
  rw [e]; rfl
noncomputable def fLcE (kp : Gr → Prop) (t : Tg) (c e : Exp) (ρ : En) (fin : List D → Gr → R) (ds acc : List D) : R → R
  | .ok y g => lcLoop kp t c e ρ fin ds (acc ++ [y]) g
  | _ => .no
noncomputable def fLcC (kp : Gr → Prop) (t : Tg) (c e : Exp) (ρ : En) (fin : List D → Gr → R) (ds acc : List D) (ρ1 : En) : R → R
  | .ok x g => x.br (fLcE kp t c e ρ fin ds acc (e ρ1 g)) (lcLoop kp t c e ρ fin ds acc g)
  | _ => .no
noncomputable def fLcT (kp : Gr → Prop) (t : Tg) (c e : Exp) (ρ : En) (fin : List D → Gr → R) (ds acc : List D) : Option (En × Gr) → R
  | some (ρ1, g) => fLcC kp t c e ρ fin ds acc ρ1 (c ρ1 g)
  | none => .no
section
variable {kp : Gr → Prop} {t : Tg} {c e : Exp} {ρ ρ1 : En} {fin : List D → Gr → R} {ds acc : List D} {g : Gr} {d y : D} {b : Stm}
theorem v_lcNil : lcLoop kpT t c e ρ fin [] acc g = fin acc g := by unfold lcLoop; exact if_pos trivial
theorem v_lcCons (h : acc.length < 8388608) : lcLoop kpT t c e ρ fin (d :: ds) acc g = fLcT kpT t c e ρ fin ds acc (t d ρ g) := by
  rw [lcLoop]
  rw [if_pos ⟨trivial, Nat.lt_of_lt_of_le h sizeLine_big⟩]
  cases t d ρ g with
  | none => rfl
  | some p =>
    obtain ⟨ρ1, g1⟩ := p
    show (match c ρ1 g1 with | .ok x g2 => _ | _ => _) = fLcC kpT t c e ρ fin ds acc ρ1 (c ρ1 g1)
    cases c ρ1 g1 with
    | ok x g2 =>
      show x.br (match e ρ1 g2 with | .ok y g3 => _ | _ => _) _ = x.br (fLcE kpT t c e ρ fin ds acc (e ρ1 g2)) _
      cases e ρ1 g2 <;> rfl
    | _ => rfl
theorem w_lcT : fLcT kp t c e ρ fin ds acc (some (ρ1, g)) = fLcC kp t c e ρ fin ds acc ρ1 (c ρ1 g) := rfl
theorem w_lcCt : fLcC kp t c e ρ fin ds acc ρ1 (.ok (.bl true) g) = fLcE kp t c e ρ fin ds acc (e ρ1 g) := rfl
theorem w_lcCf : fLcC kp t c e ρ fin ds acc ρ1 (.ok (.bl false) g) = lcLoop kp t c e ρ fin ds acc g := rfl
theorem w_lcE : fLcE kp t c e ρ fin ds acc (.ok y g) = lcLoop kp t c e ρ fin ds (acc ++ [y]) g := rfl
theorem v_yes : eYes ρ g = .ok (.bl true) g := rfl
theorem v_finF : finF ds g = .ok (.lst ds) g := rfl
noncomputable def fRest (kp : Gr → Prop) (t : Tg) (b : Stm) (ds : List D) : S → S
  | .nx ρ g => sLoop kp t b ds ρ g
  | .ct ρ g => sLoop kp t b ds ρ g
  | .bk ρ g => .nx ρ g
  | .ret d g => .ret d g
  | .err c ρ g => .err c ρ g
  | .no => .no
theorem v_loopNil : sLoop kpT t b [] ρ g = .nx ρ g := by unfold sLoop; exact if_pos trivial
theorem v_loopCons : sLoop kpT t b (d :: ds) ρ g = fRest kpT t b ds (fTurn b (t d ρ g)) := by
  rw [sLoop]
  rw [if_pos (show kpT g from trivial)]
  cases t d ρ g with
  | none => rfl
  | some p =>
    obtain ⟨ρ1, g1⟩ := p
    show (match b ρ1 g1 with | .nx ρ2 g2 => _ | .ct ρ2 g2 => _ | .bk ρ2 g2 => _ | .ret d g2 => _ | .err c ρ2 g2 => _ | .no => _) = fRest kpT t b ds (b ρ1 g1)
    cases b ρ1 g1 <;> rfl
theorem w_restN : fRest kp t b ds (.nx ρ g) = sLoop kp t b ds ρ g := rfl
theorem w_restC : fRest kp t b ds (.ct ρ g) = sLoop kp t b ds ρ g := rfl
theorem w_restB : fRest kp t b ds (.bk ρ g) = .nx ρ g := rfl
theorem w_restR : fRest kp t b ds (.ret d g) = .ret d g := rfl
end
end Fw

set_option maxRecDepth 100000
set_option maxHeartbeats 4000000
namespace Fw
open PySem PySem.Spec PyProof.Rows L2
theorem excCB_ok {K : PySem.W.Frag} {x : Str} (h : excCB K x = true) : ExcC K (He.ga K x) := by
  obtain ⟨h1, h⟩ := He.ba h
  obtain ⟨h2, h⟩ := He.ba h
  obtain ⟨h3, h⟩ := He.ba h
  obtain ⟨h4, h⟩ := He.ba h
  obtain ⟨h5, h⟩ := He.ba h
  obtain ⟨h6, h⟩ := He.ba h
  obtain ⟨h7, h8⟩ := He.ba h
  exact ⟨He.eqO_ok h1, He.eqO_ok h2, of_decide_eq_true h3, h4, He.eqO_ok h5, He.eqO_ok h6, of_decide_eq_true h7, of_decide_eq_true h8⟩
section
variable {L Cs Is : List Str} {K : PySem.W.Frag} {x y : Str}
theorem excB_exc (h : excB L Cs Is K = true) (hx : x ∈ L) : (He.Fa.exc x).ok K = true := (He.ba (List.all_eq_true.mp h x hx)).1
theorem excB_cls (h : excB L Cs Is K = true) (hx : x ∈ L) : ExcC K (He.ga K x) := excCB_ok (He.ba (He.ba (List.all_eq_true.mp h x hx)).2).1
theorem excB_exm (h : excB L Cs Is K = true) (hx : x ∈ L) (hy : y ∈ Cs) : PySem.W.exmOne K (.ref (He.ga K x)) (clsV K y) = some (isSub x y) :=
  of_decide_eq_true (List.all_eq_true.mp (He.ba (He.ba (He.ba (List.all_eq_true.mp h x hx)).2).2).1 y hy)
theorem excB_kit (h : excB L Cs Is K = true) (hx : x ∈ L) (hy : y ∈ Is) : PySem.W.kitOne K (.ref (He.ga K x)) (clsV K y) = some (isSub x y) :=
  of_decide_eq_true (List.all_eq_true.mp (He.ba (He.ba (He.ba (List.all_eq_true.mp h x hx)).2).2).2 y hy)
end
def sRaise (c : Str) : Stm := fun ρ g => .err c ρ g
section
variable {P : Program} {w : World} {K : PySem.W.Frag} {mg : Str → Option Value} {base : Heap} {Z : Sc} {hot : Option (Nat × Str)} {k : Nat} {X : Cx} {W : WX} {x : Str} {L Cs Is : List Str}
theorem rs_raise (C : Cc P w K mg base Z none k X W) (i : Nat) (B : excB L Cs Is K = true) (gx : mg x = some (.ref (He.ga K x))) {m : Str} {j : Nat} {p2 p pos pos' : Pos} (hx : x ∈ L := by decide +kernel) (hN : Z.gl[i]? = some x := by rfl) :
    RS X W (.Raise (some (.Call (.Name x p) [.Constant (.str m) j p2] [] pos)) none pos') (sRaise x) := by
  obtain ⟨h1, h2⟩ := C.glo hN
  obtain ⟨e1, e2, e3, e4⟩ := He.exc_ok (excB_exc B hx)
  refine ps_weak (L2N.ps_raise C.calm C.tk (L2N.pmk_own PySem.F.excBase_ValueError (C := He.ga K x) (by rw [C.pK]; exact e1) (by rw [C.pm]; exact gx) (by rw [C.pK]; exact e2) (raises_own (by rw [C.pK]; exact e3) (by rw [C.pK]; exact e4)) h1 h2)) ?_
  rintro Dn σ H ⟨w1, ρ, g, S0, L', o⟩
  have o2 := o σ H w1 (Wd.Le.refl _) S0 L'
  rw [C.pK] at o2
  exact o2
def opIsE (L Is : List Str) (ac : Nat × Str) (y : Str) (d : D) (g : Gr) : R := match d with
  | .err c a => if (a = ac.1 ∧ c = ac.2) ∧ c ∈ L ∧ y ∈ Is then .ok (.bl (isSub c y)) g else .no
  | _ => .no
theorem call_isP {ac : Nat × Str} {p : Addr × Obj} (hp : HotP X.K X.A ac p) (hm : p ∈ X.pn) (C : ExcC X.K (He.ga X.K ac.2)) : CallR X (.builtin "isinstance") (rIsE X.K (He.ga X.K ac.2) ac.1) := by
  intro pins s σ H xs us Q I r h
  obtain ⟨c, cv, b, rfl, hcv, e, q⟩ := h
  cases r with
  | cons rx rr =>
    cases rr with
    | cons rt rr =>
      cases rr
      cases rx
      have ec := hcv _ rt
      subst ec
      obtain ⟨hget, _⟩ := I.pin p (List.mem_append.mpr (.inl hm))
      obtain ⟨vs, hv⟩ := hp.fl
      have eqa := hp.eq
      have hz := hp.zn
      obtain ⟨pa, po⟩ := p
      have J : PySem.W.InstAt s.heap ac.1 po (He.ga X.K ac.2) none := by
        obtain ⟨oc, od, oda, osl⟩ := po
        obtain ⟨z1, z2, _⟩ := hz
        dsimp only at z1 z2 hv eqa hget
        subst z1 z2 hv eqa
        exact ⟨hget, rfl, rfl, trivial⟩
      exact PySem.W.kia_one (PySem.W.handS_kitx_exc C.hg C.hk C.hs C.hd C.ha C.hn C.ht C.hm) I.kIn J e (fun z => nomatch z) fun tk => ⟨.bl b, H, I.kept (t' := tk) fun _ _ z => z, rfl, q⟩
theorem isE_of {ac : Nat × Str} {e : Expr} {m : Exp} {y : Str} {c : V} {p p2 pos : Pos} (C : Cc P w K mg base Z (some ac) k X W) (i : Nat) (B : excB L Cs Is K = true) (fr : mg "isinstance" = none)
    (hy : PE X (.Name y p2) (tC c)) (hcv : ∀ u, RelV c u → u = clsV K y) (ha : RE X W e m) (hN : Z.gl[i]? = some "isinstance")
    (hs1 : starEach [e, .Name y p2] X.env = (false, eval e X.env) :: starEach [.Name y p2] X.env) (hs2 : starEach [.Name y p2] X.env = (false, eval (.Name y p2) X.env) :: starEach [] X.env) (hpl : (backTo pos (starEach [.Name y p2] X.env)).any (·.1) = false) :
    RE X W (.Call (.Name "isinstance" p) [e, .Name y p2] [] pos) (eUn (opIsE L Is ac y) m) := by
  obtain ⟨h1, h2⟩ := C.glo hN
  obtain ⟨q, hq, hm⟩ : ∃ q, HotP X.K X.A ac q ∧ q ∈ X.pn := by
    obtain ⟨_, q, e2, e3⟩ := C.md
    rw [C.pK]; exact ⟨q, e2, e3⟩
  have rule : CallR X (.builtin "isinstance") (fun xs H Q => ac.2 ∈ L ∧ rIsE X.K (He.ga X.K ac.2) ac.1 xs H Q) := by
    intro pins s σ H xs us Q I r h
    exact call_isP hq hm (by rw [C.pK]; exact excB_cls B h.1) pins s σ H xs us Q I r h.2
  refine pe_weak (pe_callB rule h1 (by rw [C.pm]; exact fr) boot_isinstance (pa_cons ha (pa_cons hy pa_nil hs2) hs1) (by decide) h2 hs1 hpl) ?_
  rintro σ H Q ⟨w1, ρ, g, S0, L', o⟩
  refine bindM S0 L' o fun d g1 x H1 w2 le S1 L1 rx o1 => ?_
  unfold opIsE at o1
  split at o1
  · rename_i c' a'
    split at o1
    · rename_i hh
      obtain ⟨⟨rfl, rfl⟩, hL, hI⟩ := hh
      simp only [Rep] at rx
      exact ⟨hL, c, clsV K y, isSub ac.2 y, by rw [rx], hcv, by rw [C.pK]; exact excB_kit B hL hI, Out.here o1 S1 rep_bl'⟩
    · exact o1.elim
  · exact o1.elim
theorem xIsEo {ac : Nat × Str} {e : Expr} {m : Exp} {y : Str} {p p2 pos : Pos} (C : Cc P w K mg base Z (some ac) k X W) (i j : Nat) (B : excB L Cs Is K = true) (fr : mg "isinstance" = none)
    (gy : mg y = some (.ref (He.ga K y))) (ha : RE X W e m) (hn : (y == ("ValueError" : Str)) = false := by decide +kernel) (hN : Z.gl[i]? = some "isinstance" := by rfl) (hN2 : Z.gl[j]? = some y := by rfl)
    (hs1 : starEach [e, .Name y p2] X.env = (false, eval e X.env) :: starEach [.Name y p2] X.env := by rfl) (hs2 : starEach [.Name y p2] X.env = (false, eval (.Name y p2) X.env) :: starEach [] X.env := by rfl) (hpl : (backTo pos (starEach [.Name y p2] X.env)).any (·.1) = false := by rfl) :
    RE X W (.Call (.Name "isinstance" p) [e, .Name y p2] [] pos) (eUn (opIsE L Is ac y) m) := by
  obtain ⟨h3, h4⟩ := C.glo hN2
  refine isE_of (c := .ref (He.ga K y)) C i B fr (pe_glob h3 (by rw [C.pm]; exact gy) rfl h4) (fun u r => ?_) ha hN hs1 hs2 hpl
  unfold clsV
  rw [if_neg (by rw [hn]; exact Bool.false_ne_true)]
  exact r
theorem xIsEv {ac : Nat × Str} {e : Expr} {m : Exp} {p p2 pos : Pos} (C : Cc P w K mg base Z (some ac) k X W) (i j : Nat) (B : excB L Cs Is K = true) (fr : mg "isinstance" = none)
    (gy : mg "ValueError" = none) (ha : RE X W e m) (hN : Z.gl[i]? = some "isinstance" := by rfl) (hN2 : Z.gl[j]? = some "ValueError" := by rfl)
    (hs1 : starEach [e, .Name "ValueError" p2] X.env = (false, eval e X.env) :: starEach [.Name "ValueError" p2] X.env := by rfl) (hs2 : starEach [.Name "ValueError" p2] X.env = (false, eval (.Name "ValueError" p2) X.env) :: starEach [] X.env := by rfl) (hpl : (backTo pos (starEach [.Name "ValueError" p2] X.env)).any (·.1) = false := by rfl) :
    RE X W (.Call (.Name "isinstance" p) [e, .Name "ValueError" p2] [] pos) (eUn (opIsE L Is ac "ValueError") m) := by
  obtain ⟨h3, h4⟩ := C.glo hN2
  refine isE_of (c := .ty "ValueError") C i B fr (pe_bltn h3 (by rw [C.pm]; exact gy) boot_ValueError (show RelV (.ty "ValueError") _ from rfl) (by decide) h4) (fun u r => ?_) ha hN hs1 hs2 hpl
  exact r
end
def unL {α : Type} (i : Option Nat) (l : List (Option α)) : List (Option α) := match i with
  | some i => l.set i none
  | none => l
def S.un (i : Option Nat) : S → S
  | .nx ρ g => .nx (unL i ρ) g
  | .ct ρ g => .ct (unL i ρ) g
  | .bk ρ g => .bk (unL i ρ) g
  | .ret d g => .ret d g
  | .err _ _ _ => .no
  | .no => .no
open Classical in
noncomputable def sAll (f : Nat → S) : S := if ∀ a, f a = f 0 then f 0 else .no
noncomputable def sTryAs (L Cs : List Str) (y : Str) (i : Nat) (b : Stm) (s : Nat × Str → Stm) : Stm := fun ρ g => match b ρ g with
  | .err e ρ1 g1 => if e ∈ L ∧ y ∈ Cs then (if isSub e y = true then sAll fun a => (s (a, e) (ρ1.set i (some (.err e a))) g1).un (some i) else .err e ρ1 g1) else .no
  | r => r
noncomputable def sHds (L Cs : List Str) (e : Str) (ρ : En) (g : Gr) : List (Str × (Nat × Str → Stm)) → S
  | [] => .err e ρ g
  | (y, s) :: r => if y ∈ Cs then (if isSub e y = true then sAll fun a => (s (a, e) ρ g).un none else sHds L Cs e ρ g r) else .no
noncomputable def sTryMany (L Cs : List Str) (b : Stm) (hs : List (Str × (Nat × Str → Stm))) : Stm := fun ρ g => match b ρ g with
  | .err e ρ1 g1 => if e ∈ L then sHds L Cs e ρ1 g1 hs else .no
  | r => r
theorem rm_mark {k : Nat} {A : Around} {v : Option Value} (h : RM k A) : RM k (A.mark v) := ⟨h.dp, h.un, h.gd⟩
theorem takes_noN {X : Cx} : L2N.Takes X NoW := fun _ _ ⟨_, _, _, _, _, _, _, _, _, _, _, _, _, _, _, _, w⟩ => w.elim
section
variable {P : Program} {w : World} {K : PySem.W.Frag} {mg : Str → Option Value} {base : Heap} {Z : Sc} {hot : Option (Nat × Str)} {k : Nat} {X : Cx} {W : WX} {L Cs Is : List Str}
theorem Cc.tr (C : Cc P w K mg base Z none k X W) {W' : WX} {pn : List (Addr × Obj)} {xe : Value → Shared → Prop} (tk : L2N.Takes (X.tr pn xe) W') (hp : PassesOwn (model X.prog X.w) X.A X.env xe) : Cc P w K mg base Z none k (X.tr pn xe) W' :=
  ⟨C.pP, C.pw, C.pK, C.pm, C.pb, C.nn, C.ss, C.nd, C.room, tk, hp, C.md, C.okv, C.okg, C.oks, C.stk⟩
theorem Cc.suite (C : Cc P w K mg base Z none k X W) {a : Nat} {e : Str} {oe : Obj} {pn : List (Addr × Obj)} (hz : L2N.Zn (.ref (He.ga K e)) none oe) (hf : ∃ vs, oe.data = .fields vs) : Cc P w K mg base Z (some (a, e)) k (X.suite a ((a, oe) :: pn)) NoW :=
  ⟨C.pP, C.pw, C.pK, C.pm, C.pb, C.nn, C.ss, C.nd, rm_mark C.room, takes_noN, PassesOwn.never, ⟨rfl, (a, oe), ⟨rfl, rfl, hz, hf⟩, List.mem_cons_self⟩, C.okv, C.okg, C.oks, C.stk⟩
theorem OutS.un {K : PySem.W.Frag} {w : Wd} {r : S} {i : Option Nat} {Dn : Ends} {W : WX} (o : OutS K w (r.un i) Dn W) :
    OutS K w r { nx := fun σ H => Dn.nx (unL i σ) H, rt := Dn.rt, bk := fun σ H => Dn.bk (unL i σ) H, ct := fun σ H => Dn.ct (unL i σ) H } NoW := by
  have sl : ∀ {w : Wd} {ρ : En} {σ : L2.St}, SL K w ρ σ → SL K w (unL i ρ) (unL i σ) := fun {w ρ σ} h => by
    cases i with
    | none => exact h
    | some i => exact h.del none
  cases r with
  | nx ρ g => exact fun σ H w' le S l => o _ H w' le S (sl l)
  | ct ρ g => exact fun σ H w' le S l => o _ H w' le S (sl l)
  | bk ρ g => exact fun σ H w' le S l => o _ H w' le S (sl l)
  | ret d g => exact o
  | err c ρ g => exact o.elim
  | no => exact o.elim
theorem sAll_at {f : Nat → S} {K : PySem.W.Frag} {w : Wd} {Dn : Ends} {W : WX} (o : OutS K w (sAll f) Dn W) (a : Nat) : OutS K w (f a) Dn W := by
  unfold sAll at o
  split at o
  · rename_i h
    rw [h a]; exact o
  · exact o.elim
theorem rs_tryAs (C : Cc P w K mg base Z none k X W) (i j : Nat) {y n : Str} {body suite : List Stmt} {b0 : Stmt} {np pos pos' : Pos} {mb : Stm} {ms : Nat × Str → Stm} (B : excB L Cs Is K = true) (gy : mg y = some (.ref (He.ga K y)))
    (hb : ∀ X' W', Cc P w K mg base Z none k X' W' → RB X' W' body mb) (hs : ∀ X' ac, Cc P w K mg base Z (some ac) k X' NoW → RB X' NoW (b0 :: suite) (ms ac))
    (hn : (y == ("ValueError" : Str)) = false := by decide +kernel) (ht : Z.top = true := by rfl) (hi : Z.N[i]? = some n := by rfl) (hl : Z.sc.names.lookup n = some .local := by rfl) (hN : Z.gl[j]? = some y := by rfl) :
    RS X W (.Try body [.ExceptHandler (some (.Name y np)) (some n) (b0 :: suite) pos'] [] [] pos) (sTryAs L Cs y i mb ms) := by
  obtain ⟨h1, h2⟩ := C.stk ht
  obtain ⟨h3, h4⟩ := C.glo hN
  refine ps_weak (L2N.ps_try_as (i := i) (c := .ref (He.ga K y)) (tb := fun W' => tMS X.K W' mb) (ts := fun a cls d D σ H => ∃ e, cls = .ref (He.ga K e) ∧ d = none ∧ tMS X.K NoW (ms (a, e)) D σ H) h1 h2 (by rw [C.nn]; exact C.nd) (by rw [C.nn]; exact hi)
    (show X.env.scope.names.lookup n = some .local by rw [C.ss]; exact hl) ⟨h3, h4, .inl (by rw [C.pm]; exact gy)⟩ C.tk (fun W' pn xe tk hp => hb (X.tr pn xe) W' (C.tr tk hp)) (fun a oe cls d pn hz hf => ⟨fun pins s σ H D I q => ?_⟩)) ?_
  · obtain ⟨e, rfl, rfl, q⟩ := q
    exact (hs (X.suite a ((a, oe) :: pn)) (a, e) (C.suite hz hf)).run pins s σ H D I q
  · rintro Dn σ H ⟨w1, ρ, g, S0, L', o⟩
    refine ⟨w1, ρ, g, S0, L', ?_⟩
    unfold sTryAs at o
    cases e : mb ρ g with
    | err c ρ1 g1 =>
      simp only [e] at o
      split at o
      · rename_i hh
        intro σ1 H1 w2 le S1 L1
        have ex := excB_exm B hh.1 hh.2
        unfold clsV at ex
        rw [if_neg (by rw [hn]; exact Bool.false_ne_true)] at ex
        refine ⟨isSub c y, by rw [C.pK]; exact ex, fun ht a ha => ?_, fun hf => ?_⟩
        · rw [if_pos ht] at o
          refine ⟨c, by rw [C.pK], rfl, w2, ρ1.set i (some (.err c a)), g1, S1, L1.set (by simp only [Rep]), ?_⟩
          exact ((sAll_at o a).un).weak le
        · rw [if_neg (by rw [hf]; exact Bool.false_ne_true)] at o
          exact o σ1 H1 w2 le S1 L1
      · exact o.elim
    | nx ρ1 g1 => rw [e] at o; exact o
    | bk ρ1 g1 => rw [e] at o; exact o
    | ct ρ1 g1 => rw [e] at o; exact o
    | ret d g1 => rw [e] at o; exact o
    | no => rw [e] at o; exact o
inductive Hds (P : Program) (w : World) (K : PySem.W.Frag) (mg : Str → Option Value) (base : Heap) (Z : Sc) (k : Nat) : List ExceptHandler → List (Str × (Nat × Str → Stm)) → Prop
  | nil : Hds P w K mg base Z k [] []
  | cons {y : Str} {ms : Nat × Str → Stm} {b0 : Stmt} {suite : List Stmt} {np pos' : Pos} {hds : List ExceptHandler} {l : List (Str × (Nat × Str → Stm))} (j : Nat) (gy : mg y = some (.ref (He.ga K y)))
      (hs : ∀ X' ac, Cc P w K mg base Z (some ac) k X' NoW → RB X' NoW (b0 :: suite) (ms ac)) (r : Hds P w K mg base Z k hds l)
      (hn : (y == ("ValueError" : Str)) = false := by decide +kernel) (hN : Z.gl[j]? = some y := by rfl) :
      Hds P w K mg base Z k (.ExceptHandler (some (.Name y np)) none (b0 :: suite) pos' :: hds) ((y, ms) :: l)
def tsOf (K : PySem.W.Frag) (ms : Nat × Str → Stm) : Addr → Value → Option Addr → TS := fun a cls d D σ H => ∃ e, cls = .ref (He.ga K e) ∧ d = none ∧ tMS K NoW (ms (a, e)) D σ H
theorem Hds.ok (C : Cc P w K mg base Z none k X W) {hds : List ExceptHandler} {l : List (Str × (Nat × Str → Stm))} (h : Hds P w K mg base Z k hds l) : L2N.HdsOk X hds (l.map fun p => (.ref (He.ga K p.1), tsOf X.K p.2)) := by
  induction h with
  | nil => exact .nil
  | cons j gy hs r hn hN ih =>
    obtain ⟨h3, h4⟩ := C.glo hN
    refine .cons ⟨h3, h4, .inl (by rw [C.pm]; exact gy)⟩ (fun a oe cls d pn hz hf => ⟨fun pins s σ H D I q => ?_⟩) ih
    obtain ⟨e, rfl, rfl, q⟩ := q
    exact (hs (X.suite a ((a, oe) :: pn)) (a, e) (C.suite (by rw [← C.pK]; exact hz) hf)).run pins s σ H D I q
end
end Fw
namespace Fw
open PySem PySem.Spec PyProof.Rows L2
theorem fk_one {K : PySem.W.Frag} {c f : Str} (h1 : (He.Fa.cls c).ok K = true) (h2 : (He.Fa.noat c f).ok K = true) : Fk K [c] f :=
  ⟨fun c' h => by rw [List.mem_singleton] at h; subst h; exact He.cls_ok h1, fun c' h => by rw [List.mem_singleton] at h; subst h; exact He.noat_ok h2⟩
section
variable {P : Program} {w : World} {K : PySem.W.Frag} {mg : Str → Option Value} {base : Heap} {Z : Sc} {hot : Option (Nat × Str)} {k j n : Nat} {X : Cx} {W : WX} {c mn f : Str} {m : Fn} {cs : List Str} {o value : Expr} {mo mv : Exp} {pos pos' : Pos}
theorem ma_one {fd : FuncData} {ps : List Str} (h1 : (He.Fa.cls c).ok K = true) (h2 : (He.Fa.meth c mn).ok K = true) (F : FnM P w K mg base hot j (He.fAd K (c, some mn)) fd ps (spM K n m)) (hb : Binds K fd ps []) (no : ∀ ds g, ds.length ≠ n → m ds g = .no) : Ma P w K mg base hot j n [c] mn m :=
  ⟨fun c' h => by rw [List.mem_singleton] at h; subst h; exact ⟨He.cls_ok h1, _, fd, ps, He.meth_ok h2, F, hb⟩, no⟩
theorem ka_one {fd : FuncData} {ps : List Str} (h1 : (He.Fa.mkr c).ok K = true) (hm : mg c = some (.ref (He.ga K c))) (F : FnM P w K mg base hot j (He.fAd K (c, some "__init__")) fd ps (spM K n m)) (hb : Binds K fd ps []) (no : ∀ ds g, ds.length ≠ n → m ds g = .no) : Ka P w K mg base hot j n c m :=
  ⟨⟨_, fd, ps, He.mkr_ok h1, hm, F, hb⟩, no⟩
theorem xFldC (C : Cc P w K mg base Z hot k X W) (F : Fk K cs f) (h : RE X W o mo) (hb : attributeBase o f X.env (eval o X.env) = eval o X.env := by rfl) : RE X W (.Attribute o f pos) (eFld cs f mo) := xFld (by rw [C.pK]; exact F) h hb
theorem xSetFldC (C : Cc P w K mg base Z hot k X W) (F : Fk K cs f) (h : RE X W o mo) (hv : RE X W value mv) (hs : swapsWith value (some (.Attribute o f pos')) pos.line X.env = pure false := by rfl) : RS X W (.Assign [.Attribute o f pos'] value pos) (sFldM cs f mo mv) := xSetFld (by rw [C.pK]; exact F) h hv hs
theorem xAugAdd (C : Cc P w K mg base Z hot k X W) (F : Fk K cs f) (h : RE X W o mo) (hv : RE X W value mv) : RS X W (.AugAssign (.Attribute o f pos') .Add value pos) (sFldA cs f dAdd mo mv) :=
  xAugFld (by rw [C.pK]; exact F) h hv in_add fun w x y a b z H Q rx ry e q => by
    cases a <;> cases b <;> simp only [dAdd] at e <;> first | (cases e; done) | (cases e; exact ⟨_, _, rep_int rx, rep_int ry, q _ rep_int'⟩)
end
end Fw

set_option maxRecDepth 100000
set_option maxHeartbeats 4000000
namespace Fw
open PySem PySem.Spec PyProof.Rows
noncomputable def fTryAs (L Cs : List Str) (y : Str) (i : Nat) (s : Nat × Str → Stm) : S → S
  | .err e ρ1 g1 => if e ∈ L ∧ y ∈ Cs then (if isSub e y = true then sAll fun a => (s (a, e) (ρ1.set i (some (.err e a))) g1).un (some i) else .err e ρ1 g1) else .no
  | r => r
noncomputable def fTryMany (L Cs : List Str) (hs : List (Str × (Nat × Str → Stm))) : S → S
  | .err e ρ1 g1 => if e ∈ L then sHds L Cs e ρ1 g1 hs else .no
  | r => r
section
variable {L Cs Is : List Str} {x y e : Str} {i a : Nat} {b : Stm} {s : Nat × Str → Stm} {ρ : En} {g : Gr} {d : D} {r : S} {hs : List (Str × (Nat × Str → Stm))}
theorem v_raise : sRaise x ρ g = .err x ρ g := rfl
theorem v_tryAs : sTryAs L Cs y i b s ρ g = fTryAs L Cs y i s (b ρ g) := by
  unfold sTryAs fTryAs; cases b ρ g <;> rfl
theorem v_tryMany : sTryMany L Cs b hs ρ g = fTryMany L Cs hs (b ρ g) := by
  unfold sTryMany fTryMany; cases b ρ g <;> rfl
theorem w_tryN : fTryAs L Cs y i s (.nx ρ g) = .nx ρ g := rfl
theorem w_tryR : fTryAs L Cs y i s (.ret d g) = .ret d g := rfl
theorem w_tryC : fTryAs L Cs y i s (.ct ρ g) = .ct ρ g := rfl
theorem w_tryE (h1 : e ∈ L) (h2 : y ∈ Cs) (h3 : isSub e y = true) : fTryAs L Cs y i s (.err e ρ g) = sAll fun a => (s (a, e) (ρ.set i (some (.err e a))) g).un (some i) := by
  show (if e ∈ L ∧ y ∈ Cs then _ else _) = _
  rw [if_pos ⟨h1, h2⟩, if_pos h3]
theorem w_trmN : fTryMany L Cs hs (.nx ρ g) = .nx ρ g := rfl
theorem w_trmR : fTryMany L Cs hs (.ret d g) = .ret d g := rfl
theorem w_trmC : fTryMany L Cs hs (.ct ρ g) = .ct ρ g := rfl
theorem w_trmE (h1 : e ∈ L) : fTryMany L Cs hs (.err e ρ g) = sHds L Cs e ρ g hs := if_pos h1
theorem w_hdY (h2 : y ∈ Cs) (h3 : isSub e y = true) : sHds L Cs e ρ g ((y, s) :: hs) = sAll fun a => (s (a, e) ρ g).un none := by
  show (if y ∈ Cs then _ else _) = _
  rw [if_pos h2, if_pos h3]
theorem w_hdN (h2 : y ∈ Cs) (h3 : isSub e y = false) : sHds L Cs e ρ g ((y, s) :: hs) = sHds L Cs e ρ g hs := by
  show (if y ∈ Cs then _ else _) = _
  rw [if_pos h2, if_neg (by rw [h3]; exact Bool.false_ne_true)]
theorem w_all : (sAll fun _ => r) = r := by unfold sAll; exact if_pos fun _ => rfl
theorem w_unN : S.un (some i) (.nx ρ g) = .nx (ρ.set i none) g := rfl
theorem w_unC : S.un (some i) (.ct ρ g) = .ct (ρ.set i none) g := rfl
theorem w_unR {j : Option Nat} : S.un j (.ret d g) = .ret d g := rfl
theorem w_unN0 : S.un none (.nx ρ g) = .nx ρ g := rfl
theorem w_unC0 : S.un none (.ct ρ g) = .ct ρ g := rfl
theorem w_isE (h1 : e ∈ L) (h2 : y ∈ Is) : opIsE L Is (a, e) y (.err e a) g = .ok (.bl (isSub e y)) g := if_pos ⟨⟨rfl, rfl⟩, h1, h2⟩
theorem w_tabN {tab : List (Str × Str)} {z : Str} {d : D} (h : tab.lookup z = none) : fTabR tab (.str z) (.ok d g) = .ok d g := by
  show (match tab.lookup z with | some y => R.ok (.str y) g | none => .ok d g) = _
  rw [h]
end
end Fw

set_option maxRecDepth 100000
set_option maxHeartbeats 4000000
namespace Fw
open PySem PySem.Spec PyProof.Rows L2
section
variable {prog : Program} {w : World} {A : Around} {E : Value → Shared → Prop} {s : Shared} {y1 : Addr}
end
end Fw

set_option maxRecDepth 100000
set_option maxHeartbeats 4000000
namespace Fw
open PySem PySem.Spec PyProof.Rows L2
def XHot (X : Cx) : Prop := ∃ ac p, HotP X.K X.A ac p ∧ p ∈ X.pn
section
variable {X : Cx} {pins : List (Addr × Obj)} {σ : L2.St} {H : Hp} {s : Shared}
theorem XHot.at (z : XHot X) : ∃ p, p ∈ X.pn ∧ ∀ {pins σ H s}, Inv X pins σ H s → HotX.HotAt X.A p.1 s.heap := by
  obtain ⟨ac, p, hp, hm⟩ := z
  obtain ⟨fs, e⟩ := hp.fl
  exact ⟨p, hm, fun {pins σ H s} I => ⟨hp.hd, p.2, fs, (I.pin p (List.mem_append_left _ hm)).1, e, hp.zn.2.2 fs e⟩⟩
end
end Fw

set_option maxRecDepth 100000
set_option maxHeartbeats 4000000
namespace Fw
open PySem PySem.Spec PyProof.Rows L2
section
variable {X : Cx} {pins : List (Addr × Obj)} {σ : L2.St} {H : Hp} {s : Shared}
end
section
variable {X : Cx} {W : WX} {elt tg iter : Expr} {ifs : List Expr} {scope : Scope} {own : List (Str × Nat)} {pos : Pos} {ms : Src} {mt : Tg} {mc me : Exp} {fin : List D → Gr → R}
end
section
variable {P : Program} {w : World} {K : PySem.W.Frag} {mg : Str → Option Value} {base : Heap} {Z : Sc} {ac : Nat × Str} {N : List Str} {sc scope : Scope} {vi ow vi' ow' : List Nat} {gl gl' : List Str} {top : Bool} {k : Nat} {X : Cx} {W : WX} {pos : Pos}
variable {elt tg iter : Expr} {ifs : List Expr} {own : List (Str × Nat)} {ms : Src} {mt : Tg} {mc me : Exp} {fin : List D → Gr → R}
end
end Fw

set_option maxRecDepth 100000
set_option maxHeartbeats 4000000
namespace Fw
open PySem PySem.Spec PyProof.Rows L2
section
variable {P : Program} {w : World} {K : PySem.W.Frag} {mg : Str → Option Value} {base : Heap} {Z : Sc} {ac : Nat × Str} {k : Nat} {X : Cx} {W : WX}
end
end Fw

set_option maxRecDepth 100000
set_option maxHeartbeats 4000000
namespace Fw
open PySem PySem.Spec PyProof.Rows L2
def eDic : Exp := fun _ g => .ok (.obj g.length) (g ++ [.dic []])
theorem re_dic {X : Cx} {W : WX} {pos : Pos} : RE X W (.Dict [] [] pos) eDic := by
  refine pe_weak pe_dnewK ?_
  rintro σ H Q ⟨w, ρ, g, S0, L, o⟩ p hp
  unfold eDic at o
  have hc : CellAt X.K (w.more p) (upd H p (.dK [])) p (.dic []) := ⟨S0.ex.free hp, [], upd_same, rfl, rfl⟩
  refine o _ _ _ (w.le_more p) (S0.allocC hp hc) ?_
  simp only [Rep]
  rw [← S0.n]
  exact ⟨Nat.lt_succ_self _, by rw [Wd.more_at]⟩
inductive EachR (h : Heap) : List Value → List PyData → Prop
  | nil : EachR h [] []
  | cons {v : Value} {vs : List Value} {d : PyData} {ds : List PyData} (as : List Addr) : Reads h v d as → (d.hasDict = true → sysModules ∉ as) → d.depth ≤ 7 → EachR h vs ds → EachR h (v :: vs) (d :: ds)
theorem EachR.reads {h : Heap} : ∀ {vs : List Value} {ds : List PyData}, EachR h vs ds → ∃ as, ReadsAll h vs ds as
  | _, _, .nil => ⟨_, .nil⟩
  | _, _, .cons as r _ _ t => let ⟨_, q⟩ := t.reads; ⟨_, .cons r q⟩
theorem EachR.depth {h : Heap} : ∀ {vs : List Value} {ds : List PyData}, EachR h vs ds → PyData.depthAll ds ≤ 7
  | _, _, .nil => by simp [PyData.depthAll]
  | _, _, .cons as r _ z t => by have := t.depth; simp only [PyData.depthAll]; omega
section
variable {prog : Program} {w : World} {A : Around} {E : Value → Shared → Prop} {s : Shared}
end
section
variable {X : Cx} {pins : List (Addr × Obj)} {σ : L2.St} {H : Hp} {s : Shared}
end
end Fw

set_option maxRecDepth 100000
set_option maxHeartbeats 4000000
namespace Fw
open PySem PySem.Spec PyProof.Rows L2
def opAddC (d e : D) (g : Gr) : R := match viewL g d, viewL g e with
  | some a, some b => if a.length + b.length ≤ sizeLine then .ok (.obj g.length) (g ++ [.lst (a ++ b)]) else .no
  | _, _ => .no
theorem s_addC {X : Cx} : OpS X (rAddAll X.K) opAddC := by
  intro w g H x y d e Q E S0 rx ry o
  unfold opAddC at o
  split at o
  · rename_i a b h1 h2
    split at o
    · obtain ⟨p, xs, rfl, h3, h4⟩ := viewL_ok S0 rx h1
      obtain ⟨q, ys, rfl, h5, h6⟩ := viewL_ok S0 ry h2
      exact .inr (.inr ⟨p, q, xs, ys, rfl, rfl, h3, h5, by rw [h4.length, h6.length]; assumption, Out.newC o S0 (RepL.app h6 h4)⟩)
    · exact o.elim
  · exact o.elim
section
variable {g : Gr} {l : Nat} {ds es : List D}
theorem v_addC (h : ds.length + es.length ≤ 8388608) : opAddC (.lst ds) (.lst es) g = .ok (.obj g.length) (g ++ [.lst (ds ++ es)]) := by
  show (if ds.length + es.length ≤ sizeLine then _ else _) = _
  rw [if_pos (by have := sizeLine_big; omega)]
theorem v_addCO (hl : g[l]? = some (.lst ds)) (h : ds.length + es.length ≤ 8388608) : opAddC (.obj l) (.lst es) g = .ok (.obj g.length) (g ++ [.lst (ds ++ es)]) := by
  have e : viewL g (.obj l) = some ds := by show (match g[l]? with | some (.lst ds) => some ds | _ => none) = _; rw [hl]
  unfold opAddC
  rw [e]
  show (if ds.length + es.length ≤ sizeLine then _ else _) = _
  rw [if_pos (by have := sizeLine_big; omega)]
end
end Fw

set_option maxRecDepth 100000
set_option maxHeartbeats 4000000
namespace Fw
open PySem PySem.Spec PyProof.Rows L2
section
variable {g : Gr} {l : Nat} {ds es : List D} {ρ : En} {x : D}
theorem v_dic : eDic ρ g = .ok (.obj g.length) (g ++ [.dic []]) := rfl
theorem v_zipL : iZp [.lst ds, .lst es] g = some (zpD ds es, kpT) := rfl
end
section
variable {P : Program} {w : World} {K : PySem.W.Frag} {mg : Str → Option Value} {base : Heap} {N : List Str} {sc scope : Scope} {vi ow vi' ow' : List Nat} {gl gl' : List Str} {top : Bool} {k : Nat} {X : Cx} {W : WX}
variable {elt tg iter : Expr} {ifs : List Expr} {own : List (Str × Nat)} {pos : Pos} {ms : Src} {mt : Tg} {mc me : Exp} {fin : List D → Gr → R}
theorem xSetLc2 (C : Cc P w K mg base ⟨N, sc, vi, ow, gl, top⟩ none k X W) (i : Nat) {y : Str} {py spos : Pos} (hfin : FinOk X.K fin) (own : List (Str × Nat)) (vi' ow' : List Nat) (gl' : List Str)
    (ok : (blkC N sc scope own && (Sc.okV ⟨N, relab sc scope, vi', ow', gl', false⟩ && (Sc.okG ⟨N, relab sc scope, vi', ow', gl', false⟩ && Sc.okS ⟨N, relab sc scope, vi', ow', gl', false⟩ (isCell scope)))) = true)
    (hi : RSrc X W tg iter ms)
    (hb : ∀ X' : Cx, Cc P w K mg base ⟨N, relab sc scope, vi', ow', gl', false⟩ none k X' NoW → X'.K = X.K → RG X' (own.map (·.2)) tg mt ∧ RTs X' NoW ifs mc ∧ RE X' NoW elt me)
    (hy : N[i]? = some y := by rfl) (hyl : sc.names.lookup y = some .local := by rfl) (hk : sc.kind = .function := by rfl) (hl : (py.line == pos.line) = true := by rfl)
    (ha : (scope.names.any fun (n, k) => n == y && (k == .local || k == .cell)) = false := by decide +kernel) (hs : ∀ x, foldedSetIterable iter X.env x = pure x := by intro _; rfl) :
    RS X W (.Assign [.Name y py] (.ListComp elt [⟨tg, iter, ifs, 0⟩] scope pos) spos) (sAsg (gVar i) (eLc fin ms (own.map (·.2)) mt mc me)) :=
  xSetLc C i hfin own vi' ow' gl' ok hi hb hy hyl (sw_true (by rw [C.ss]; exact hk) (by rw [C.ss]; exact hyl) hl ha) hs
end
end Fw

set_option maxRecDepth 100000
set_option maxHeartbeats 4000000
namespace Fw
open PySem PySem.Spec PyProof.Rows L2
def repS (z : Str) (k : Nat) : Str := ⟨(List.replicate k z.cps).foldl (· ++ ·) #[]⟩
def rMulS : R2 := fun x y H Q => ∃ z k, x = .str z ∧ y = .int k ∧ 2 ≤ k ∧ k ≤ 1000 ∧ 1 ≤ z.length ∧ z.length ≤ 1000 ∧ (repS z k.toNat).length ≤ sizeLine ∧ Q (.str (repS z k.toNat)) H
theorem op_mulS {X : Cx} : OpR X (binaryOp .Mult) rMulS := by
  intro pins s σ H x y v u Q I rx ry h
  obtain ⟨z, k, rfl, rfl, h1, h2, h3, h4, h5, q⟩ := h
  obtain ⟨t, rfl⟩ := rx
  obtain ⟨t', rfl⟩ := ry
  have c1 : ¬ k < 1 := by omega
  have c2 : ¬ ((k == 1 || z.length == 0) = true) := by
    rw [Bool.or_eq_true, beq_iff_eq, beq_iff_eq]; omega
  have big : 1000000 ≤ sizeLine := Nat.le_trans (by decide) sizeLine_big
  have pr : z.length * k.toNat ≤ 1000 * 1000 := Nat.mul_le_mul h4 (by omega)
  refine P.mul_str (by rw [decide_eq_false (by omega), decide_eq_false (by omega)]; rfl) (fun _ _ => ?_) (fun _ _ => ?_) ?_
  · have ek : k = ((k.toNat : Nat) : Int) := by omega
    have e : (z.length : Int) * k = ((z.length * k.toNat : Nat) : Int) := by rw [Int.natCast_mul, ← ek]
    have : (z.length : Int) ≤ (2 ^ 63 - 1) / k := Int.le_ediv_of_mul_le (by omega) (by rw [e]; omega)
    omega
  · exact decide_eq_false (by omega)
  · rw [if_neg c1, if_neg c2]
    exact ⟨h5, ⟨.str (repS z k.toNat), H, I.tok _, ⟨_, rfl⟩, q⟩⟩
def opMulS (d e : D) (g : Gr) : R := match d, e with
  | .str z, .int k => if 2 ≤ k ∧ k ≤ 1000 ∧ 1 ≤ z.length ∧ z.length ≤ 1000 ∧ (repS z k.toNat).length ≤ sizeLine then .ok (.str (repS z k.toNat)) g else .no
  | _, _ => .no
theorem s_mulS {X : Cx} : OpS X rMulS opMulS := by
  intro w g H x y d e Q E S0 rx ry o
  unfold opMulS at o
  split at o
  · split at o
    · rename_i h
      exact ⟨_, _, rep_str rx, rep_int ry, h.1, h.2.1, h.2.2.1, h.2.2.2.1, h.2.2.2.2, Out.here o S0 rep_str'⟩
    · exact o.elim
  · exact o.elim
theorem v_addCS {g : Gr} {ds es : List D} (h : ds.length + es.length ≤ 8388608) : opAddC (.obj g.length) (.lst es) (g ++ [Cl.lst ds]) = .ok (.obj (g ++ [Cl.lst ds]).length) ((g ++ [Cl.lst ds]) ++ [Cl.lst (ds ++ es)]) := v_addCO (l := g.length) (by simp) h
end Fw

set_option maxRecDepth 100000
set_option maxHeartbeats 4000000
namespace Fw
open PySem PySem.Spec PyProof.Rows L2
def fStrB : Fn := fun ds g => match ds with
  | [.bl b] => .ok (.str (tx (if b then [84, 114, 117, 101] else [70, 97, 108, 115, 101]))) g
  | ds => fStr ds g
theorem glue_c (c : Nat) : ∀ (l : List Str) (acc : Array Nat), (l.foldl (fun acc p => acc ++ (tx [c]).cps ++ p.cps) acc).toList = acc.toList ++ (l.map fun z => c :: z.cps.toList).flatten
  | [], acc => by simp
  | z :: l, acc => by rw [List.foldl_cons, glue_c c l]; simp [tx]
theorem joinL_flat (c : Nat) : ∀ (l : List (List Nat)) (p : List Nat), joinL c (p :: l) = p ++ (l.map fun q => c :: q).flatten
  | [], p => by simp [joinL]
  | q :: l, p => by rw [joinL, joinL_flat c l q]; simp
theorem join_c (c : Nat) (ls : List (List Nat)) : Txt.join (tx [c]) (ls.map tx) = tx (joinL c ls) := by
  cases ls with
  | nil => simp [Txt.join, Builtin.Str.glued, tx, Str.empty, joinL]
  | cons p l =>
    have h := glue_c c (l.map tx) (tx p).cps
    show (⟨((l.map tx).foldl (fun acc p => acc ++ (tx [c]).cps ++ p.cps) (tx p).cps)⟩ : Str) = _
    have e : ((l.map tx).foldl (fun acc p => acc ++ (tx [c]).cps ++ p.cps) (tx p).cps) = (joinL c (p :: l)).toArray := by
      apply Array.toList_inj.mp
      rw [h, joinL_flat, List.map_map]
      have : ((fun z : Str => c :: z.cps.toList) ∘ tx) = fun q => c :: q := by funext q; show c :: (tx q).cps.toList = _; rw [tx_cps]
      rw [this, tx_cps]
    rw [e]; rfl
section
variable {g : Gr} {b : Bool} {i : Int} {z : Str}
theorem v_strBB : fStrB [.bl b] g = .ok (.str (tx (if b then [84, 114, 117, 101] else [70, 97, 108, 115, 101]))) g := rfl
theorem v_strBN (h : 0 ≤ i ∧ i < 1000000000000000000) : fStrB [.int i] g = .ok (.str (tx (nm i.toNat))) g := v_strN h
theorem v_strBS : fStrB [.str z] g = .ok (.str z) g := rfl
theorem v_joinC {c : Nat} {ls : List (List Nat)} (h : (ls.map List.length).sum + ls.length ≤ 8388608) : mJoin (.str (tx [c])) [.lst (ls.map fun p => .str (tx p))] g = .ok (.str (tx (joinL c ls))) g := by
  have e1 : ((ls.map tx).map (·.length)).sum = (ls.map List.length).sum := by
    rw [List.map_map]
    exact congrArg List.sum (List.map_congr_left fun p _ => tx_len p)
  have e2 : (tx [c]).length = 1 := tx_len [c]
  unfold mJoin
  simp only [viewA, viewT, viewL, strs_tx]
  rw [if_pos (by rw [e1, e2, List.length_map, Nat.mul_one]; omega)]
  rw [join_c]
end
end Fw

set_option maxRecDepth 100000
set_option maxHeartbeats 4000000
namespace Fw
open PySem PySem.Spec PyProof.Rows
noncomputable def fldD (cs : List Str) (f : Str) (d : D) (g1 : Gr) : R := match viewI cs g1 d with
  | some (_, _, fs) => (match fs.lookup f with
    | some e => .ok e g1
    | none => .no)
  | none => .no
noncomputable def fFld (cs : List Str) (f : Str) : R → R
  | .ok d g => fldD cs f d g
  | .err c g => .err c g
  | .no => .no
noncomputable def setD (cs : List Str) (f : Str) (e d : D) (ρ : En) (g2 : Gr) : S := match viewI cs g2 d with
  | some (l, c, fs) => if fs.length < 1000 then .nx ρ (g2.set l (.ins c (putD f e fs))) else .no
  | none => .no
noncomputable def fSet2 (cs : List Str) (f : Str) (e : D) (ρ : En) : R → S
  | .ok d g => setD cs f e d ρ g
  | .err c g => .err c ρ g
  | .no => .no
noncomputable def fSet1 (cs : List Str) (f : Str) (mo : Exp) (ρ : En) : R → S
  | .ok e g => fSet2 cs f e ρ (mo ρ g)
  | .err c g => .err c ρ g
  | .no => .no
noncomputable def fArgD (m : Fn) (d : D) : RL → R
  | .ok ds g => m (d :: ds) g
  | .err c g => .err c g
  | .no => .no
noncomputable def methD (cs : List Str) (mn : Str) (m : Fn) (ms : Exps) (ρ : En) (d : D) (g1 : Gr) : R := match viewI cs g1 d with
  | some (_, _, fs) => if fs.lookup mn = none then fArgD m d (ms ρ g1) else .no
  | none => .no
noncomputable def fMeth (cs : List Str) (mn : Str) (m : Fn) (ms : Exps) (ρ : En) : R → R
  | .ok d g => methD cs mn m ms ρ d g
  | .err c g => .err c g
  | .no => .no
noncomputable def madeR (l : Nat) : R → R
  | .ok .non g2 => .ok (.obj l) g2
  | .err c g2 => .err c g2
  | _ => .no
noncomputable def fMake (c : Str) (m : Fn) : RL → R
  | .ok ds g1 => madeR g1.length (m (.obj g1.length :: ds) (g1 ++ [.ins c []]))
  | .err c g => .err c g
  | .no => .no
section
variable {cs : List Str} {f mn c x : Str} {a b : Exp} {as : Exps} {m : Fn} {ρ : En} {g rest : Gr} {d e : D} {ds : List D} {fs : List (Str × D)} {l k n : Nat} {s : Stm}
theorem v_fld : eFld cs f a ρ g = fFld cs f (a ρ g) := by unfold eFld fFld fldD; cases a ρ g <;> rfl
theorem w_fld : fFld cs f (.ok d g) = fldD cs f d g := rfl
theorem v_sfld : sFldM cs f a b ρ g = fSet1 cs f a ρ (b ρ g) := by
  unfold sFldM fSet1
  cases b ρ g with
  | ok e g1 =>
    show (a ρ g1).toS ρ _ = fSet2 cs f e ρ (a ρ g1)
    unfold fSet2 setD
    cases a ρ g1 <;> rfl
  | err c g1 => rfl
  | no => rfl
theorem w_sfld1 : fSet1 cs f a ρ (.ok e g) = fSet2 cs f e ρ (a ρ g) := rfl
theorem w_sfld2 : fSet2 cs f e ρ (.ok d g) = setD cs f e d ρ g := rfl
theorem v_meth : eMeth cs mn m a as ρ g = fMeth cs mn m as ρ (a ρ g) := by
  unfold eMeth fMeth methD
  cases a ρ g with
  | ok d g1 =>
    have e : (as ρ g1).bind (fun ds g2 => m (d :: ds) g2) = fArgD m d (as ρ g1) := by unfold fArgD; cases as ρ g1 <;> rfl
    show (match viewI cs g1 d with | some (_, _, fs) => (if fs.lookup mn = none then (as ρ g1).bind (fun ds g2 => m (d :: ds) g2) else .no) | none => .no) = (match viewI cs g1 d with | some (_, _, fs) => (if fs.lookup mn = none then fArgD m d (as ρ g1) else .no) | none => .no)
    rw [e]
  | err c g1 => rfl
  | no => rfl
theorem w_meth : fMeth cs mn m as ρ (.ok d g) = methD cs mn m as ρ d g := rfl
theorem w_argD : fArgD m d (.ok ds g) = m (d :: ds) g := rfl
theorem v_make : eMake c m as ρ g = fMake c m (as ρ g) := by
  unfold eMake fMake madeR; cases as ρ g <;> rfl
theorem w_make : fMake c m (.ok ds g) = madeR g.length (m (.obj g.length :: ds) (g ++ [.ins c []])) := rfl
theorem w_madeN : madeR l (.ok .non g) = .ok (.obj l) g := rfl
theorem w_madeE : madeR l (.err x g) = .err x g := rfl
theorem e_doE : fDo ρ (.err x g) = .err x ρ g := rfl
theorem viewI_at (hc : c ∈ cs) : viewI cs (g ++ (.ins c fs :: rest)) (.obj g.length) = some (g.length, c, fs) := by
  have e : (g ++ (.ins c fs :: rest))[g.length]? = some (Cl.ins c fs) := by simp
  unfold viewI
  simp [e, hc]
theorem w_setAt (hc : c ∈ cs) (hl : fs.length < 1000) : setD cs f e (.obj g.length) ρ (g ++ (.ins c fs :: rest)) = .nx ρ (g ++ (.ins c (putD f e fs) :: rest)) := by
  unfold setD
  rw [viewI_at hc]
  show (if fs.length < 1000 then _ else _) = _
  rw [if_pos hl, List.set_append_right _ _ (Nat.le_refl _)]
  simp
theorem fn_ret (hl : ds.length = n) {g' : Gr} (h : s (ds.map some ++ List.replicate (k - n) none) g = .ret d g') : fnOf n k s ds g = .ok d g' := by
  unfold fnOf; rw [if_pos hl, h]
theorem fn_nx (hl : ds.length = n) {g' : Gr} (h : ∃ ρ', s (ds.map some ++ List.replicate (k - n) none) g = .nx ρ' g') : fnOf n k s ds g = .ok .non g' := by
  obtain ⟨ρ', h⟩ := h
  unfold fnOf; rw [if_pos hl, h]
theorem fn_err (hl : ds.length = n) {g' : Gr} (h : ∃ ρ', s (ds.map some ++ List.replicate (k - n) none) g = .err x ρ' g') : fnOf n k s ds g = .err x g' := by
  obtain ⟨ρ', h⟩ := h
  unfold fnOf; rw [if_pos hl, h]
theorem len_at (h : g[l]? = some (.lst ds)) : fLen [.obj l] g = .ok (.int (ds.length : Int)) g := by
  have e : viewL g (.obj l) = some ds := by show (match g[l]? with | some (.lst ds) => some ds | _ => none) = _; rw [h]
  simp [fLen, viewA, viewT, e]
theorem ix_at (h : g[l]? = some (.lst ds)) (hk : ds[k]? = some d) : opIx (.obj l) (.int (k : Int)) g = .ok d g := by
  unfold opIx
  simp only [viewA, viewT, viewL, h, atI_nat hk]
end
end Fw

set_option maxRecDepth 100000
set_option maxHeartbeats 4000000
namespace Fw
open PySem PySem.Spec PyProof.Rows L2
def gSubL (mo mi : Exp) : Tg := fun d ρ g => match mo ρ g with
  | .ok o g1 => (match mi ρ g1 with
    | .ok (.int k) g2 => (match viewC g2 o with
      | some (l, xs) => (match ixN xs.length k with
        | some j => some (ρ, g2.set l (.lst (xs.set j d)))
        | none => none)
      | none => none)
    | _ => none)
  | _ => none
theorem repL_set {K : PySem.W.Frag} {w : Wd} {v : V} {d : D} (hv : Rep K w v d) : ∀ {ds : List D} {xs : List V} {j : Nat}, RepL K w xs ds → RepL K w (xs.set j v) (ds.set j d)
  | [], xs, j, h => by simp only [RepL] at h; subst h; simp [RepL]
  | e :: ds, xs, 0, h => by
    simp only [RepL] at h
    obtain ⟨x, r, rfl, _, h3⟩ := h
    simp only [List.set_cons_zero, RepL]
    exact ⟨v, r, rfl, hv, h3⟩
  | e :: ds, xs, j + 1, h => by
    simp only [RepL] at h
    obtain ⟨x, r, rfl, h2, h3⟩ := h
    simp only [List.set_cons_succ, RepL]
    exact ⟨x, r.set j v, rfl, h2, repL_set hv h3⟩
theorem rg_subL {X : Cx} {W : WX} {vs : List Nat} {o i : Expr} {mo mi : Exp} {pos : Pos} (ho : RE X W o mo) (hi : RE X W i mi)
    (ha : ∀ v, assign (.Subscript o i pos) X.env v = (do
      let ov ← holding [v] (eval o X.env)
      let iv ← holding [v, ov] (eval i X.env)
      standAt pos
      holding [v, ov, iv] (setItem ov iv v)
      release [v, ov, iv] []) := by intro _; rfl) : RG X vs (.Subscript o i pos) (gSubL mo mi) := by
  refine pg_weak (pg_sub ho hi set_list ha) ?_
  rintro v σ H Q ⟨w, ρ, g, d, S0, L, r, og⟩
  refine ⟨w, ρ, g, S0, L, ?_⟩
  unfold gSubL at og
  split at og
  · rename_i od g1 e1
    rw [e1]
    intro ov H1 w1 le1 S1 ro
    refine ⟨w1, ρ, g1, S1, L.mono le1, ?_⟩
    split at og
    · rename_i k g2 e2
      rw [e2]
      intro iv H2 w2 le2 S2 ri
      split at og
      · rename_i l xs hv
        split at og
        · rename_i j hj
          obtain ⟨_, rfl, hl, ys, h1, h2⟩ := viewC_ok S2 (Rep.mono le2 _ _ ro) hv
          have rv := Rep.mono (le1.trans le2) _ _ r
          refine ⟨_, ys, k, j, rfl, rep_int ri, h1, by rw [h2.length]; exact hj, ?_⟩
          exact og σ _ w2 (le1.trans le2) (S2.setL hl (repL_set rv h2)) ((L.mono le1).mono le2) (Agr.refl _ _)
        · exact og.elim
      · exact og.elim
    · exact og.elim
  · exact og.elim
end Fw

set_option maxRecDepth 100000
set_option maxHeartbeats 4000000
namespace Fw
open PySem PySem.Spec PyProof.Rows L2
def revD (d : D) (g : Gr) : R := match viewL g d with
  | some ds => .ok (.lst ds.reverse) g
  | none => .no
noncomputable def eRev (a : Exp) : Exp := fun ρ g => (a ρ g).bind revD
end Fw

set_option maxRecDepth 100000
set_option maxHeartbeats 4000000
namespace Fw
open PySem PySem.Spec PyProof.Rows L2
end Fw

set_option maxRecDepth 100000
set_option maxHeartbeats 4000000
namespace Fw
open PySem PySem.Spec PyProof.Rows L2
noncomputable def fA2 (cs : List Str) (f : Str) (op : D → D → Option D) (d : D) (ρ : En) (g1 : Gr) (r : R) : S := match viewI cs g1 d with
  | some (l, c0, fs) => (match fs.lookup f with
    | some a => r.toS ρ fun e g2 => (match op a e with
      | some z => (match viewI cs g2 (.obj l) with
        | some (_, c, fs) => if c = c0 ∧ fs.length < 1000 then .nx ρ (g2.set l (.ins c (putD f z fs))) else .no
        | none => .no)
      | none => .no)
    | none => .no)
  | none => .no
noncomputable def fA1 (cs : List Str) (f : Str) (op : D → D → Option D) (mv : Exp) (ρ : En) : R → S
  | .ok d g1 => fA2 cs f op d ρ g1 (mv ρ g1)
  | .err c g => .err c ρ g
  | .no => .no
noncomputable def subD (d o i : D) (ρ : En) (g2 : Gr) : Option (En × Gr) := match i with
  | .int k => (match viewC g2 o with
    | some (l, xs) => (match ixN xs.length k with
      | some j => some (ρ, g2.set l (.lst (xs.set j d)))
      | none => none)
    | none => none)
  | _ => none
noncomputable def fSub2 (d o : D) (ρ : En) : R → Option (En × Gr)
  | .ok i g2 => subD d o i ρ g2
  | _ => none
noncomputable def fSub1 (mi : Exp) (d : D) (ρ : En) : R → Option (En × Gr)
  | .ok o g1 => fSub2 d o ρ (mi ρ g1)
  | _ => none
noncomputable def fRev : R → R
  | .ok d g => revD d g
  | .err c g => .err c g
  | .no => .no
section
variable {cs : List Str} {f mn c x : Str} {a b : Exp} {as : Exps} {m : Fn} {ρ : En} {g : Gr} {d e o i : D} {ds xs : List D} {fs : List (Str × D)} {l k n j : Nat} {op : D → D → Option D} {r : R}
theorem v_flda : sFldA cs f op a b ρ g = fA1 cs f op b ρ (a ρ g) := by
  unfold sFldA fA1
  cases a ρ g with
  | ok d g1 => rfl
  | err c g1 => rfl
  | no => rfl
theorem w_flda1 : fA1 cs f op b ρ (.ok d g) = fA2 cs f op d ρ g (b ρ g) := rfl
theorem v_subL : gSubL a b d ρ g = fSub1 b d ρ (a ρ g) := by
  unfold gSubL fSub1
  cases ea : a ρ g with
  | ok o g1 =>
    simp only []
    unfold fSub2
    cases eb : b ρ g1 with
    | ok i g2 => cases i <;> rfl
    | err c g1 => rfl
    | no => rfl
  | err c g1 => rfl
  | no => rfl
theorem w_subL1 : fSub1 b d ρ (.ok o g) = fSub2 d o ρ (b ρ g) := rfl
theorem w_subL2 : fSub2 d o ρ (.ok i g) = subD d o i ρ g := rfl
theorem v_rev : eRev a ρ g = fRev (a ρ g) := by unfold eRev fRev; cases a ρ g <;> rfl
theorem w_rev : fRev (.ok (.lst ds) g) = .ok (.lst ds.reverse) g := rfl
theorem v_notN0 : opNotN .non .non g = .ok (.bl false) g := rfl
theorem v_notNI {i : Int} : opNotN (.int i) .non g = .ok (.bl true) g := rfl
theorem v_isN0 : opIsN .non .non g = .ok (.bl true) g := rfl
theorem v_isNI {i : Int} : opIsN (.int i) .non g = .ok (.bl false) g := rfl
theorem v_enL : iEA [.lst ds] g = some (enD 0 ds, kpT) := rfl
end
section
variable {cs : List Str} {f mn c x : Str} {as : Exps} {m : Fn} {ρ : En} {g : Gr} {a d e z : D} {ds : List D} {fs : List (Str × D)} {l k n j : Nat} {op : D → D → Option D}
theorem viewI_of (h : g[l]? = some (.ins c fs)) (hc : c ∈ cs) : viewI cs g (.obj l) = some (l, c, fs) := by
  unfold viewI
  simp [h, hc]
theorem fld_of (h : g[l]? = some (.ins c fs)) (hc : c ∈ cs) (hf : fs.lookup f = some e) : fldD cs f (.obj l) g = .ok e g := by
  unfold fldD
  rw [viewI_of h hc]
  show (match fs.lookup f with | some e => R.ok e _ | none => .no) = _
  rw [hf]
theorem meth_of (h : g[l]? = some (.ins c fs)) (hc : c ∈ cs) (hf : fs.lookup mn = none) : methD cs mn m as ρ (.obj l) g = fArgD m (.obj l) (as ρ g) := by
  unfold methD
  rw [viewI_of h hc]
  exact if_pos hf
theorem add_of (h : g[l]? = some (.ins c fs)) (hc : c ∈ cs) (hl : fs.length < 1000) (hf : fs.lookup f = some a) (ho : op a e = some z) : fA2 cs f op (.obj l) ρ g (.ok e g) = .nx ρ (g.set l (.ins c (putD f z fs))) := by
  unfold fA2
  rw [viewI_of h hc]
  show (match fs.lookup f with | some a => (R.ok e g).toS ρ _ | none => .no) = _
  rw [hf]
  show (match op a e with | some z => _ | none => S.no) = _
  rw [ho, viewI_of h hc]
  exact if_pos ⟨rfl, hl⟩
theorem viewL_of (h : g[l]? = some (.lst ds)) : viewL g (.obj l) = some ds := by
  show (match g[l]? with | some (.lst ds) => some ds | _ => none) = _
  rw [h]
theorem viewC_of (h : g[l]? = some (.lst ds)) : viewC g (.obj l) = some (l, ds) := by
  show (match g[l]? with | some (.lst ds) => some (l, ds) | _ => none) = _
  rw [h]
theorem tyL_of (h : g[l]? = some (.lst ds)) : tyL (.obj l) g = true := by
  unfold tyL; rw [viewL_of h]; rfl
theorem app_of (h : g[l]? = some (.lst ds)) (hl : ds.length < 8388608) : mAppend (.obj l) [e] g = .ok .non (g.set l (.lst (ds ++ [e]))) := by
  unfold mAppend
  simp only [viewC_of h]
  exact if_pos (Nat.lt_of_lt_of_le hl sizeLine_big)
theorem sub_of (h : g[l]? = some (.lst ds)) (hk : k < ds.length) : subD d (.obj l) (.int (k : Int)) ρ g = some (ρ, g.set l (.lst (ds.set k d))) := by
  unfold subD
  have e : ixN ds.length (k : Int) = some k := by
    unfold L2.ixN
    rw [if_pos (Int.natCast_nonneg k), if_pos (by omega)]
    simp
  simp only [viewC_of h, e]
theorem iA_of (h : g[l]? = some (.lst ds)) : iA (.obj l) g = some (ds, kpL (.obj l) ds) := by
  show (viewL g (.obj l)).map _ = _
  rw [viewL_of h]; rfl
end
end Fw

set_option maxRecDepth 100000
set_option maxHeartbeats 4000000
namespace Fw
open PySem PySem.Spec PyProof.Rows L2
def kD : Key → D
  | .inl i => .int i
  | .inr z => .str z
def toK : D → Option Key
  | .int i => some (.inl i)
  | .str z => some (.inr z)
  | _ => none
def viewD (g : Gr) : D → Option (Nat × List (Key × D))
  | .obj l => (match g[l]? with
    | some (.dic kvs) => some (l, kvs)
    | _ => none)
  | _ => none
def viewR (g : Gr) : D → Option (List (Key × D))
  | .obj l => (match g[l]? with
    | some (.dic kvs) => some kvs
    | some (.shut kvs) => some kvs
    | _ => none)
  | _ => none
def dGet {α : Type} (kvs : List (Key × α)) (k : Key) : Option α := (kvs.find? fun kv => decide (kv.1 = k)).map (·.2)
def dPut {α : Type} (kvs : List (Key × α)) (k : Key) (v : α) : List (Key × α) :=
  if (kvs.any fun kv => decide (kv.1 = k)) = true then kvs.map (fun kv => if kv.1 = k then (kv.1, v) else kv) else kvs ++ [(k, v)]
def dDrop {α : Type} (kvs : List (Key × α)) (k : Key) : List (Key × α) := kvs.filter fun kv => decide (kv.1 ≠ k)
section
variable {K : PySem.W.Frag} {w : Wd} {g : Gr} {H : Hp} {v : V} {d : D} {k : Key} {xs : List (Key × V)} {ds kvs : List (Key × D)}
theorem toK_ok (r : Rep K w v d) (e : toK d = some k) : v = kV k := by
  cases d with
  | int i => cases e; exact rep_int r
  | str z => cases e; exact rep_str r
  | _ => cases e
theorem kD_rep : Rep K w (kV k) (kD k) := by
  cases k with
  | inl i => exact rep_int'
  | inr z => exact rep_str'
theorem viewD_ok {l : Nat} (S0 : SG K w g H) (r : Rep K w v d) (e : viewD g d = some (l, kvs)) :
    d = .obj l ∧ v = .ref (w.mm l) ∧ g[l]? = some (.dic kvs) ∧ ∃ xs, H (w.mm l) = some (.dK xs) ∧ RepK K w xs kvs := by
  cases d with
  | obj j =>
    simp only [viewD] at e
    split at e
    · rename_i es hl
      cases e
      simp only [Rep] at r
      obtain ⟨_, xs, h1, h2⟩ := S0.cell _ _ hl
      exact ⟨rfl, r.2, hl, xs, h1, h2⟩
    · cases e
  | _ => simp only [viewD] at e; cases e
theorem viewR_ok (S0 : SG K w g H) (r : Rep K w v d) (e : viewR g d = some kvs) : ∃ a xs, v = .ref a ∧ Rd H a (.dK xs) ∧ RepK K w xs kvs := by
  cases d with
  | obj j =>
    simp only [viewR] at e
    simp only [Rep] at r
    split at e
    · rename_i es hl
      cases e
      obtain ⟨_, xs, h1, h2⟩ := S0.cell _ _ hl
      exact ⟨_, xs, r.2, .inl h1, h2⟩
    · rename_i es hl
      cases e
      obtain ⟨_, o, xs, h1, h2⟩ := S0.cell _ _ hl
      exact ⟨_, xs, r.2, .inr ⟨o, h1⟩, h2⟩
    · cases e
  | _ => simp only [viewR] at e; cases e
theorem dget_rd {a : Addr} (e : Rd H a (.dK xs)) : DGet H a (kV k) (valV xs k) := .inl ⟨xs, k, e, rfl, rfl⟩
theorem repK_cons {d0 : D} {k0 : Key} (h : RepK K w xs ((k0, d0) :: ds)) : ∃ v r, xs = (k0, v) :: r ∧ Rep K w v d0 ∧ RepK K w r ds := by
  obtain ⟨h1, h2⟩ := h
  cases xs with
  | nil => cases h1
  | cons x r =>
    obtain ⟨a, v⟩ := x
    simp only [List.map_cons, List.cons.injEq] at h1
    simp only [List.map_cons, RepL] at h2
    obtain ⟨y, t, e, h3, h4⟩ := h2
    simp only [List.cons.injEq] at e
    obtain ⟨rfl, rfl⟩ := e
    obtain ⟨rfl, h1⟩ := h1
    exact ⟨v, r, rfl, h3, h1, h4⟩
theorem repK_nil (h : RepK K w xs []) : xs = [] := by
  obtain ⟨h1, _⟩ := h
  simpa using h1
theorem repK_mk {v : V} {d : D} (h1 : Rep K w v d) (h2 : RepK K w xs ds) : RepK K w ((k, v) :: xs) ((k, d) :: ds) := by
  obtain ⟨a, b⟩ := h2
  refine ⟨by simp [a], ?_⟩
  simp only [List.map_cons, RepL]
  exact ⟨v, _, rfl, h1, b⟩
theorem repK_nil' : RepK K w [] [] := ⟨rfl, rfl⟩
theorem repK_len : ∀ {ds : List (Key × D)} {xs : List (Key × V)}, RepK K w xs ds → xs.length = ds.length
  | [], xs, h => by rw [repK_nil h]; rfl
  | (k0, d0) :: ds, xs, h => by
    obtain ⟨v, r, rfl, _, h2⟩ := repK_cons h
    simp [repK_len h2]
theorem repK_get (k : Key) : ∀ {ds : List (Key × D)} {xs : List (Key × V)}, RepK K w xs ds → (∀ d, dGet ds k = some d → ∃ v, valV xs k = some v ∧ Rep K w v d) ∧ (dGet ds k = none → valV xs k = none)
  | [], xs, h => by rw [repK_nil h]; exact ⟨fun _ e => (by cases e), fun _ => rfl⟩
  | (k0, d0) :: ds, xs, h => by
    obtain ⟨v, r, rfl, h1, h2⟩ := repK_cons h
    obtain ⟨i1, i2⟩ := repK_get k h2
    by_cases z : k0 = k
    · have e : dGet ((k0, d0) :: ds) k = some d0 := by simp [dGet, List.find?_cons, z]
      rw [valV_pos (p := (k0, v)) z, e]
      exact ⟨fun d q => (by cases q; exact ⟨v, rfl, h1⟩), fun q => (by cases q)⟩
    · have e : dGet ((k0, d0) :: ds) k = dGet ds k := by simp [dGet, List.find?_cons, z]
      rw [valV_neg (p := (k0, v)) z, e]
      exact ⟨i1, i2⟩
theorem repK_any (k : Key) : ∀ {ds : List (Key × D)} {xs : List (Key × V)}, RepK K w xs ds → (xs.any fun kv => decide (kv.1 = k)) = (ds.any fun kv => decide (kv.1 = k))
  | [], xs, h => by rw [repK_nil h]; rfl
  | (k0, d0) :: ds, xs, h => by
    obtain ⟨v, r, rfl, h1, h2⟩ := repK_cons h
    simp only [List.any_cons, repK_any k h2]
theorem repK_map (k : Key) (rv : Rep K w v d) : ∀ {ds : List (Key × D)} {xs : List (Key × V)}, RepK K w xs ds → RepK K w (xs.map fun kv => if kv.1 = k then (kv.1, v) else kv) (ds.map fun kv => if kv.1 = k then (kv.1, d) else kv)
  | [], xs, h => by rw [repK_nil h]; exact repK_nil'
  | (k0, d0) :: ds, xs, h => by
    obtain ⟨u, r, rfl, h1, h2⟩ := repK_cons h
    simp only [List.map_cons]
    by_cases z : k0 = k
    · rw [if_pos z, if_pos z]; exact repK_mk rv (repK_map k rv h2)
    · rw [if_neg z, if_neg z]; exact repK_mk h1 (repK_map k rv h2)
theorem repK_app {ys : List (Key × V)} {es : List (Key × D)} (h2 : RepK K w ys es) : ∀ {ds : List (Key × D)} {xs : List (Key × V)}, RepK K w xs ds → RepK K w (xs ++ ys) (ds ++ es)
  | [], xs, h => by rw [repK_nil h]; exact h2
  | (k0, d0) :: ds, xs, h => by
    obtain ⟨u, r, rfl, h1, h3⟩ := repK_cons h
    exact repK_mk h1 (repK_app h2 h3)
theorem repK_put (k : Key) (rv : Rep K w v d) (h : RepK K w xs ds) : RepK K w (putK xs k v) (dPut ds k d) := by
  unfold putK dPut
  rw [repK_any k h]
  split
  · exact repK_map k rv h
  · exact repK_app (repK_mk rv repK_nil') h
theorem repK_drop (k : Key) : ∀ {ds : List (Key × D)} {xs : List (Key × V)}, RepK K w xs ds → RepK K w (dropK xs k) (dDrop ds k)
  | [], xs, h => by rw [repK_nil h]; exact repK_nil'
  | (k0, d0) :: ds, xs, h => by
    obtain ⟨u, r, rfl, h1, h2⟩ := repK_cons h
    have ih := repK_drop k h2
    unfold dropK dDrop at ih ⊢
    by_cases z : k0 = k
    · rw [List.filter_cons_of_neg (by simp [z]), List.filter_cons_of_neg (by simp [z])]; exact ih
    · rw [List.filter_cons_of_pos (by simp [z]), List.filter_cons_of_pos (by simp [z])]; exact repK_mk h1 ih
theorem SG.setD {l : Nat} {es : List (Key × D)} {ys : List (Key × V)} (S0 : SG K w g H) (hl : g[l]? = some (.dic ds)) (r : RepK K w ys es) : SG K w (g.set l (.dic es)) (upd H (w.mm l) (.dK ys)) :=
  S0.setC hl rfl (by obtain ⟨f0, _⟩ := S0.cell l _ hl; exact ⟨f0, ys, upd_same, r⟩) rfl
end
def opDGet (d e : D) (g : Gr) : R := match toK e, viewR g d with
  | some k, some kvs => (match dGet kvs k with
    | some x => .ok x g
    | none => .no)
  | _, _ => .no
def rDGet : R2 := fun x y H Q => ∃ a v, x = .ref a ∧ DGet H a y (some v) ∧ Q v H
section
variable {X : Cx} {W : WX} {a b : Expr} {ma mb : Exp} {pos : Pos}
theorem s_dget : OpS X rDGet opDGet := by
  intro w g H x y d e Q E S0 rx ry o
  unfold opDGet at o
  split at o
  · rename_i k kvs hk hv
    obtain ⟨_, xs, rfl, h1, h2⟩ := viewR_ok S0 rx hv
    split at o
    · rename_i z hz
      obtain ⟨v, e1, rv⟩ := (repK_get k h2).1 z hz
      refine ⟨_, v, rfl, ?_, Out.here o S0 rv⟩
      rw [toK_ok ry hk, ← e1]
      exact dget_rd h1
    · exact o.elim
  · exact o.elim
theorem xDGet (hu : X.A.units + 64 < cLine) (ha : RE X W a ma) (hb : RE X W b mb) (hs : NoSl b := by exact fun _ _ => rfl) : RE X W (.Subscript a b pos) (eBin opDGet ma mb) :=
  pe_weak (pe_dget (by omega) ha hb hs) fun _ _ _ h => read_bin s_dget h
def opDIn (n : Bool) (e d : D) (g : Gr) : R := match toK e, viewR g d with
  | some k, some kvs => .ok (.bl (if n then !(dGet kvs k).isSome else (dGet kvs k).isSome)) g
  | _, _ => .no
def rDIn (n : Bool) : R2 := fun y x H Q => ∃ a o, x = .ref a ∧ DGet H a y o ∧ Q (.bl (if n then !o.isSome else o.isSome)) H
theorem s_din (n : Bool) : OpS X (rDIn n) (opDIn n) := by
  intro w g H x y d e Q E S0 rx ry o
  unfold opDIn at o
  split at o
  · rename_i k kvs hk hv
    obtain ⟨_, xs, rfl, h1, h2⟩ := viewR_ok S0 ry hv
    refine ⟨_, valV xs k, rfl, by rw [toK_ok rx hk]; exact dget_rd h1, ?_⟩
    have e : (valV xs k).isSome = (dGet kvs k).isSome := by
      cases z : dGet kvs k with
      | some d => obtain ⟨v, e1, _⟩ := (repK_get k h2).1 d z; rw [e1]; rfl
      | none => rw [(repK_get k h2).2 z]; rfl
    rw [e]
    exact Out.here o S0 (by simp only [Rep])
  · exact o.elim
theorem op_din (hu : X.A.units + 64 < cLine) : OpR X (compareOp .In) (rDIn false) := by
  intro pins s σ H x y v u Q I rx ry h
  obtain ⟨a, o, rfl, g, q⟩ := h
  cases ry
  exact d_in (by omega) I g rx fun s' I' => ⟨.bl o.isSome, H, I', rfl, q⟩
theorem op_dnotIn (hu : X.A.units + 64 < cLine) : OpR X (compareOp .NotIn) (rDIn true) := by
  intro pins s σ H x y v u Q I rx ry h
  obtain ⟨a, o, rfl, g, q⟩ := h
  cases ry
  exact d_notIn (by omega) I g rx fun s' I' => ⟨.bl (!o.isSome), H, I', rfl, q⟩
end
def tyDc (d : D) (g : Gr) : Bool := (viewD g d).isSome
theorem tyDc_ok {K : PySem.W.Frag} {w : Wd} {g : Gr} {H : Hp} {x : V} {d : D} (S0 : SG K w g H) (r : Rep K w x d) (h : tyDc d g = true) : tyV K "dict" x H := by
  unfold tyDc at h
  obtain ⟨⟨l, ds⟩, e⟩ := Option.isSome_iff_exists.mp h
  obtain ⟨_, rfl, _, xs, h1, _⟩ := viewD_ok S0 r e
  exact .inr (.inr (.inl ⟨rfl, .inl ⟨xs, h1⟩⟩))
def mDGet2 (d : D) (ds : List D) (g : Gr) : R := match ds with
  | [e, x] => (match toK e, viewD g d with
    | some k, some (_, kvs) => .ok ((dGet kvs k).getD x) g
    | _, _ => .no)
  | _ => .no
def rMGet2 : V → List V → Hp → VK → Prop := fun x xs H Q => ∃ a y z o, x = V.ref a ∧ xs = [y, z] ∧ DGet H a y o ∧ Q (o.getD z) H
def mDPop (d : D) (ds : List D) (g : Gr) : R := match ds with
  | [e] => (match toK e, viewD g d with
    | some k, some (l, kvs) => (match dGet kvs k with
      | some x => .ok x (g.set l (.dic (dDrop kvs k)))
      | none => .no)
    | _, _ => .no)
  | _ => .no
def rMPop : V → List V → Hp → VK → Prop := fun x xs H Q => ∃ a k kvs v, x = V.ref a ∧ xs = [kV k] ∧ H a = some (.dK kvs) ∧ valV kvs k = some v ∧ Q v (upd H a (.dK (dropK kvs k)))
section
variable {X : Cx} {K : PySem.W.Frag}
theorem ms_dget2 : MtS K "dict" rMGet2 tyDc mDGet2 := by
  refine ⟨fun w g H x d S0 r h => tyDc_ok S0 r h, fun w g H x d vs ds Q E S0 rx rv o => ?_⟩
  unfold mDGet2 at o
  split at o
  · split at o
    · rename_i e z k l kvs hk hv
      obtain ⟨y, u, rfl, ry, ru⟩ := repl2 rv
      obtain ⟨_, rfl, hl, xs, h1, h2⟩ := viewD_ok S0 rx hv
      refine ⟨_, y, u, valV xs k, rfl, rfl, by rw [toK_ok ry hk]; exact DGet.k h1, Out.here o S0 ?_⟩
      cases q : dGet kvs k with
      | some d => obtain ⟨v, e1, r1⟩ := (repK_get k h2).1 d q; rw [e1]; exact r1
      | none => rw [(repK_get k h2).2 q]; exact ru
    · exact o.elim
  · exact o.elim
theorem mt_dget2 (hu : X.A.units + 64 < cLine) : MtR X "dict.get" rMGet2 := by
  intro pins s σ H x xs v us Q I rx rv h
  obtain ⟨a, y, z, o, rfl, rfl, g, q⟩ := h
  cases rx
  obtain ⟨u1, u2, rfl, r1, r2⟩ := rv.two
  exact d_get2 (by omega) I g r1 r2 fun w' s' I' rw' => ⟨_, H, I', rw', q⟩
theorem ms_dpop : MtS K "dict" rMPop tyDc mDPop := by
  refine ⟨fun w g H x d S0 r h => tyDc_ok S0 r h, fun w g H x d vs ds Q E S0 rx rv o => ?_⟩
  unfold mDPop at o
  split at o
  · split at o
    · rename_i e k l kvs hk hv
      split at o
      · rename_i z hz
        obtain ⟨y, rfl, ry⟩ := repl1 rv
        obtain ⟨_, rfl, hl, xs, h1, h2⟩ := viewD_ok S0 rx hv
        obtain ⟨v, e1, r1⟩ := (repK_get k h2).1 z hz
        exact ⟨_, k, xs, v, rfl, by rw [toK_ok ry hk], h1, e1, Out.here o (S0.setD hl (repK_drop k h2)) r1⟩
      · exact o.elim
    · exact o.elim
  · exact o.elim
theorem mt_dpop : MtR X "dict.pop" rMPop := by
  intro pins s σ H x xs v us Q I rx rv h
  obtain ⟨a, k, kvs, y, rfl, rfl, e, l, q⟩ := h
  cases rx
  obtain ⟨u1, rfl, r1⟩ := vals1 rv
  exact d_pop I e r1 l (.inl rfl) fun w' s' I' rw' => ⟨y, _, I', rw', q⟩
end
def gSubD (mo mi : Exp) : Tg := fun d ρ g => match mo ρ g with
  | .ok o g1 => (match mi ρ g1 with
    | .ok e g2 => (match toK e, viewD g2 o with
      | some k, some (l, kvs) => if kvs.length < 1000000 then some (ρ, g2.set l (.dic (dPut kvs k d))) else none
      | _, _ => none)
    | _ => none)
  | _ => none
theorem rg_subD {X : Cx} {W : WX} {vs : List Nat} {o i : Expr} {mo mi : Exp} {pos : Pos} (hu : X.A.units + 64 < cLine) (ho : RE X W o mo) (hi : RE X W i mi)
    (ha : ∀ v, assign (.Subscript o i pos) X.env v = (do
      let ov ← holding [v] (eval o X.env)
      let iv ← holding [v, ov] (eval i X.env)
      standAt pos
      holding [v, ov, iv] (setItem ov iv v)
      release [v, ov, iv] []) := by intro _; rfl) : RG X vs (.Subscript o i pos) (gSubD mo mi) := by
  refine pg_weak (pg_sub ho hi (set_dict (by omega)) ha) ?_
  rintro v σ H Q ⟨w, ρ, g, d, S0, L, r, og⟩
  refine ⟨w, ρ, g, S0, L, ?_⟩
  unfold gSubD at og
  split at og
  · rename_i od g1 e1
    rw [e1]
    intro ov H1 w1 le1 S1 ro
    refine ⟨w1, ρ, g1, S1, L.mono le1, ?_⟩
    split at og
    · rename_i e g2 e2
      rw [e2]
      intro iv H2 w2 le2 S2 ri
      split at og
      · rename_i k l kvs hk hv
        split at og
        · rename_i hz
          obtain ⟨_, rfl, hl, ys, h1, h2⟩ := viewD_ok S2 (Rep.mono le2 _ _ ro) hv
          have rv := Rep.mono (le1.trans le2) _ _ r
          refine ⟨_, _, rfl, by rw [toK_ok ri hk]; exact DPut.k h1 (by rw [repK_len h2]; exact Nat.lt_of_lt_of_le (by omega) sizeLine_big), ?_⟩
          exact og σ _ w2 (le1.trans le2) (S2.setD hl (repK_put k rv h2)) ((L.mono le1).mono le2) (Agr.refl _ _)
        · exact og.elim
      · exact og.elim
    · exact og.elim
  · exact og.elim
def fDicO : Fn := fun ds g => match ds with
  | [d] => (match viewD g d with
    | some (_, kvs) => .ok (.obj g.length) (g ++ [.dic kvs])
    | none => .no)
  | _ => .no
def rDicO : List V → Hp → VK → Prop := fun xs H Q => ∃ a kvs, xs = [V.ref a] ∧ H a = some (.dK kvs) ∧ ∀ p, H p = none → Q (.ref p) (upd H p (.dK kvs))
theorem call_dicO {X : Cx} : CallR X (.type "dict") rDicO := by
  intro pins s σ H xs us Q I r h
  obtain ⟨a, kvs, rfl, e, q⟩ := h
  obtain ⟨u, rfl, rx⟩ := vals1 r
  cases rx
  exact d_copyOf I (.inl e) fun p s' hp I' => ⟨.ref p, _, I', rfl, q p hp⟩
theorem c_dicO {K : PySem.W.Frag} : CaS K rDicO fDicO := by
  intro w g H vs ds Q E S0 r o
  unfold fDicO at o
  split at o
  · split at o
    · rename_i d l kvs hv
      obtain ⟨x, rfl, rx⟩ := repl1 r
      obtain ⟨_, rfl, hl, xs, h1, h2⟩ := viewD_ok S0 rx hv
      refine ⟨_, xs, rfl, h1, fun p hp => ?_⟩
      have hc : CellAt K (w.more p) (upd H p (.dK xs)) p (.dic kvs) := ⟨S0.ex.free hp, xs, upd_same, h2.1, RepL.mono (w.le_more p) _ _ h2.2⟩
      refine o _ _ _ (w.le_more p) (S0.allocC hp hc) ?_
      simp only [Rep]
      rw [← S0.n]
      exact ⟨Nat.lt_succ_self _, by rw [Wd.more_at]⟩
    · exact o.elim
  · exact o.elim
end Fw

set_option maxRecDepth 100000
set_option maxHeartbeats 4000000
namespace Fw
open PySem PySem.Spec PyProof.Rows L2
def fDivmod : Fn := fun ds g => match ds with
  | [.int i, .int j] => if 0 < j ∧ j < 1073741824 * 1073741824 * 1073741824 then .ok (.tup [.int (i / j), .int (i % j)]) g else .no
  | _ => .no
def rDivmod : List V → Hp → VK → Prop := fun xs H Q => ∃ i j, xs = [.int i, .int j] ∧ CDivP i j ∧ ∀ p, H p = none → Q (.ref p) (upd H p (.tup [.int (i / j), .int (i % j)]))
theorem call_dm {X : Cx} : CallR X (.builtin "divmod") rDivmod := call_divmodW
theorem cdivP {i j : Int} (h : 0 < j ∧ j < 1073741824 * 1073741824 * 1073741824) : CDivP i j := by
  refine ⟨h.1, PyProof.noPylong_of_log2 ?_⟩
  have h0 : j.natAbs ≠ 0 := by omega
  have := (Nat.log2_lt (n := j.natAbs) (k := 9000) h0).mpr (Nat.lt_of_lt_of_le (show j.natAbs < 2 ^ 90 by omega) (Nat.pow_le_pow_right (by decide) (by decide)))
  exact this
theorem c_dm {K : PySem.W.Frag} : CaS K rDivmod fDivmod := by
  intro w g H vs ds Q E S0 r o
  unfold fDivmod at o
  split at o
  · split at o
    · rename_i h
      obtain ⟨v, u, rfl, h1, h2⟩ := repl2 r
      refine ⟨_, _, by rw [rep_int h1, rep_int h2], cdivP h, Out.newT o S0 ?_⟩
      simp only [RepL]
      exact ⟨_, _, rfl, rep_int', _, _, rfl, rep_int', rfl⟩
    · exact o.elim
  · exact o.elim
def asB : List D → Option (List Bool)
  | [] => some []
  | .bl b :: ds => (asB ds).map (b :: ·)
  | _ => none
theorem asB_ok {K : PySem.W.Frag} {w : Wd} : ∀ {ds : List D} {xs : List V} {bs : List Bool}, RepL K w xs ds → asB ds = some bs → xs = bs.map V.bl
  | [], xs, bs, r, e => by
    cases e; simp only [RepL] at r; rw [r]; rfl
  | .bl b :: ds, xs, bs, r, e => by
    simp only [asB, Option.map_eq_some_iff] at e
    obtain ⟨cs, e1, rfl⟩ := e
    simp only [RepL] at r
    obtain ⟨x, t, rfl, r1, r2⟩ := r
    simp only [Rep] at r1
    rw [List.map_cons, asB_ok r2 e1, r1]
  | .non :: _, _, _, _, e => by cases e
  | .int _ :: _, _, _, _, e => by cases e
  | .str _ :: _, _, _, _, e => by cases e
  | .lst _ :: _, _, _, _, e => by cases e
  | .tup _ :: _, _, _, _, e => by cases e
  | .obj _ :: _, _, _, _, e => by cases e
  | .err _ _ :: _, _, _, _, e => by cases e
theorem flat_bs (bs : List Bool) : (bs.map V.bl).all flatV = true := by
  rw [List.all_map]
  exact List.all_eq_true.mpr fun _ _ => rfl
def mCntB (d : D) (ds : List D) (g : Gr) : R := match ds with
  | [.bl b] => (match viewL g d with
    | some es => (match asB es with
      | some bs => .ok (.int (bs.count b : Nat)) g
      | none => .no)
    | none => .no)
  | _ => .no
def rCntB (K : PySem.W.Frag) : V → List V → Hp → VK → Prop := fun x xs H Q => ∃ (a : Addr) (bs : List Bool) (b : Bool), x = V.ref a ∧ xs = [.bl b] ∧ SqL K H a (bs.map V.bl) ∧ Q (.int (bs.count b : Nat)) H
theorem mt_cntB {X : Cx} : MtR X "list.count" (rCntB X.K) := by
  intro pins s σ H x xs v us Q I rx rxs h
  obtain ⟨a, bs, b, rfl, rfl, hs, q⟩ := h
  cases rx
  obtain ⟨uy, rfl, ry⟩ := vals1 rxs
  obtain ⟨its, rv, ⟨⟨cls, dd, data, sl⟩, n, ho, hc, hdn, hd⟩, hlen⟩ := I.list hs
  simp only at hc hd
  subst hc hd
  refine call_meets PySem.F.slot_list_count ⟨_, ho, rfl⟩ PySem.F.entry_list_count (PySem.F.args_list_count_2 _ _) (SeqAt.list_countAt a its.toArray n dd sl uy (eqU (.bl b))) ⟨ho, fun u' hu' => mem_eqAt ry rfl rv (flat_bs bs) u' (by simpa using hu'), ?_⟩
  have ec : ∀ (cs : List Bool) (us : List Value), Vals (cs.map V.bl) us → us.countP (eqU (.bl b)) = cs.count b := by
    intro cs
    induction cs with
    | nil => intro us r; cases r; rfl
    | cons c cs ih =>
      intro us r
      rw [List.map_cons] at r
      cases r with
      | cons r1 r2 =>
        rw [List.countP_cons, ih _ r2, List.count_cons, eqU_of r1 rfl]
        rfl
  have e2 : its.toArray.toList.countP (eqU (.bl b)) = bs.count b := ec bs its rv
  rw [e2]
  exact ⟨.int (bs.count b : Nat), H, I.tok _, ⟨s.toks, rfl⟩, q⟩
theorem ms_cntB {K : PySem.W.Frag} : MtS K "list" (rCntB K) tyL mCntB := by
  refine ⟨fun w g H x d S0 r h => tyL_ok S0 r h, fun w g H x d vs ds Q E S0 rx rv o => ?_⟩
  unfold mCntB at o
  split at o
  · split at o
    · rename_i es hv
      split at o
      · rename_i bs hb
        obtain ⟨y, rfl, ry⟩ := repl1 rv
        obtain ⟨a, xs, rfl, h1, h2⟩ := viewL_ok S0 rx hv
        have e := asB_ok h2 hb
        subst e
        simp only [Rep] at ry
        subst ry
        exact ⟨a, bs, _, rfl, rfl, .inl h1, Out.here o S0 rep_int'⟩
      · exact o.elim
    · exact o.elim
  · exact o.elim
def mIxB (d : D) (ds : List D) (g : Gr) : R := match ds with
  | [.bl b] => (match viewL g d with
    | some es => (match asB es with
      | some bs => if b ∈ bs then .ok (.int (bs.idxOf b : Nat)) g else .no
      | none => .no)
    | none => .no)
  | _ => .no
theorem ms_ixB {K : PySem.W.Frag} : MtS K "list" (rIndex K) tyL mIxB := by
  refine ⟨fun w g H x d S0 r h => tyL_ok S0 r h, fun w g H x d vs ds Q E S0 rx rv o => ?_⟩
  unfold mIxB at o
  split at o
  · rename_i b
    split at o
    · rename_i es hv
      split at o
      · rename_i bs hb
        split at o
        · rename_i hm
          obtain ⟨y, rfl, ry⟩ := repl1 rv
          obtain ⟨a, xs, rfl, h1, h2⟩ := viewL_ok S0 rx hv
          have e := asB_ok h2 hb
          subst e
          simp only [Rep] at ry
          subst ry
          have hl := List.idxOf_lt_length_of_mem hm
          have hg : bs[bs.idxOf b]'hl = b := List.getElem_idxOf hl
          refine ⟨a, _, .bl b, bs.idxOf b, .bl b, rfl, rfl, .inl h1, rfl, flat_bs bs, by rw [List.getElem?_map, List.getElem?_eq_getElem hl, hg]; rfl, by simp [eqV], fun m z hmj hz => ?_, Out.here o S0 rep_int'⟩
          rw [List.getElem?_map] at hz
          have hml : m < bs.length := Nat.lt_trans hmj hl
          rw [List.getElem?_eq_getElem hml] at hz
          cases hz
          have := List.not_of_lt_findIdx (p := (· == b)) hmj
          simpa [eqV] using this
        · exact o.elim
      · exact o.elim
    · exact o.elim
  · exact o.elim
theorem mt_ixB {X : Cx} : MtR X "list.index" (rIndex X.K) := mt_index
end Fw

set_option maxRecDepth 100000
set_option maxHeartbeats 4000000
namespace Fw
open PySem PySem.Spec PyProof.Rows L2
theorem perm_uniq {α : Type} {le : α → α → Prop} (anti : ∀ a b, le a b → le b a → a = b) : ∀ {xs ys : List α}, xs.Perm ys → xs.Pairwise le → ys.Pairwise le → xs = ys
  | [], ys, p, _, _ => (List.nil_perm.mp p).symm
  | x :: xs, [], p, _, _ => absurd p.length_eq (by simp)
  | x :: xs, y :: ys, p, h1, h2 => by
    obtain ⟨a1, a2⟩ := List.pairwise_cons.mp h1
    obtain ⟨b1, b2⟩ := List.pairwise_cons.mp h2
    have e : x = y := by
      have m1 : x ∈ y :: ys := p.mem_iff.mp List.mem_cons_self
      have m2 : y ∈ x :: xs := p.mem_iff.mpr List.mem_cons_self
      rcases List.mem_cons.mp m1 with e | m1
      · exact e
      · rcases List.mem_cons.mp m2 with e | m2
        · exact e.symm
        · exact anti _ _ (a1 y m2) (b1 x m1)
    subst e
    rw [perm_uniq anti ((List.perm_cons x).mp p) a2 b2]
def leS (a b : Str) : Bool := !ltCps b.cps.toList a.cps.toList
theorem leS_iff {a b : Str} : leS a b = true ↔ a.cps.toList ≤ b.cps.toList := by
  unfold leS
  rw [PyProof.Rows.ltCps_eq]
  simp only [Bool.not_eq_true', decide_eq_false_iff_not]
  exact Iff.rfl
theorem leS_trans {a b c : Str} (h : leS a b = true) (k : leS b c = true) : leS a c = true := leS_iff.mpr (List.le_trans (leS_iff.mp h) (leS_iff.mp k))
theorem leS_total (a b : Str) : (leS a b || leS b a) = true := by
  rcases List.le_total a.cps.toList b.cps.toList with h | h
  · rw [leS_iff.mpr h]; rfl
  · rw [leS_iff.mpr h, Bool.or_true]
theorem leS_anti {a b : Str} (h : leS a b = true) (k : leS b a = true) : a = b := by
  have e := List.le_antisymm (leS_iff.mp h) (leS_iff.mp k)
  cases a; cases b
  simp only at e
  congr
  exact Array.toList_inj.mp e
def srtS (ks : List Str) : List Str := ks.mergeSort leS
theorem risingS_pw : ∀ (p : Str) (l : List Str), risingS p l = true → (p :: l).Pairwise fun a b => leS a b = true
  | p, [], _ => by simp
  | p, x :: r, h => by
    simp only [risingS, Bool.and_eq_true] at h
    have ih := risingS_pw x r h.2
    refine List.pairwise_cons.mpr ⟨fun y hy => ?_, ih⟩
    rcases List.mem_cons.mp hy with rfl | hy
    · exact h.1
    · exact leS_trans h.1 ((List.pairwise_cons.mp ih).1 y hy)
theorem sortedS_pw : ∀ l : List Str, sortedS l = true → l.Pairwise fun a b => leS a b = true
  | [], _ => .nil
  | x :: r, h => risingS_pw x r h
theorem srtS_uniq {ks ys : List Str} (p : ys.Perm ks) (h : sortedS ys = true) : ys = srtS ks :=
  perm_uniq (le := fun a b => leS a b = true) (fun _ _ => leS_anti) (p.trans (List.mergeSort_perm ks leS).symm) (sortedS_pw ys h) (List.pairwise_mergeSort (le := leS) (fun _ _ _ h k => leS_trans h k) leS_total ks)
def asKS : List Key → Option (List Str)
  | [] => some []
  | .inr z :: ks => (asKS ks).map (z :: ·)
  | _ => none
theorem asKS_ok : ∀ {ks : List Key} {zs : List Str}, asKS ks = some zs → ks = zs.map Sum.inr
  | [], zs, e => by cases e; rfl
  | .inr z :: ks, zs, e => by
    simp only [asKS, Option.map_eq_some_iff] at e
    obtain ⟨cs, e1, rfl⟩ := e
    rw [List.map_cons, asKS_ok e1]
  | .inl z :: ks, zs, e => by cases e
def fSrtK (cell : Bool) : Fn := fun ds g => match ds with
  | [d] => (match viewR g d with
    | some kvs => (match asKS (kvs.map (·.1)) with
      | some ks => if ks.length < 64 then (if cell then .ok (.obj g.length) (g ++ [.lst ((srtS ks).map .str)]) else .ok (.lst ((srtS ks).map .str)) g) else .no
      | none => .no)
    | none => .no)
  | _ => .no
def rSrtK : List V → Hp → VK → Prop := fun xs H Q => ∃ (a : Addr) (kvs : List (Key × V)) (ks : List Str), xs = [.ref a] ∧ Rd H a (.dK kvs) ∧ kvs.map (·.1) = ks.map Sum.inr ∧ ks.length < 64 ∧
    ∀ ys p, ys.Perm ks → sortedS ys = true → H p = none → Q (.ref p) (upd H p (.lst (ys.map V.str)))
theorem call_srtK {X : Cx} (hc : X.calm = true) : CallR X (.builtin "sorted") rSrtK := call_sortedD hc
theorem repl_strs {K : PySem.W.Frag} {w : Wd} : ∀ zs : List Str, RepL K w (zs.map V.str) (zs.map D.str)
  | [] => rfl
  | z :: zs => by simp only [List.map_cons, RepL]; exact ⟨_, _, rfl, rep_str', repl_strs zs⟩
theorem c_srtK {K : PySem.W.Frag} (cell : Bool) : CaS K rSrtK (fSrtK cell) := by
  intro w g H vs ds Q E S0 r o
  unfold fSrtK at o
  split at o
  · split at o
    · rename_i d kvs hv
      split at o
      · rename_i ks hk
        split at o
        · rename_i hz
          obtain ⟨x, rfl, rx⟩ := repl1 r
          obtain ⟨_, xs, rfl, h1, h2⟩ := viewR_ok S0 rx hv
          refine ⟨_, xs, ks, rfl, h1, h2.1.trans (asKS_ok hk), hz, fun ys p hp hs hn => ?_⟩
          rw [srtS_uniq hp hs]
          cases cell with
          | true => exact Out.newC o S0 (repl_strs _) p hn
          | false => exact Out.newL o S0 (repl_strs _) p hn
        · exact o.elim
      · exact o.elim
    · exact o.elim
  · exact o.elim
end Fw

set_option maxRecDepth 100000
set_option maxHeartbeats 4000000
namespace Fw
open PySem PySem.Spec PyProof.Rows L2
section
variable {X : Cx} {pins : List (Addr × Obj)} {σ : L2.St} {H : Hp} {s : Shared}
end
end Fw

set_option maxRecDepth 100000
set_option maxHeartbeats 4000000
namespace Fw
open PySem PySem.Spec PyProof.Rows L2
section
variable {P : Program} {w : World} {A : Around} {E : Value → Shared → Prop} {s : Shared}
end
end Fw

set_option maxRecDepth 100000
set_option maxHeartbeats 4000000
namespace Fw
open PySem PySem.Spec PyProof.Rows L2
def asN : List D → Option (List Int)
  | [] => some []
  | .int b :: ds => (asN ds).map (b :: ·)
  | _ => none
theorem asN_ints : ∀ ns : List Int, asN (ns.map .int) = some ns
  | [] => rfl
  | n :: ns => by rw [List.map_cons, asN, asN_ints ns]; rfl
section
variable {P : Program} {w : World} {K : PySem.W.Frag} {mg : Str → Option Value} {base : Heap} {Z : Sc} {k : Nat} {X : Cx} {W : WX} {pos p p2 pos2 : Pos} {e : Expr} {ms : Exps}
end
end Fw

set_option maxRecDepth 100000
set_option maxHeartbeats 4000000
namespace Fw
open PySem PySem.Spec PyProof.Rows L2
def itD (q : Nat) (kvs : List (Key × D)) : List D := kvs.map fun kv => match q with
  | 0 => kD kv.1
  | 1 => kv.2
  | _ => .tup [kD kv.1, kv.2]
def reD (l : Nat) (kvs : List (Key × D)) : S → S
  | .nx ρ g => (match g[l]? with
    | some (.shut _) => .nx ρ (g.set l (.dic kvs))
    | _ => .no)
  | .ret d g => (match g[l]? with
    | some (.shut _) => .ret d (g.set l (.dic kvs))
    | _ => .no)
  | .err c ρ g => .err c ρ g
  | _ => .no
noncomputable def sForD (q : Nat) (mo : Exp) (t : Tg) (b : Stm) : Stm := fun ρ g => match mo ρ g with
  | .ok d _ => (match viewD g d with
    | some (l, kvs) => (match mo ρ (g.set l (.shut kvs)) with
      | .ok d1 g1 => (match d1 with
        | .obj l1 => if l1 = l then reD l kvs (sLoop kpT t b (itD q kvs) ρ g1) else .no
        | _ => .no)
      | _ => .no)
    | none => .no)
  | _ => .no
section
variable {K : PySem.W.Frag} {w : Wd} {g : Gr} {H : Hp} {l : Nat} {kvs : List (Key × D)} {xs : List (Key × V)} {od : Obj}
theorem SG.shut (S : SG K w g H) (h0 : g[l]? = some (.dic kvs)) (hx : RepK K w xs kvs) : SG K { w with fr := upd w.fr (w.mm l) (.frz od (.dK xs)) } (g.set l (.shut kvs)) (upd H (w.mm l) (.frz od (.dK xs))) ∧ w.Le { w with fr := upd w.fr (w.mm l) (.frz od (.dK xs)) } := by
  have hlt : l < g.length := (List.getElem?_eq_some_iff.mp h0).1
  obtain ⟨f0, ys, e0, r0⟩ := S.cell l _ h0
  have hr : w.fr (w.mm l) = none := by
    cases q : w.fr (w.mm l) with
    | none => rfl
    | some u => exact absurd rfl (S.fc _ u l _ q h0 rfl)
  have back : ∀ (j : Nat) (c : Cl), (g.set l (.shut kvs))[j]? = some c → (j ≠ l ∧ g[j]? = some c) ∨ (j = l ∧ c = .shut kvs) := fun j c h => by
    by_cases z : l = j
    · subst z
      rw [List.getElem?_set_self hlt] at h
      exact .inr ⟨rfl, (Option.some.inj h).symm⟩
    · rw [List.getElem?_set_ne z] at h; exact .inl ⟨fun e => z e.symm, h⟩
  have ne : ∀ j c, g[j]? = some c → c.live = true → j ≠ l → w.mm j ≠ w.mm l := fun j c h v z e => z (S.inj j l c _ h h0 v rfl e)
  have le : w.Le { w with fr := upd w.fr (w.mm l) (.frz od (.dK xs)) } := ⟨Exn.refl _, fun _ _ => rfl, Nat.le_refl _, Exn.add hr⟩
  refine ⟨⟨fun a u q => ?_, by simp [S.n], fun j c h => ?_, fun j j' c1 c2 h1 h2 v1 v2 e => ?_, Exn.add2 S.fx, fun a u q => ?_, fun a u j c q h v z => ?_⟩, le⟩
  · have : a ≠ w.mm l := fun z => by
      have q' : w.F a = some u := q
      rw [z, f0] at q'; cases q'
    rw [upd_ne this]; exact S.ex a u q
  · rcases back j c h with ⟨z, h'⟩ | ⟨rfl, rfl⟩
    · exact (S.cell j c h').mono (show Wd.Lo w { w with fr := upd w.fr (w.mm l) (.frz od (.dK xs)) } from ⟨Exn.refl _, fun _ _ => rfl, Nat.le_refl _⟩) (fun _ f => f) fun hv => upd_ne (ne j c h' hv z)
    · exact ⟨f0, od, xs, upd_same, hx.1, RepL.mono le _ _ hx.2⟩
  · rcases back j c1 h1 with ⟨z1, q1⟩ | ⟨rfl, rfl⟩ <;> rcases back j' c2 h2 with ⟨z2, q2⟩ | ⟨rfl, rfl⟩
    · exact S.inj j j' c1 c2 q1 q2 v1 v2 e
    · exact absurd e (ne j c1 q1 v1 z1)
    · exact absurd e.symm (ne j' c2 q2 v2 z2)
    · rfl
  · have q' : upd w.fr (w.mm l) (HO.frz od (.dK xs)) a = some u := q
    by_cases y : a = w.mm l
    · rw [y]; exact f0
    · rw [upd_ne y] at q'; exact S.ff a u q'
  · have q' : upd w.fr (w.mm l) (HO.frz od (.dK xs)) a = some u := q
    have z' : w.mm j = a := z
    rcases back j c h with ⟨y, h'⟩ | ⟨rfl, rfl⟩
    · by_cases x : a = w.mm l
      · exact ne j c h' (op_live v) y (z'.trans x)
      · rw [upd_ne x] at q'; exact S.fc a u j c q' h' v z'
    · cases v
theorem SG.opened (S : SG K w g H) (h0 : g[l]? = some (.dic kvs)) (hx : RepK K w xs kvs) {w' : Wd} {g' : Gr} {H' : Hp} (le : Wd.Le { w with fr := upd w.fr (w.mm l) (.frz od (.dK xs)) } w') (S' : SG K w' g' H') {ks : List (Key × D)} (hd : g'[l]? = some (.shut ks)) :
    H' (w.mm l) = some (.frz od (.dK xs)) ∧ SG K { w' with fr := w.fr } (g'.set l (.dic kvs)) (upd H' (w.mm l) (.dK xs)) ∧ w.Le { w' with fr := w.fr } := by
  have hlt : l < w.n := by rw [S.n]; exact (List.getElem?_eq_some_iff.mp h0).1
  have hlt' : l < g'.length := (List.getElem?_eq_some_iff.mp hd).1
  have em : w'.mm l = w.mm l := le.same l hlt
  have hf : w'.fr (w.mm l) = some (.frz od (.dK xs)) := le.fr _ _ upd_same
  have hF : w'.F (w.mm l) = none := S'.ff _ _ hf
  have hr : w.fr (w.mm l) = none := by
    cases q : w.fr (w.mm l) with
    | none => rfl
    | some u => exact absurd rfl (S.fc _ u l _ q h0 rfl)
  have sub : Exn w.fr w'.fr := fun a u q => le.fr a u (by
    have : a ≠ w.mm l := fun z => by rw [z, hr] at q; cases q
    show upd w.fr (w.mm l) _ a = _
    rw [upd_ne this]; exact q)
  have le2 : w.Le { w' with fr := w.fr } := ⟨le.ex, le.same, le.le, Exn.refl _⟩
  have ne : ∀ j c, j ≠ l → g'[j]? = some c → c.live = true → w'.mm j ≠ w.mm l := fun j c z h v e => z (S'.inj j l c _ h hd v rfl (e.trans em.symm))
  have back : ∀ (j : Nat) (c : Cl), (g'.set l (.dic kvs))[j]? = some c → (j ≠ l ∧ g'[j]? = some c) ∨ (j = l ∧ c = .dic kvs) := fun j c h => by
    by_cases z : l = j
    · subst z
      rw [List.getElem?_set_self hlt'] at h
      exact .inr ⟨rfl, (Option.some.inj h).symm⟩
    · rw [List.getElem?_set_ne z] at h; exact .inl ⟨fun e => z e.symm, h⟩
  refine ⟨S'.fx _ _ hf, ⟨fun a u q => ?_, by simp [S'.n], fun j c h => ?_, fun j j' c1 c2 h1 h2 v1 v2 e => ?_, fun a u q => ?_, fun a u q => S'.ff a u (sub a u q), fun a u j c q h v z => ?_⟩, le2⟩
  · have : a ≠ w.mm l := fun z => by
      have q' : w'.F a = some u := q
      rw [z, hF] at q'; cases q'
    rw [upd_ne this]; exact S'.ex a u q
  · rcases back j c h with ⟨z, h'⟩ | ⟨rfl, rfl⟩
    · exact (S'.cell j c h').mono (show Wd.Lo w' { w' with fr := w.fr } from ⟨Exn.refl _, fun _ _ => rfl, Nat.le_refl _⟩) (fun _ f => f) fun v => upd_ne (ne j c z h' v)
    · show CellAt K { w' with fr := w.fr } (upd H' (w.mm j) (.dK xs)) (w'.mm j) (.dic kvs)
      rw [em]
      exact ⟨hF, xs, upd_same, hx.1, RepL.mono le2 _ _ hx.2⟩
  · rcases back j c1 h1 with ⟨z1, q1⟩ | ⟨rfl, rfl⟩ <;> rcases back j' c2 h2 with ⟨z2, q2⟩ | ⟨rfl, rfl⟩
    · exact S'.inj j j' c1 c2 q1 q2 v1 v2 e
    · have e' : w'.mm j = w'.mm j' := e
      exact absurd (e'.trans em) (ne j c1 z1 q1 v1)
    · have e' : w'.mm j = w'.mm j' := e
      exact absurd (e'.symm.trans em) (ne j' c2 z2 q2 v2)
    · rfl
  · have : a ≠ w.mm l := fun z => by
      have q' : w.fr a = some u := q
      rw [z, hr] at q'; cases q'
    rw [upd_ne this]; exact S'.fx a u (sub a u q)
  · have z' : w'.mm j = a := z
    have q' : w.fr a = some u := q
    rcases back j c h with ⟨_, h'⟩ | ⟨rfl, rfl⟩
    · exact S'.fc a u j c (sub a u q) h' v z'
    · rw [← z', em, hr] at q'; cases q'
end
end Fw

set_option maxRecDepth 100000
set_option maxHeartbeats 4000000
namespace Fw
open PySem PySem.Spec PyProof.Rows L2
section
variable {K : PySem.W.Frag} {w : Wd}
theorem repK_at : ∀ {kvs : List (Key × D)} {xs : List (Key × V)} {i : Nat} {k : Key} {d : D}, RepK K w xs kvs → kvs[i]? = some (k, d) → ∃ v, xs[i]? = some (k, v) ∧ Rep K w v d
  | [], xs, i, k, d, _, e => by simp at e
  | (k0, d0) :: kvs, xs, 0, k, d, h, e => by
    obtain ⟨v, r, rfl, h1, h2⟩ := repK_cons h
    simp only [List.getElem?_cons_zero, Option.some.injEq, Prod.mk.injEq] at e
    obtain ⟨rfl, rfl⟩ := e
    exact ⟨v, rfl, h1⟩
  | (k0, d0) :: kvs, xs, i + 1, k, d, h, e => by
    obtain ⟨v, r, rfl, h1, h2⟩ := repK_cons h
    simp only [List.getElem?_cons_succ] at e
    obtain ⟨u, h3, h4⟩ := repK_at h2 e
    exact ⟨u, by simpa using h3, h4⟩
theorem repK_mono {w' : Wd} {kvs : List (Key × D)} {xs : List (Key × V)} (e : w.Le w') (h : RepK K w xs kvs) : RepK K w' xs kvs := ⟨h.1, RepL.mono e _ _ h.2⟩
theorem itD_len (q : Nat) (kvs : List (Key × D)) : (itD q kvs).length = kvs.length := by simp [itD]
section
variable {d : Addr} {od : Obj} {xs : List (Key × V)} {kvs : List (Key × D)} (hf : w.fr d = some (.frz od (.dK xs))) (r : RepK K w xs kvs)
include hf r
theorem fol_items : Fol K (Iti d od xs) (itD 2 kvs) kpT w where
  stop := fun i H' w' g' le S' _ hi => ⟨S'.fx _ _ (le.fr _ _ hf), by rw [repK_len r, ← itD_len 2]; exact hi⟩
  go := fun i H' w' g' le S' _ hi => ⟨S'.fx _ _ (le.fr _ _ hf), by rw [repK_len r, ← itD_len 2]; exact hi⟩
  yld := fun i H' x H2 w' g' e le S' _ hi y => by
    obtain ⟨T, k, v0, hk, rfl, hT, rfl⟩ := y
    unfold itD at hi
    rw [List.getElem?_map] at hi
    obtain ⟨⟨k', d'⟩, h1, h2⟩ := Option.map_eq_some_iff.mp hi
    obtain ⟨v, h3, h4⟩ := repK_at (repK_mono le r) h1
    rw [h3] at hk
    simp only [Option.some.injEq, Prod.mk.injEq] at hk
    obtain ⟨rfl, rfl⟩ := hk
    have h2' : D.tup [kD k', d'] = e := h2
    obtain ⟨S2, le2⟩ := S'.allocF hT (.tup [kV k', v])
    refine ⟨_, le2, S2, h2' ▸ ?_⟩
    simp only [Rep]
    refine ⟨T, _, rfl, .inl (.inl upd_same), ?_⟩
    simp only [RepL]
    exact ⟨_, _, rfl, kD_rep, _, _, rfl, h4.mono le2, rfl⟩
end
end
section
variable {X : Cx} {W : WX} {mt : Tg} {mb : Stm} {vs : List Nat}
theorem loopT {J : It} {ds : List D} {w1 : Wd} {kp : Gr → Prop} {Dn : Ends} {σ : L2.St} {H1 : Hp} {ρ : En} {g1 : Gr} (F : Fol X.K J ds kp w1) (S1 : SG X.K w1 g1 H1) (L1 : SL X.K w1 ρ σ) (o : OutS X.K w1 (sLoop kp mt mb ds ρ g1) Dn W) :
    ∃ Wv : Nat → Nat → L2.St → Hp → Prop, (∃ m, Wv 0 m σ H1) ∧ ∀ i m σ H, Wv i m σ H → (J.stop i H ∧ Dn.nx σ H) ∨ (J.go i H ∧ ∃ N : L2.St → Hp → Prop, (∀ σ' H', N σ' H' → ∃ m', m' < m ∧ Wv (i + 1) m' σ' H') ∧ ∀ x H', J.yld i H x H' → tMG X.K vs mt x σ H' fun σ2 H2 => tMS X.K W mb { Dn with nx := N, ct := N, bk := Dn.nx } σ2 H2) := by
  refine ⟨fun i m σ' H' => m = ds.length - i ∧ i ≤ ds.length ∧ ∃ w' ρ' g', w1.Le w' ∧ SG X.K w' g' H' ∧ SL X.K w' ρ' σ' ∧ OutS X.K w' (sLoop kp mt mb (ds.drop i) ρ' g') Dn W, ⟨ds.length, rfl, Nat.zero_le _, w1, ρ, g1, Wd.Le.refl _, S1, L1, o⟩, ?_⟩
  rintro i m σ' H' ⟨rfl, hi, w2, ρ2, g2, le2, S2, L2', o2⟩
  by_cases hlt : i < ds.length
  · rw [List.drop_eq_getElem_cons hlt] at o2
    unfold sLoop at o2
    split at o2
    · rename_i hk
      refine .inr ⟨F.go i H' w2 g2 le2 S2 hk hlt, fun σ3 H3 => ∃ w' ρ' g', w1.Le w' ∧ SG X.K w' g' H3 ∧ SL X.K w' ρ' σ3 ∧ OutS X.K w' (sLoop kp mt mb (ds.drop (i + 1)) ρ' g') Dn W, fun σ3 H3 z => ⟨ds.length - (i + 1), by omega, rfl, hlt, z⟩, fun x H3 y => ?_⟩
      obtain ⟨w3, le3, S3, r3⟩ := F.yld i H' x H3 w2 g2 ds[i] le2 S2 hk (by simp [hlt]) y
      refine ⟨w3, ρ2, g2, ds[i], S3, L2'.mono le3, r3, ?_⟩
      cases e4 : mt ds[i] ρ2 g2 with
      | none => simp only [e4] at o2; exact o2
      | some p =>
        obtain ⟨ρ4, g4⟩ := p
        simp only [e4] at o2
        intro σ4 H4 w4 le4 S4 L4 _
        refine ⟨w4, ρ4, g4, S4, L4, ?_⟩
        have up : w2.Le w4 := le3.trans le4
        cases e5 : mb ρ4 g4 with
        | no => simp only [e5] at o2; exact o2
        | nx ρ5 g5 => simp only [e5] at o2; exact fun σ5 H5 w5 le5 S5 L5 => ⟨w5, ρ5, g5, le2.trans (up.trans le5), S5, L5, OutS.weak o2 (up.trans le5)⟩
        | ct ρ5 g5 => simp only [e5] at o2; exact fun σ5 H5 w5 le5 S5 L5 => ⟨w5, ρ5, g5, le2.trans (up.trans le5), S5, L5, OutS.weak o2 (up.trans le5)⟩
        | bk ρ5 g5 => simp only [e5] at o2; exact fun σ5 H5 w5 le5 S5 L5 => o2 σ5 H5 w5 (up.trans le5) S5 L5
        | ret d5 g5 => simp only [e5] at o2; exact fun v5 H5 w5 le5 S5 r5 => o2 v5 H5 w5 (up.trans le5) S5 r5
        | err c5 ρ5 g5 => simp only [e5] at o2; exact fun σ5 H5 w5 le5 S5 L5 => o2 σ5 H5 w5 (up.trans le5) S5 L5
    · exact o2.elim
  · obtain rfl : i = ds.length := by omega
    rw [List.drop_length] at o2
    unfold sLoop at o2
    split at o2
    · rename_i hk
      exact .inl ⟨F.stop _ H' w2 g2 le2 S2 hk (Nat.le_refl _), o2 σ' H' w2 (Wd.Le.refl _) S2 L2'⟩
    · exact o2.elim
theorem viewD_lab {g : Gr} {d : D} {l : Nat} {kvs : List (Key × D)} (e : viewD g d = some (l, kvs)) : g[l]? = some (.dic kvs) := by
  cases d with
  | obj j =>
    simp only [viewD] at e
    split at e
    · rename_i es hl; cases e; exact hl
    · cases e
  | _ => simp only [viewD] at e; cases e
theorem shut_for {mo : Exp} {q : Nat} {Jf : Addr → Obj → List (Key × V) → It}
    (hF : ∀ (w1 : Wd) (d : Addr) (od : Obj) (xs : List (Key × V)) (kvs : List (Key × D)), w1.fr d = some (.frz od (.dK xs)) → RepK X.K w1 xs kvs → Fol X.K (Jf d od xs) (itD q kvs) kpT w1)
    {ti : TI} (hti : ∀ σ H R, tM X.K W mo σ H (fun x H1 => ∃ d o kvs, x = .ref d ∧ H1 d = some (.frz o (.dK kvs)) ∧ R (Jf d o kvs) H1) → ti σ H R)
    {Dn : Ends} {σ : L2.St} {H : Hp} (h : tMS X.K W (sForD q mo mt mb) Dn σ H) : tLock (tFor ti (tMG X.K vs mt) (tMS X.K W mb)) Dn σ H := by
  obtain ⟨w, ρ, g, S0, L, o⟩ := h
  unfold sForD at o
  split at o
  · rename_i d g0 e0
    split at o
    · rename_i l kvs hv
      have hl := viewD_lab hv
      split at o
      · rename_i d1 g1 e1
        split at o
        · rename_i l1
          split at o
          · rename_i el
            subst el
            obtain ⟨f0, xs, hx, rx⟩ := S0.cell _ _ hl
            refine ⟨w.mm l1, .dK xs, hx, trivial, fun od => ?_⟩
            obtain ⟨S1, le1⟩ := S0.shut (od := od) (xs := xs) hl rx
            refine hti _ _ _ ⟨_, ρ, g.set l1 (.shut kvs), S1, L.mono le1, ?_⟩
            rw [e1]
            intro v H1 w2 le2 S2 r2
            simp only [Rep] at r2
            have hlt : l1 < w.n := by rw [S0.n]; exact (List.getElem?_eq_some_iff.mp hl).1
            have em : w2.mm l1 = w.mm l1 := le2.same l1 hlt
            have hfr := le2.fr _ _ (upd_same (H := w.fr) (a := w.mm l1) (o := .frz od (.dK xs)))
            refine ⟨w.mm l1, od, xs, by rw [r2.2, em], S2.fx _ _ hfr, ?_⟩
            have rx' : RepK X.K w2 xs kvs := repK_mono (le1.trans le2) rx
            refine loopT (hF w2 _ od xs kvs hfr rx') S2 ((L.mono le1).mono le2) ?_
            cases es : sLoop kpT mt mb (itD q kvs) ρ g1 with
            | no => rw [es] at o; exact o
            | bk ρ' g' => rw [es] at o; exact o.elim
            | ct ρ' g' => rw [es] at o; exact o.elim
            | err c ρ' g' => rw [es] at o; exact fun σ' H' w' le' S' L' => o σ' H' w' ((le1.trans le2).trans le') S' L'
            | nx ρ' g' =>
              rw [es] at o
              unfold reD at o
              simp only at o
              split at o
              · rename_i hd
                intro σ' H' w' le' S' L'
                obtain ⟨a1, a2, a3⟩ := S0.opened hl rx (le2.trans le') S' hd
                exact ⟨a1, o σ' _ _ a3 a2 ⟨L'.1, fun i d h => let ⟨v, h1, h2⟩ := L'.2 i d h; ⟨v, h1, Rep.mono0 (show Wd.Lo w' { w' with fr := w.fr } from ⟨Exn.refl _, fun _ _ => rfl, Nat.le_refl _⟩) _ _ h2⟩⟩⟩
              · exact o.elim
            | ret d' g' =>
              rw [es] at o
              unfold reD at o
              simp only at o
              split at o
              · rename_i hd
                intro v' H' w' le' S' r'
                obtain ⟨a1, a2, a3⟩ := S0.opened hl rx (le2.trans le') S' hd
                exact ⟨a1, o v' _ _ a3 a2 (Rep.mono0 (show Wd.Lo w' { w' with fr := w.fr } from ⟨Exn.refl _, fun _ _ => rfl, Nat.le_refl _⟩) _ _ r')⟩
              · exact o.elim
          · exact o.elim
        · exact o.elim
      · exact o.elim
    · exact o.elim
  · exact o.elim
end
section
variable {P : Program} {w : World} {K : PySem.W.Frag} {mg : Str → Option Value} {base : Heap} {Z : Sc} {k : Nat} {X : Cx} {W : WX} {pos apos cpos tpos : Pos} {e tg : Expr} {elts : List Expr} {kk : Nat} {mo : Exp} {mt : Tg} {mb : Stm} {body : List Stmt}
theorem rs_forItems (C : Cc P w K mg base Z none k X W) (vs : List Nat) (he : RE X W e mo) (hg : RG X vs (.Tuple elts kk tpos) mt) (hb : RB X W body mb) (hbase : attributeBase e "items" X.env (eval e X.env) = eval e X.env := by rfl) (hline : (apos.endLine == cpos.line) = true := by rfl)
    (hs : ∀ x, foldedSetIterable (.Call (.Attribute e "items" apos) [] [] cpos) X.env x = pure x := by intro _; rfl) : RS X W (.For (.Tuple elts kk tpos) (.Call (.Attribute e "items" apos) [] [] cpos) body [] pos) (sForD 2 mo mt mb) :=
  ps_weak (ps_lock (ps_for C.pass C.calm (pi_items he hbase hline) hg hb hs)) fun _ _ _ h => shut_for (fun _ _ _ _ _ hf r => fol_items hf r) (fun _ _ _ z => z) h
end
end Fw

set_option maxRecDepth 100000
set_option maxHeartbeats 4000000
namespace Fw
open PySem PySem.Spec PyProof.Rows L2
def lvD (d : D) (g : Gr) : R := match viewD g d with
  | some (_, kvs) => .ok (.lst (kvs.map (·.2))) g
  | none => .no
def eLV (m : Exp) : Exp := fun ρ g => (m ρ g).bind lvD
section
variable {P : Program} {w : World} {K : PySem.W.Frag} {mg : Str → Option Value} {base : Heap} {Z : Sc} {k : Nat} {X : Cx} {W : WX} {pos p apos cpos : Pos} {e : Expr} {m : Exp}
end
end Fw

set_option maxRecDepth 100000
set_option maxHeartbeats 4000000
namespace Fw
open PySem PySem.Spec PyProof.Rows L2
noncomputable def dputD (d o i : D) (ρ : En) (g2 : Gr) : Option (En × Gr) := match toK i, viewD g2 o with
  | some k, some (l, kvs) => if kvs.length < 1000000 then some (ρ, g2.set l (.dic (dPut kvs k d))) else none
  | _, _ => none
noncomputable def fDs2 (d o : D) (ρ : En) : R → Option (En × Gr)
  | .ok i g2 => dputD d o i ρ g2
  | _ => none
noncomputable def fDs1 (mi : Exp) (d : D) (ρ : En) : R → Option (En × Gr)
  | .ok o g1 => fDs2 d o ρ (mi ρ g1)
  | _ => none
def fLv : R → R
  | .ok d g => lvD d g
  | .err c g => .err c g
  | .no => .no
section
variable {a b : Exp} {ρ : En} {g : Gr} {d o i e x : D} {l : Nat} {kvs : List (Key × D)} {k : Key} {n : Bool}
theorem v_subD : gSubD a b d ρ g = fDs1 b d ρ (a ρ g) := by
  unfold gSubD fDs1
  cases ea : a ρ g with
  | ok o g1 =>
    simp only []
    unfold fDs2
    cases eb : b ρ g1 <;> rfl
  | err c g1 => rfl
  | no => rfl
theorem w_subD1 : fDs1 b d ρ (.ok o g) = fDs2 d o ρ (b ρ g) := rfl
theorem w_subD2 : fDs2 d o ρ (.ok i g) = dputD d o i ρ g := rfl
theorem v_lv : eLV a ρ g = fLv (a ρ g) := by unfold eLV fLv; cases a ρ g <;> rfl
theorem w_lv : fLv (.ok d g) = lvD d g := rfl
theorem v_dm {i j : Int} (h : 0 < j ∧ j < 1073741824 * 1073741824 * 1073741824) : fDivmod [.int i, .int j] g = .ok (.tup [.int (i / j), .int (i % j)]) g := if_pos h
theorem viewD_of (h : g[l]? = some (.dic kvs)) : viewD g (.obj l) = some (l, kvs) := by
  show (match g[l]? with | some (.dic kvs) => some (l, kvs) | _ => none) = _
  rw [h]
theorem viewR_of (h : g[l]? = some (.dic kvs)) : viewR g (.obj l) = some kvs := by
  show (match g[l]? with | some (.dic kvs) => some kvs | some (.shut kvs) => some kvs | _ => none) = _
  rw [h]
theorem dgetR {kvs : List (Key × D)} (h : viewR g (.obj l) = some kvs) (hk : toK e = some k) (hx : dGet kvs k = some x) : opDGet (.obj l) e g = .ok x g := by
  unfold opDGet
  rw [hk, h]
  simp only [hx]
theorem dinR {kvs : List (Key × D)} (h : viewR g (.obj l) = some kvs) (hk : toK e = some k) : opDIn n e (.obj l) g = .ok (.bl (if n then !(dGet kvs k).isSome else (dGet kvs k).isSome)) g := by
  unfold opDIn
  rw [hk, h]
theorem srtKR {kvs : List (Key × D)} {ks : List Str} (h : viewR g (.obj l) = some kvs) (hk : asKS (kvs.map (·.1)) = some ks) (hn : ks.length < 64) : fSrtK n [.obj l] g = if n then .ok (.obj g.length) (g ++ [.lst ((srtS ks).map .str)]) else .ok (.lst ((srtS ks).map .str)) g := by
  unfold fSrtK
  simp only [h, hk, if_pos hn]
theorem tyDc_of (h : g[l]? = some (.dic kvs)) : tyDc (.obj l) g = true := by
  unfold tyDc; rw [viewD_of h]; rfl
theorem dget_of (h : g[l]? = some (.dic kvs)) (hk : toK e = some k) (hx : dGet kvs k = some x) : opDGet (.obj l) e g = .ok x g := dgetR (viewR_of h) hk hx
theorem din_of (h : g[l]? = some (.dic kvs)) (hk : toK e = some k) : opDIn n e (.obj l) g = .ok (.bl (if n then !(dGet kvs k).isSome else (dGet kvs k).isSome)) g := dinR (viewR_of h) hk
theorem get2_of (h : g[l]? = some (.dic kvs)) (hk : toK e = some k) : mDGet2 (.obj l) [e, x] g = .ok ((dGet kvs k).getD x) g := by
  unfold mDGet2
  simp only [hk, viewD_of h]
theorem pop_of (h : g[l]? = some (.dic kvs)) (hk : toK e = some k) (hx : dGet kvs k = some x) : mDPop (.obj l) [e] g = .ok x (g.set l (.dic (dDrop kvs k))) := by
  unfold mDPop
  simp only [hk, viewD_of h, hx]
theorem dput_of (h : g[l]? = some (.dic kvs)) (hk : toK i = some k) (hn : kvs.length < 1000000) : dputD d (.obj l) i ρ g = some (ρ, g.set l (.dic (dPut kvs k d))) := by
  unfold dputD
  rw [hk, viewD_of h]
  exact if_pos hn
theorem srtK_of {ks : List Str} (h : g[l]? = some (.dic kvs)) (hk : asKS (kvs.map (·.1)) = some ks) (hn : ks.length < 64) : fSrtK n [.obj l] g = if n then .ok (.obj g.length) (g ++ [.lst ((srtS ks).map .str)]) else .ok (.lst ((srtS ks).map .str)) g := srtKR (viewR_of h) hk hn
theorem dicO_of (h : g[l]? = some (.dic kvs)) : fDicO [.obj l] g = .ok (.obj g.length) (g ++ [.dic kvs]) := by
  unfold fDicO
  simp only [viewD_of h]
theorem forD_of {q : Nat} {t : Tg} {s : Stm} {g0 g1 : Gr} (h : g[l]? = some (.dic kvs)) (h0 : a ρ g = .ok (.obj l) g0) (h1 : a ρ (g.set l (.shut kvs)) = .ok (.obj l) g1) : sForD q a t s ρ g = reD l kvs (sLoop kpT t s (itD q kvs) ρ g1) := by
  unfold sForD
  simp only [h0, viewD_of h, h1, if_true]
end
end Fw

set_option maxRecDepth 100000
set_option maxHeartbeats 4000000
namespace Fw
open PySem PySem.Spec PyProof.Rows L2
section
variable {P : Program} {w : World} {K : PySem.W.Frag} {mg : Str → Option Value} {base : Heap} {Z : Sc} {hot : Option (Nat × Str)} {k : Nat} {X : Cx} {W : WX} {pos p p2 : Pos} {e f : Expr} {m mf : Exp} {y : Str} {Os : List Str}
end
section
variable {P : Program} {w : World} {K : PySem.W.Frag} {mg : Str → Option Value} {base : Heap} {Z : Sc} {hot : Option (Nat × Str)} {k : Nat} {X : Cx} {W : WX} {px py pt pt2 pos : Pos} {x y : Str} {a b : Expr} {ms : Exps} {kt k2}
theorem rs_par (C : Cc P w K mg base Z none k X W) (i j : Nat) (h : RA X W [a, b] ms) (hi : Z.N[i]? = some x := by rfl) (hj : Z.N[j]? = some y := by rfl) (hij : i ≠ j := by decide)
    (hx : Z.sc.names.lookup x = some .local := by rfl) (hy : Z.sc.names.lookup y = some .local := by rfl)
    (hw : ∀ env : Env, env.scope = Z.sc → swappedStores [.Tuple [.Name x px, .Name y py] kt pt] (.Tuple [a, b] k2 pt2) env = pure (some [x, y]) := by intro env h; unfold swappedStores Env.blockKind Env.kindOf; rw [h]; rfl)
    (hs : swapsWithSole [.Tuple [.Name x px, .Name y py] kt pt] (.Tuple [a, b] k2 pt2) pos.line X.env = pure false := by rfl) :
    RS X W (.Assign [.Tuple [.Name x px, .Name y py] kt pt] (.Tuple [a, b] k2 pt2) pos) (sAsg (gUnp 2 (gsCons (gVar i) (gsCons (gVar j) gsNil))) (eArgs fTup ms)) := by
  refine ps_weak (ps_par C.calm (by rw [C.nn]; exact C.nd) (by rw [C.nn]; exact hi) (by rw [C.nn]; exact hj) hij (by rw [C.ss]; exact hx) (by rw [C.ss]; exact hy) h (hw _ C.ss) hs) ?_
  rintro Dn σ H ⟨w1, ρ, g, S0, L, o⟩
  refine ⟨w1, ρ, g, S0, L, ?_⟩
  have o2 : OutS X.K w1 ((((ms ρ g).bind fTup).toS ρ fun d g1 => match gUnp 2 (gsCons (gVar i) (gsCons (gVar j) gsNil)) d ρ g1 with
    | some (ρ2, g2) => .nx ρ2 g2
    | none => .no)) Dn W := o
  cases e : ms ρ g with
  | no => rw [e] at o2; exact o2
  | err c g1 => rw [e] at o2; exact fun H1 w2 le2 S2 => o2 σ H1 w2 le2 S2 (L.mono le2)
  | ok ds g1 =>
    rw [e] at o2
    intro vs H1 w2 le2 S2 r2
    by_cases hl : ds.length = 2
    · match ds, hl with
      | [d1, d2], _ =>
        simp only [RepL] at r2
        obtain ⟨v1, _, rfl, r1, v2, _, rfl, r3, rfl⟩ := r2
        exact ⟨v1, v2, rfl, o2 _ _ w2 le2 S2 (((L.mono le2).set r1).set r3)⟩
    · exfalso
      have : OutS X.K w1 (R.toS (fTup ds g1) ρ fun d g1 => match gUnp 2 (gsCons (gVar i) (gsCons (gVar j) gsNil)) d ρ g1 with
        | some (ρ2, g2) => .nx ρ2 g2
        | none => .no) Dn W := o2
      unfold fTup at this
      split at this
      · have e3 : gUnp 2 (gsCons (gVar i) (gsCons (gVar j) gsNil)) (.tup ds) ρ g1 = none := if_neg hl
        have : OutS X.K w1 (match gUnp 2 (gsCons (gVar i) (gsCons (gVar j) gsNil)) (.tup ds) ρ g1 with
          | some (ρ2, g2) => .nx ρ2 g2
          | none => .no) Dn W := this
        rw [e3] at this
        exact this
      · exact this
end
end Fw

set_option maxRecDepth 100000
set_option maxHeartbeats 4000000
namespace Fw
open PySem PySem.Spec PyProof.Rows L2
section
variable {X : Cx} {W : WX} {mt : Tg} {mc me : Exp} {vs : List Nat} {fin : List D → Gr → R}
end
section
variable {P : Program} {w : World} {K : PySem.W.Frag} {mg : Str → Option Value} {base : Heap} {N : List Str} {sc scope : Scope} {vi ow vi' ow' : List Nat} {gl gl' : List Str} {top : Bool} {k : Nat} {X : Cx} {W : WX}
variable {elt tg iter : Expr} {ifs : List Expr} {own : List (Str × Nat)} {pos : Pos} {mo : Exp} {mt : Tg} {mc me : Exp} {fin : List D → Gr → R}
end
section
variable {g g0 g1 : Gr} {l : Nat} {kvs : List (Key × D)} {mo : Exp} {ρ : En} {q : Nat} {fin : List D → Gr → R} {vs : List Nat} {t : Tg} {c e : Exp}
end
end Fw

set_option maxRecDepth 100000
set_option maxHeartbeats 4000000
namespace Fw
open PySem PySem.Spec PyProof.Rows L2
def rExtR : V → List V → Hp → VK → Prop := fun x vs H Q => ∃ l b xs zs, x = .ref l ∧ vs = [.ref b] ∧ H l = some (.lst xs) ∧ Rd H b (.lst zs) ∧ xs.length + zs.length ≤ sizeLine ∧ Q .non (upd H l (.lst (xs ++ zs)))
theorem mt_ext {X : Cx} : MtR X "list.extend" rExtR := by
  intro pins s σ H x vs v us Q I rx rv h
  obtain ⟨l, b, xs, zs, rfl, rfl, hH, hB, hz, q⟩ := h
  cases rx
  obtain ⟨u, rfl, ru⟩ := rv.one
  cases ru
  obtain ⟨z, its, n, r, hl, e⟩ := I.lstM hH
  obtain ⟨z2, its2, n2, r2, e2⟩ := hB.ok I.hok
  have hl2 := r2.length
  have hsz : its.toArray.size + its2.toArray.size ≤ sizeLine := by rw [List.size_toArray, List.size_toArray]; omega
  have hlong : ¬ (!its.toArray.isEmpty && Builtin.List.listTooLong (its.toArray.size + its2.toArray.size)) = true := by
    rw [notLongL hsz, Bool.and_false]
    exact Bool.false_ne_true
  refine call_meets F.slot_list_extend ⟨_, e, rfl⟩ F.entry_list_extend (F.args_list_extend_2 _ _)
    (PySem.AutoSeq1.list_extend_list_list_0 l its.toArray n b its2.toArray n2 hlong (by rw [List.size_toArray]; omega) (by omega)) ⟨e, e2, ?_⟩
  refine ⟨.non, _, I.lset (its' := its ++ its2) hH e (by simp) (r.append r2) ?_, rfl, q⟩
  rw [List.length_append]
  omega
def mExtend (d : D) (ds : List D) (g : Gr) : R := match ds with
  | [e] => (match viewC g d with
    | some (l, xs) => (match viewL g e with
      | some ys => if xs.length + ys.length ≤ sizeLine then .ok .non (g.set l (.lst (xs ++ ys))) else .no
      | none => .no)
    | none => .no)
  | _ => .no
theorem ms_extend {K : PySem.W.Frag} : MtS K "list" rExtR tyL mExtend := by
  refine ⟨fun w g H x d S0 r h => tyL_ok S0 r h, fun w g H x d vs ds Q E S0 rx rv o => ?_⟩
  unfold mExtend at o
  split at o
  · split at o
    · rename_i l xs h
      split at o
      · rename_i zs hz
        split at o
        · rename_i hl
          obtain ⟨v, rfl, h3⟩ := repl1 rv
          obtain ⟨_, rfl, hg, ys, h1, h2⟩ := viewC_ok S0 rx h
          obtain ⟨b, us, rfl, h4, h5⟩ := viewL_ok S0 h3 hz
          exact ⟨_, b, ys, us, rfl, rfl, h1, h4, by rw [h2.length, h5.length]; exact hl, Out.here o (S0.setL hg (RepL.app h5 h2)) rep_non'⟩
        · exact o.elim
      · exact o.elim
    · exact o.elim
  · exact o.elim
theorem ext_of {g : Gr} {l : Nat} {e : D} {ds ys : List D} (h : g[l]? = some (.lst ds)) (he : viewL g e = some ys) (hl : ds.length + ys.length ≤ 8388608) : mExtend (.obj l) [e] g = .ok .non (g.set l (.lst (ds ++ ys))) := by
  unfold mExtend
  simp only [viewC_of h, he]
  exact if_pos (Nat.le_trans hl sizeLine_big)
end Fw

set_option maxRecDepth 100000
set_option maxHeartbeats 4000000
namespace Fw
open PySem PySem.Spec PyProof.Rows L2
def rLenD : List V → Hp → VK → Prop := fun xs H Q => ∃ a kvs, xs = [V.ref a] ∧ Rd H a (.dK kvs) ∧ Q (.int kvs.length) H
theorem call_lenR {X : Cx} : CallR X (.builtin "len") rLenD := by
  intro pins s σ H xs us Q I r h
  obtain ⟨a, kvs, rfl, e, q⟩ := h
  obtain ⟨u, rfl, rx⟩ := vals1 r
  cases rx
  exact d_len I e fun t s' I' => ⟨.int kvs.length, H, I', ⟨t, rfl⟩, q⟩
def fLenD : Fn := fun ds g => match ds with
  | [d] => (match viewR g d with
    | some kvs => .ok (.int kvs.length) g
    | none => .no)
  | _ => .no
theorem c_lenD {K : PySem.W.Frag} : CaS K rLenD fLenD := by
  intro w g H vs ds Q E S0 r o
  unfold fLenD at o
  split at o
  · split at o
    · rename_i d kvs hv
      obtain ⟨x, rfl, rx⟩ := repl1 r
      obtain ⟨a, xs, rfl, h1, h2⟩ := viewR_ok S0 rx hv
      refine ⟨_, xs, rfl, h1, ?_⟩
      rw [repK_len h2]
      exact Out.here o S0 rep_int'
    · exact o.elim
  · exact o.elim
theorem lenR {g : Gr} {l : Nat} {kvs : List (Key × D)} (h : viewR g (.obj l) = some kvs) : fLenD [.obj l] g = .ok (.int (kvs.length : Int)) g := by
  unfold fLenD
  simp only [h]
theorem lenD_of {g : Gr} {l : Nat} {kvs : List (Key × D)} (h : g[l]? = some (.dic kvs)) : fLenD [.obj l] g = .ok (.int (kvs.length : Int)) g := lenR (viewR_of h)
end Fw

set_option maxRecDepth 100000
set_option maxHeartbeats 4000000
namespace Fw
open PySem PySem.Spec PyProof.Rows L2
def fAbs : Fn := fun ds g => match ds with
  | [.int i] => .ok (.int (if i < 0 then -i else i)) g
  | _ => .no
theorem v_abs {i : Int} {g : Gr} : fAbs [.int i] g = .ok (.int (if i < 0 then -i else i)) g := rfl
section
variable {P : Program} {w : World} {K : PySem.W.Frag} {mg : Str → Option Value} {base : Heap} {N : List Str} {sc scope : Scope} {vi ow vi' ow' : List Nat} {gl gl' : List Str} {top : Bool} {k : Nat} {X : Cx} {W : WX}
variable {elt e : Expr} {elts : List Expr} {kk : Nat} {ifs : List Expr} {own : List (Str × Nat)} {pos tpos apos cpos : Pos} {mo : Exp} {mt : Tg} {mc me : Exp} {fin : List D → Gr → R}
end
def lrD (c : Bool) (d : D) (g : Gr) : R := match d with
  | .int n => if 0 ≤ n ∧ n ≤ 1000000 then (if c then .ok (.obj g.length) (g ++ [.lst (rangeD 0 n.toNat)]) else .ok (.lst (rangeD 0 n.toNat)) g) else .no
  | _ => .no
def eLR (c : Bool) (m : Exp) : Exp := fun ρ g => (m ρ g).bind (lrD c)
section
variable {P : Program} {w : World} {K : PySem.W.Frag} {mg : Str → Option Value} {base : Heap} {Z : Sc} {hot : Option (Nat × Str)} {k : Nat} {X : Cx} {W : WX} {pos p p2 pos2 : Pos} {e : Expr} {m : Exp}
end
theorem v_lr {c : Bool} {m : Exp} {ρ : En} {g : Gr} : eLR c m ρ g = (m ρ g).bind (lrD c) := rfl
end Fw

set_option maxRecDepth 100000
set_option maxHeartbeats 4000000
namespace Fw
open PySem PySem.Spec PyProof.Rows L2
abbrev T3 := Int × Int × Int
def t3 (p : T3) : D := .tup [.int p.1, .int p.2.1, .int p.2.2]
def B18 : Int := 1000000000000000000
def l3 (p : T3) : List Int := [p.1, p.2.1, p.2.2]
def c3 (p : T3) : Int := TS.code B18 (l3 p)
def le3 (a b : T3) : Bool := decide (c3 a ≤ c3 b)
section
variable {K : PySem.W.Frag} {w : Wd}
end
end Fw

set_option maxRecDepth 100000
set_option maxHeartbeats 4000000
namespace Fw
open PySem PySem.Spec PyProof.Rows L2
theorem w_bindO {d : D} {g : Gr} {f : D → Gr → R} : R.bind (.ok d g) f = f d g := rfl
theorem w_bindE {c : Str} {g : Gr} {f : D → Gr → R} : R.bind (.err c g) f = .err c g := rfl
end Fw

set_option maxRecDepth 100000
set_option maxHeartbeats 4000000
namespace Fw
open PySem PySem.Spec PyProof.Rows L2
def fSumL : Fn := fun ds g => match ds with
  | [d] => (match viewL g d with
    | some es => (match asN es with
      | some ns => .ok (.int ns.sum) g
      | none => .no)
    | none => .no)
  | _ => .no
theorem v_sumL {ns : List Int} {g : Gr} : fSumL [.lst (ns.map .int)] g = .ok (.int ns.sum) g := by
  unfold fSumL
  show (match asN (ns.map .int) with | some ns => R.ok (.int ns.sum) g | none => .no) = _
  rw [asN_ints]
end Fw

set_option maxRecDepth 100000
set_option maxHeartbeats 4000000
namespace Fw
open PySem PySem.Spec PyProof.Rows L2
section
variable {prog : Program} {w : World} {A : Around} {E : Value → Shared → Prop} {s : Shared} {a kS : Addr} {vs : List Value} {kz : List Int} {keys : Array Value} {e e1 : Nat} {P : PySem.Fin → Shared → Prop}
end
end Fw

set_option maxRecDepth 100000
set_option maxHeartbeats 4000000
namespace Fw
open PySem PySem.Spec PyProof.Rows L2
section
variable {X : Cx} {pins : List (Addr × Obj)} {σ : L2.St} {H : Hp} {s : Shared} {A : Around} {E : Value → Shared → Prop} {P : PySem.Fin → Shared → Prop}
end
end Fw

set_option maxRecDepth 100000
set_option maxHeartbeats 4000000
namespace Fw
open PySem PySem.Spec PyProof.Rows L2
section
variable {P : Program} {w : World} {K : PySem.W.Frag} {mg : Str → Option Value} {base : Heap} {Z : Sc} {k : Nat} {X : Cx} {W : WX} {pos : Pos} {x y : Str} {m : Fn} {e : Expr} {ms : Exps} {p p2 kp : Pos} {j : Nat}
end
end Fw

set_option maxRecDepth 100000
set_option maxHeartbeats 4000000
namespace Fw
open PySem PySem.Spec PyProof.Rows L2
section
variable {X : Cx} {pins : List (Addr × Obj)} {σ : L2.St} {H : Hp} {s : Shared} {E : Value → Shared → Prop} {Q : Value → Shared → Prop} {w1 : Wd} {g : Gr}
end
end Fw

set_option maxRecDepth 100000
set_option maxHeartbeats 4000000
namespace Fw
open PySem PySem.Spec PyProof.Rows L2
section
variable {P : Program} {w : World} {K : PySem.W.Frag} {mg : Str → Option Value} {base : Heap} {Z : Sc} {k : Nat} {X : Cx} {W : WX} {pos : Pos} {x : Str} {e : Expr} {ms : Exps} {p lp kp : Pos} {j : Nat}
  {N : List Str} {params : Arguments} {body : Expr} {scope : Scope} {me : Exp} {vi ow : List Nat} {gl : List Str}
end
end Fw

set_option maxRecDepth 100000
set_option maxHeartbeats 4000000
namespace Fw
open PySem PySem.Spec PyProof.Rows L2
end Fw

set_option maxRecDepth 100000
set_option maxHeartbeats 4000000
namespace Fw
open PySem PySem.Spec PyProof.Rows L2
section
variable {P : Program} {w : World} {K : PySem.W.Frag} {mg : Str → Option Value} {base : Heap} {Z : Sc} {hot : Option (Nat × Str)} {k : Nat} {X : Cx} {W : WX} {L Cs Is : List Str}
end
end Fw

set_option maxRecDepth 100000
set_option maxHeartbeats 4000000
namespace Fw
open PySem PySem.Spec PyProof.Rows L2
def whG (k : Stm) : S → S
  | .nx ρ g => k ρ g
  | .ct ρ g => k ρ g
  | .bk ρ g => .nx ρ g
  | .ret d g => .ret d g
  | .err c ρ g => .err c ρ g
  | .no => .no
def whN (c : Exp) (b : Stm) : Nat → Stm
  | 0 => fun _ _ => .no
  | n + 1 => sIf c (fun ρ1 g1 => whG (whN c b n) (b ρ1 g1)) sNil
def sWhile (c : Exp) (b : Stm) : Stm := whN c b 4096
section
variable {P : Program} {w : World} {K : PySem.W.Frag} {mg : Str → Option Value} {base : Heap} {Z : Sc} {k : Nat} {X : Cx} {W : WX} {pos : Pos} {c : Expr} {body : List Stmt} {mc : Exp} {mb : Stm}
theorem xWhile (C : Cc P w K mg base Z none k X W) (hc : RT X W c mc) (hb : RB X W body mb) : RS X W (.While c body [] pos) (sWhile mc mb) := by
  refine ps_weak (ps_while C.pass hc hb) ?_
  rintro Dn σ H ⟨w, ρ, g, S0, L, o⟩
  refine ⟨fun m σ' H' => ∃ w' ρ' g', SG X.K w' g' H' ∧ SL X.K w' ρ' σ' ∧ OutS X.K w' (whN mc mb m ρ' g') Dn W, ⟨_, w, ρ, g, S0, L, o⟩, ?_⟩
  rintro m σ' H' ⟨w', ρ', g', S', L', o'⟩
  cases m with
  | zero => exact o'.elim
  | succ m =>
    refine bindST S' L' o' (fun d g' h => ?_) fun b g2 H2 w2 le S2 L2 o2 => ?_
    · cases d with
      | bl k => exact absurd rfl (h k)
      | _ => rfl
    · cases b with
      | false =>
        rw [if_neg Bool.false_ne_true]
        exact o2 σ' H2 w2 (.refl _) S2 L2
      | true =>
        rw [if_pos rfl]
        refine ⟨fun σ3 H3 => ∃ w3 ρ3 g3, SG X.K w3 g3 H3 ∧ SL X.K w3 ρ3 σ3 ∧ OutS X.K w3 (whN mc mb m ρ3 g3) Dn W, fun σ3 H3 h => ⟨m, by omega, h⟩, w2, ρ', g2, S2, L2, ?_⟩
        have o3 : OutS X.K w2 (whG (whN mc mb m) (mb ρ' g2)) Dn W := o2
        cases e : mb ρ' g2 with
        | nx ρ3 g3 =>
          rw [e] at o3
          exact fun σ3 H3 w3 le3 S3 L3 => ⟨w3, ρ3, g3, S3, L3, OutS.weak o3 le3⟩
        | ct ρ3 g3 =>
          rw [e] at o3
          exact fun σ3 H3 w3 le3 S3 L3 => ⟨w3, ρ3, g3, S3, L3, OutS.weak o3 le3⟩
        | bk ρ3 g3 => rw [e] at o3; exact o3
        | ret d g3 => rw [e] at o3; exact o3
        | err x ρ3 g3 => rw [e] at o3; exact o3
        | no => rw [e] at o3; exact o3
end
end Fw

set_option maxRecDepth 100000
set_option maxHeartbeats 4000000
namespace Fw
open PySem PySem.Spec PyProof.Rows L2
section
variable {P : Program} {w : World} {K : PySem.W.Frag} {mg : Str → Option Value} {base : Heap} {Z : Sc} {hot : Option (Nat × Str)} {k : Nat} {X : Cx} {W : WX} {pos pos' : Pos} {x : Str} {value : Expr} {mv : Exp} {op : Operator}
end
end Fw

set_option maxRecDepth 100000
set_option maxHeartbeats 4000000
namespace Fw
open PySem PySem.Spec PyProof.Rows L2
section
variable {P : Program} {w : World} {K : PySem.W.Frag} {mg : Str → Option Value} {base : Heap} {Z : Sc} {k : Nat} {X : Cx} {W : WX} {pos : Pos} {e : Expr} {ms : Exps} {p kp : Pos} {kd : Nat} {np : Pos}
end
end Fw

set_option maxRecDepth 100000
set_option maxHeartbeats 4000000
namespace Fw
open PySem PySem.Spec PyProof.Rows L2
abbrev T2 := Int × Int
def t2 (p : T2) : D := .tup [.int p.1, .int p.2]
def l2 (p : T2) : List Int := [p.1, p.2]
def c2 (p : T2) : Int := TS.code B18 (l2 p)
def le2 (a b : T2) : Bool := decide (c2 a ≤ c2 b)
section
variable {K : PySem.W.Frag} {w : Wd}
end
end Fw

set_option maxRecDepth 100000
set_option maxHeartbeats 4000000
namespace Fw
open PySem PySem.Spec PyProof.Rows L2
section
variable {P : Program} {w : World} {K : PySem.W.Frag} {mg : Str → Option Value} {base : Heap} {N : List Str} {sc scope : Scope} {vi ow vi' ow' : List Nat} {gl gl' : List Str} {top : Bool} {k : Nat} {X : Cx} {W : WX}
variable {elt tg iter : Expr} {ifs : List Expr} {own : List (Str × Nat)} {pos : Pos} {mo : Exp} {mt : Tg} {mc me : Exp} {fin : List D → Gr → R}
end
end Fw

set_option maxRecDepth 100000
set_option maxHeartbeats 4000000
namespace Fw
open PySem PySem.Spec PyProof.Rows L2
end Fw

set_option maxRecDepth 100000
set_option maxHeartbeats 4000000
namespace Fw
open PySem PySem.Spec PyProof.Rows L2
section
variable {X : Cx} {pins : List (Addr × Obj)} {σ : L2.St} {H : Hp} {s : Shared} {E : Value → Shared → Prop} {Q : Value → Shared → Prop} {w1 : Wd} {g : Gr}
end
end Fw

set_option maxRecDepth 100000
set_option maxHeartbeats 4000000
namespace Fw
open PySem PySem.Spec PyProof.Rows L2
section
variable {X : Cx} {pins : List (Addr × Obj)} {σ : L2.St} {A : Around} {m : Fn} {w2 : Wd} {l f SS II : Addr} {d fin : D} {all : List D} {gF : Gr} {H0 : Hp}
end
end Fw

set_option maxRecDepth 100000
set_option maxHeartbeats 4000000
namespace Fw
open PySem PySem.Spec PyProof.Rows L2
section
variable {P : Program} {w : World} {K : PySem.W.Frag} {mg : Str → Option Value} {base : Heap} {Z : Sc} {k : Nat} {X : Cx} {W : WX} {pos : Pos} {x y : Str} {e : Expr} {ms : Exps} {p lp kp : Pos} {j : Nat}
  {N : List Str} {params : Arguments} {body : Expr} {scope : Scope} {me : Exp} {vi : List Nat} {gl : List Str}
end
end Fw

set_option maxRecDepth 100000
set_option maxHeartbeats 4000000
namespace Fw
open PySem PySem.Spec PyProof.Rows L2
def p2 (p : T2) : PyData := .tuple [.int p.1, .int p.2]
def lt2 (p q : T2) : Bool := decide (p.1 < q.1) || (!decide (q.1 < p.1) && decide (p.2 < q.2))
end Fw

set_option maxRecDepth 100000
set_option maxHeartbeats 4000000
namespace Fw
open PySem PySem.Spec PyProof.Rows L2
end Fw

set_option maxRecDepth 100000
set_option maxHeartbeats 4000000
namespace Fw
open PySem PySem.Spec PyProof.Rows L2
def IsT3 (h : Heap) (v : Value) (p : T3) : Prop := ∃ a o t u r n, v = .ref a ∧ h.get? a = some o ∧ o.cls = .type "tuple" ∧ o.data = .seq #[.int p.1 t, .int p.2.1 u, .int p.2.2 r] n
theorem IsT3.keeps {h h' : Heap} {v : Value} {x : T3} (p : IsT3 h v x) (k : ∀ b o, h.get? b = some o → o.cls = .type "tuple" → h'.get? b = some o) : IsT3 h' v x := by
  obtain ⟨a, o, t, u, r, n, e, ho, hc, hd⟩ := p
  exact ⟨a, o, t, u, r, n, e, k _ _ ho hc, hc, hd⟩
section
variable {prog : Program} {w : World} {A : Around} {E : Value → Shared → Prop} {s : Shared}
end
end Fw

set_option maxRecDepth 100000
set_option maxHeartbeats 4000000
namespace Fw
open PySem PySem.Spec PyProof.Rows L2
section
variable {prog : Program} {w : World} {A : Around} {E : Value → Shared → Prop} {s : Shared} {y1 : Addr}
end
section
variable {X : Cx} {tg : Expr}
end
section
variable {P : Program} {w : World} {K : PySem.W.Frag} {mg : Str → Option Value} {base : Heap} {Z : Sc} {hot : Option (Nat × Str)} {k : Nat} {X : Cx} {W : WX} {tg e : Expr} {m : Exp} {ms : Exps} {p pos : Pos}
end
end Fw

set_option maxRecDepth 100000
set_option maxHeartbeats 4000000
namespace Fw
open PySem PySem.Spec PyProof.Rows
end Fw

set_option maxRecDepth 100000
set_option maxHeartbeats 4000000
namespace Fw
open PySem PySem.Spec PyProof.Rows L2
def cutC (lo hi : Option Int) (d : D) (g : Gr) : R := match viewL g d with
  | some ds => .ok (.obj g.length) (g ++ [.lst (cutD ds lo hi)])
  | none => .no
def eSlUC (mo mh : Exp) : Exp := fun ρ g => (mo ρ g).bind fun d g1 => (mh ρ g1).bind fun h g2 => asI h fun j => cutC none (some j) d g2
section
variable {K : PySem.W.Frag}
end
section
variable {X : Cx} {W : WX} {e a b : Expr} {mo ml mh : Exp} {p2 pos : Pos}
end
def fSlUC2 (d : D) : R → R
  | .ok (.int i) g => cutC none (some i) d g
  | .ok _ _ => .no
  | .err c g => .err c g
  | .no => .no
def fSlUC1 (mh : Exp) (ρ : En) : R → R
  | .ok d g => fSlUC2 d (mh ρ g)
  | .err c g => .err c g
  | .no => .no
section
variable {a b : Exp} {ρ : En} {g : Gr} {d : D} {i : Int} {l : Nat} {ds : List D}
theorem v_slUC : eSlUC a b ρ g = fSlUC1 b ρ (a ρ g) := by
  show R.bind (a ρ g) _ = _
  cases a ρ g with
  | ok x g =>
    show R.bind (b ρ g) _ = fSlUC2 x (b ρ g)
    cases b ρ g with
    | ok y g => cases y <;> rfl
    | _ => rfl
  | _ => rfl
theorem w_slUC1 : fSlUC1 b ρ (.ok d g) = fSlUC2 d (b ρ g) := rfl
theorem w_slUC2 : fSlUC2 d (.ok (.int i) g) = cutC none (some i) d g := rfl
end
end Fw

set_option maxRecDepth 100000
set_option maxHeartbeats 4000000
namespace Fw
open PySem PySem.Spec PyProof.Rows
theorem loop_all {K : S → Prop} {kp : Gr → Prop} {t : Tg} {b : Stm} {ds : List D} {ρ : En} {g : Gr} (I : Nat → En → Gr → Prop) (h0 : I 0 ρ g) (hk : ∀ n ρ g, I n ρ g → kp g)
    (step : ∀ n ρ g d, ds[n]? = some d → I n ρ g → S.go (I (n + 1)) (fTurn b (t d ρ g)) ∨ (∃ d' g', fTurn b (t d ρ g) = .ret d' g' ∧ K (.ret d' g')) ∨ (∃ ρ' g', fTurn b (t d ρ g) = .bk ρ' g' ∧ K (.nx ρ' g')) ∨ ∃ c ρ' g', fTurn b (t d ρ g) = .err c ρ' g' ∧ K (.err c ρ' g')) (fin : ∀ ρ' g', I ds.length ρ' g' → K (.nx ρ' g')) : K (sLoop kp t b ds ρ g) := by
  have key : ∀ (es : List D) (j : Nat) (ρ : En) (g : Gr), ds.drop j = es → j + es.length = ds.length → I j ρ g → K (sLoop kp t b es ρ g) := by
    intro es
    induction es with
    | nil =>
      intro j ρ g hj hl hI
      unfold sLoop
      rw [if_pos (hk _ _ _ hI)]
      have e : j = ds.length := by simpa using hl
      rw [e] at hI
      exact fin ρ g hI
    | cons d es ih =>
      intro j ρ g hj hl hI
      have hjl : j < ds.length := by simp only [List.length_cons] at hl; omega
      have hd : ds[j]? = some d := by
        have e1 : (ds.drop j)[0]? = ds[j]? := by rw [List.getElem?_drop]; rfl
        rw [← e1, hj]; rfl
      have hj' : ds.drop (j + 1) = es := by rw [← List.drop_drop, hj]; rfl
      have hl' : (j + 1) + es.length = ds.length := by simp only [List.length_cons] at hl; omega
      unfold sLoop
      rw [if_pos (hk _ _ _ hI)]
      have st := step j ρ g d hd hI
      cases et : t d ρ g with
      | none =>
        rw [et] at st
        rcases st with z | ⟨d, g', z, _⟩ | ⟨ρ', g', z, _⟩ | ⟨c, ρ', g', z, _⟩
        · exact z.elim
        · cases z
        · cases z
        · cases z
      | some p =>
        obtain ⟨ρ1, g1⟩ := p
        rw [et, w_turn] at st
        dsimp only
        cases eb : b ρ1 g1 with
        | nx ρ2 g2 =>
          rw [eb] at st
          rcases st with z | ⟨d, g', z, _⟩ | ⟨ρ', g', z, _⟩ | ⟨c, ρ', g', z, _⟩
          · exact ih (j + 1) ρ2 g2 hj' hl' z
          · cases z
          · cases z
          · cases z
        | ct ρ2 g2 =>
          rw [eb] at st
          rcases st with z | ⟨d, g', z, _⟩ | ⟨ρ', g', z, _⟩ | ⟨c, ρ', g', z, _⟩
          · exact ih (j + 1) ρ2 g2 hj' hl' z
          · cases z
          · cases z
          · cases z
        | ret d g2 =>
          rw [eb] at st
          rcases st with z | ⟨d', g', z, k⟩ | ⟨ρ', g', z, _⟩ | ⟨c, ρ', g', z, _⟩
          · exact z.elim
          · cases z; exact k
          · cases z
          · cases z
        | bk ρ2 g2 =>
          rw [eb] at st
          rcases st with z | ⟨d', g', z, _⟩ | ⟨ρ', g', z, k⟩ | ⟨c, ρ', g', z, _⟩
          · exact z.elim
          · cases z
          · cases z; exact k
          · cases z
        | err c2 ρ2 g2 =>
          rw [eb] at st
          rcases st with z | ⟨d', g', z, _⟩ | ⟨ρ', g', z, _⟩ | ⟨c, ρ', g', z, k⟩
          · exact z.elim
          · cases z
          · cases z
          · cases z; exact k
        | _ =>
          rw [eb] at st
          rcases st with z | ⟨d, g', z, _⟩ | ⟨ρ', g', z, _⟩ | ⟨c, ρ', g', z, _⟩
          · exact z.elim
          · cases z
          · cases z
          · cases z
  exact key ds 0 ρ g rfl (Nat.zero_add _) h0
end Fw

set_option maxRecDepth 100000
set_option maxHeartbeats 4000000
namespace PySem.W
open Lean Elab Tactic Meta PySem PySem.Calls PyProof.Rows PyProof.V PySem.Spec
section
variable {prog : Program} {w : World} {K : Type} [DecidableEq K] {knd : KeyKind prog w K} {A : Around} {E : Value → Shared → Prop} {s : Shared}
end
end PySem.W
namespace Fw
open PySem PySem.Spec PyProof.Rows L2
def flD : D → Bool
  | .non => true
  | .bl _ => true
  | .int _ => true
  | .str _ => true
  | _ => false
inductive EqL (R : D → D → Prop) : List D → List D → Prop
  | nil : EqL R [] []
  | cons {a b : D} {as bs : List D} : R a b → EqL R as bs → EqL R (a :: as) (b :: bs)
theorem flD_ok {K : PySem.W.Frag} {w : Wd} {v u : V} {d : D} (h : flD d = true) (r : Rep K w v d) (r' : Rep K w u d) : v = u ∧ flatB v = true := by
  cases d <;> first | (simp only [Rep] at r r'; subst r; subst r'; exact ⟨rfl, rfl⟩) | cases h
theorem eqL_paired {K : PySem.W.Frag} {w : Wd} {R : D → D → Prop} {F : V → V → Prop} (ih : ∀ v u d e, Rep K w v d → Rep K w u e → R d e → F v u) : ∀ {xs ys : List D}, EqL R xs ys → ∀ {vs us : List V}, RepL K w vs xs → RepL K w us ys → Paired F vs us := by
  intro xs ys h
  induction h with
  | nil =>
    intro vs us h1 h2
    simp only [RepL] at h1 h2
    subst h1; subst h2
    exact .nil
  | cons h _ k =>
    intro vs us h1 h2
    simp only [RepL] at h1 h2
    obtain ⟨x, r, rfl, a1, b1⟩ := h1
    obtain ⟨y, t, rfl, a2, b2⟩ := h2
    exact .cons (ih _ _ _ _ a1 a2 h) (k b1 b2)
theorem repK_mem {K : PySem.W.Frag} {w : Wd} : ∀ {ds : List (Key × D)} {xs : List (Key × V)}, RepK K w xs ds → ∀ p ∈ xs, ∃ q ∈ ds, q.1 = p.1 ∧ Rep K w p.2 q.2
  | [], xs, h, p, hp => by rw [repK_nil h] at hp; cases hp
  | (k0, d0) :: ds, xs, h, p, hp => by
    obtain ⟨v, r, rfl, h1, h2⟩ := repK_cons h
    rcases List.mem_cons.mp hp with rfl | hp
    · exact ⟨(k0, d0), List.mem_cons_self, rfl, h1⟩
    · obtain ⟨q, q1, q2⟩ := repK_mem h2 p hp
      exact ⟨q, List.mem_cons_of_mem _ q1, q2⟩
noncomputable def dic1D (l : Nat) (k v : D) (g : Gr) : R := match toK k, g[l]? with
  | some k, some (.dic []) => .ok (.obj l) (g.set l (.dic [(k, v)]))
  | _, _ => .no
noncomputable def eDic1 (mk mv : Exp) : Exp := fun ρ g => (mk ρ (g ++ [.dic []])).bind fun k g1 => (mv ρ g1).bind fun v g2 => dic1D g.length k v g2
noncomputable def fDc2 (l : Nat) (k : D) : R → R
  | .ok v g => dic1D l k v g
  | .err c g => .err c g
  | .no => .no
noncomputable def fDc1 (l : Nat) (mv : Exp) (ρ : En) : R → R
  | .ok k g => fDc2 l k (mv ρ g)
  | .err c g => .err c g
  | .no => .no
section
variable {mk mv : Exp} {ρ : En} {g : Gr} {k v : D} {l : Nat}
theorem v_dic1 : eDic1 mk mv ρ g = fDc1 g.length mv ρ (mk ρ (g ++ [.dic []])) := by
  show R.bind (mk ρ (g ++ [.dic []])) _ = _
  cases mk ρ (g ++ [.dic []]) with
  | ok x g1 =>
    show R.bind (mv ρ g1) _ = fDc2 g.length x (mv ρ g1)
    cases mv ρ g1 <;> rfl
  | _ => rfl
theorem w_dc1 : fDc1 l mv ρ (.ok k g) = fDc2 l k (mv ρ g) := rfl
theorem w_dc2 : fDc2 l k (.ok v g) = dic1D l k v g := rfl
end
end Fw

set_option maxRecDepth 100000
set_option maxHeartbeats 4000000
namespace Fw
open PySem PySem.Spec PyProof.Rows L2
end Fw

set_option maxRecDepth 100000
set_option maxHeartbeats 4000000
namespace Fw
open PySem PySem.Spec PyProof.Rows L2
def prD : D → Option (Key × D)
  | .tup [k, v] => (toK k).map fun kk => (kk, v)
  | _ => none
def prsD : List D → Option (List (Key × D))
  | [] => some []
  | d :: ds => match prD d, prsD ds with
    | some p, some ps => some (p :: ps)
    | _, _ => none
def mrgD (kvs : List (Key × D)) (ps : List (Key × D)) : List (Key × D) := ps.foldl (fun m p => dPut m p.1 p.2) kvs
def fDicP : Fn := fun ds g => match ds with
  | [d] => (match viewL g d with
    | some es => (match prsD es with
      | some ks => .ok (.obj g.length) (g ++ [.dic (mrgD [] ks)])
      | none => .no)
    | none => .no)
  | _ => .no
def rDicP (K : PySem.W.Frag) : List V → Hp → VK → Prop := fun xs H Q => ∃ (a : Addr) (ps : List Addr) (kvs : List (Key × V)), xs = [.ref a] ∧ SqL K H a (ps.map V.ref) ∧ Paired (fun p kv => SqT K H p [kV kv.1, kv.2]) ps kvs ∧
    ∀ p, H p = none → Q (.ref p) (upd H p (.dK (mergeK [] kvs)))
theorem call_dicP {X : Cx} (hc : X.calm = true) : CallR X (.type "dict") (rDicP X.K) := call_dictP hc
theorem prs_ok {K : PySem.W.Frag} {w : Wd} {g : Gr} {H : Hp} (S0 : SG K w g H) : ∀ {es : List D} {ks : List (Key × D)} {xs : List V}, prsD es = some ks → RepL K w xs es → ∃ (ps : List Addr) (kvs : List (Key × V)), xs = ps.map V.ref ∧ Paired (fun p kv => SqT K H p [kV kv.1, kv.2]) ps kvs ∧ RepK K w kvs ks
  | [], ks, xs, h, r => by
    cases h
    simp only [RepL] at r
    subst r
    exact ⟨[], [], rfl, .nil, repK_nil'⟩
  | d :: es, ks, xs, h, r => by
    unfold prsD at h
    split at h
    · rename_i p ps h1 h2
      cases h
      simp only [RepL] at r
      obtain ⟨x, xs', rfl, rx, rr⟩ := r
      obtain ⟨as, kvs, rfl, q1, q2⟩ := prs_ok S0 h2 rr
      unfold prD at h1
      split at h1
      · rename_i k v
        obtain ⟨kk, hk, rfl⟩ := Option.map_eq_some_iff.mp h1
        obtain ⟨a, ys, rfl, t1, t2⟩ := viewT_ok S0 rx (show viewT (.tup [k, v]) = some [k, v] from rfl)
        simp only [RepL] at t2
        obtain ⟨y1, ys1, rfl, r1, y2, ys2, rfl, r2, rfl⟩ := t2
        have e1 := toK_ok r1 hk
        subst e1
        exact ⟨a :: as, (kk, y2) :: kvs, rfl, .cons t1 q1, repK_mk r2 q2⟩
      · cases h1
    · cases h
theorem merge_ok {K : PySem.W.Frag} {w : Wd} : ∀ {ks : List (Key × D)} {kvs : List (Key × V)}, RepK K w kvs ks → ∀ {m : List (Key × D)} {n : List (Key × V)}, RepK K w n m → RepK K w (mergeK n kvs) (mrgD m ks)
  | [], kvs, h, m, n, r => by rw [repK_nil h]; exact r
  | (k, d) :: ks, kvs, h, m, n, r => by
    obtain ⟨v, rr, rfl, h1, h2⟩ := repK_cons h
    exact merge_ok h2 (repK_put k h1 r)
theorem c_dicP {K : PySem.W.Frag} : CaS K (rDicP K) fDicP := by
  intro w g H vs ds Q E S0 r o
  unfold fDicP at o
  split at o
  · rename_i d
    split at o
    · rename_i es hv
      split at o
      · rename_i ks hb
        obtain ⟨x, rfl, rx⟩ := repl1 r
        obtain ⟨a, xs, rfl, h1, h2⟩ := viewL_ok S0 rx hv
        obtain ⟨ps, kvs, rfl, q1, q2⟩ := prs_ok S0 hb h2
        refine ⟨a, ps, kvs, rfl, .inl h1, q1, fun p hp => ?_⟩
        have m := merge_ok q2 (repK_nil' (K := K) (w := w))
        have hc : CellAt K (w.more p) (upd H p (.dK (mergeK [] kvs))) p (.dic (mrgD [] ks)) := ⟨S0.ex.free hp, _, upd_same, m.1, RepL.mono (w.le_more p) _ _ m.2⟩
        refine o _ _ _ (w.le_more p) (S0.allocC hp hc) ?_
        simp only [Rep]
        rw [← S0.n]
        exact ⟨Nat.lt_succ_self _, by rw [Wd.more_at]⟩
      · exact o.elim
    · exact o.elim
  · exact o.elim
theorem dicP_of {g : Gr} {es : List D} {ks : List (Key × D)} (h : prsD es = some ks) : fDicP [.lst es] g = .ok (.obj g.length) (g ++ [Fw.Cl.dic (mrgD [] ks)]) := by
  show (match prsD es with | some ks => R.ok (.obj g.length) (g ++ [Fw.Cl.dic (mrgD [] ks)]) | none => .no) = _
  rw [h]
end Fw

set_option maxRecDepth 100000
set_option maxHeartbeats 4000000
namespace Fw
open PySem PySem.Spec PyProof.Rows L2
def IsTM (h : Heap) (v : Value) (x : Int) : Prop := ∃ a o t y n, v = .ref a ∧ h.get? a = some o ∧ o.cls = .type "tuple" ∧ o.data = .seq #[.int x t, y] n
theorem IsTM.keeps {h h' : Heap} {v : Value} {x : Int} (p : IsTM h v x) (k : ∀ b o, h.get? b = some o → o.cls = .type "tuple" → h'.get? b = some o) : IsTM h' v x := by
  obtain ⟨a, o, t, y, n, e, ho, hc, hd⟩ := p
  exact ⟨a, o, t, y, n, e, k _ _ ho hc, hc, hd⟩
section
variable {prog : Program} {w : World} {A : Around} {E : Value → Shared → Prop} {s : Shared}
end
def tm (p : Int × D) : D := .tup [.int p.1, p.2]
def srtM : List (Int × D) → Option (List (Int × D))
  | [] => some []
  | [p] => some [p]
  | [p, q] => if p.1 < q.1 then some [p, q] else if q.1 < p.1 then some [q, p] else none
  | _ => none
end Fw

set_option maxRecDepth 100000
set_option maxHeartbeats 4000000
namespace PySem.SeqAt
open AutoSeq1 (wpAny_loadPart')
open MeetsSeq MeetsSeq2 MeetsSeq3 SeqRoads2
section
variable {prog : Program} {w : World}
theorem tup_eqIn (l b : Addr) (items items2 : Array Value) (n n2 : Nat) (dd dd2 : Option Addr) (sl sl2 : Array (Option Value)) (e : Nat → Bool) :
    MeetsIn prog w (Builtin.«tuple.__eq__» ⟨[.ref l, .ref b], []⟩)
      (fun A R s => s.heap.get? l = some { cls := .type "tuple", dict := dd, data := .seq items n, slots := sl } ∧ s.heap.get? b = some { cls := .type "tuple", dict := dd2, data := .seq items2 n2, slots := sl2 } ∧
        (∀ j (h1 : j < items.size) (h2 : j < items2.size), EqP prog w A.in1 s items[j] items2[j] (e j)) ∧
        R (.ok (.ret (.bool ((List.range (min items.size items2.size)).all e && items.size == items2.size)))) s) := by
    intro A R s h
    obtain ⟨hp, g, d, tk, os⟩ := s; obtain ⟨hl, hb, he, h⟩ := h
    have f2 := AutoSeq1.sub_tuple_tuple
    have hZ : (items.toList.zip items2.toList).length = min items.size items2.size := by simp
    wp_walk using wpAny_loadPart' hl, wpAny_loadPart' hb, wpAny_forIn_list _ (fun rest b s' => b.1 = none ∧ s' = ⟨hp, g, d, tk, os⟩ ∧ ∃ i, rest = (items.toList.zip items2.toList).drop i ∧
      R (.ok (.ret (.bool (((List.range (min items.size items2.size)).drop i).all e && items.size == items2.size)))) ⟨hp, g, d, tk, os⟩) _
    case turn =>
      rintro ⟨y, x⟩ rest b s' ⟨hb', rfl, i, hz, hR⟩
      have hlt : i < (items.toList.zip items2.toList).length := by
        rcases Nat.lt_or_ge i (items.toList.zip items2.toList).length with h' | h'
        · exact h'
        · rw [List.drop_of_length_le h'] at hz; cases hz
      have hm : i < min items.size items2.size := hZ ▸ hlt
      have h1 : i < items.size := Nat.lt_of_lt_of_le hm (Nat.min_le_left _ _)
      have h2 : i < items2.size := Nat.lt_of_lt_of_le hm (Nat.min_le_right _ _)
      rw [List.drop_eq_getElem_cons hlt] at hz
      injection hz with hyx hrest
      have hy : y = items[i] := by have := congrArg Prod.fst hyx; simpa using this
      have hx : x = items2[i] := by have := congrArg Prod.snd hyx; simpa using this
      subst hy hx
      have hd : (List.range (min items.size items2.size)).drop i = i :: (List.range (min items.size items2.size)).drop (i + 1) := by simp [List.drop_eq_getElem_cons, hm]
      rw [hd, List.all_cons] at hR
      refine wpAny_bind (he i h1 h2 _ _ ?_)
      cases hy : e i with
      | true =>
        rw [hy] at hR
        wp_walk
        exact ⟨rfl, rfl, i + 1, hrest, by simpa using hR⟩
      | false =>
        rw [hy] at hR
        wp_walk
        simpa using hR
    case fin =>
      rintro ⟨b1, b2⟩ s' ⟨hb', rfl, i, hz, hR⟩
      simp only at hb'
      subst hb'
      have hge : min items.size items2.size ≤ i := by
        rcases Nat.lt_or_ge i (items.toList.zip items2.toList).length with h' | h'
        · rw [List.drop_eq_getElem_cons h'] at hz; cases hz
        · exact hZ ▸ h'
      rw [List.drop_of_length_le (by simpa using hge)] at hR
      wp_walk
      simpa [Builtin.Tuple.tupleCompareSizes] using hR
    case h =>
      exact ⟨rfl, rfl, 0, rfl, by simpa using h⟩
theorem tup_neIn (l b : Addr) (items items2 : Array Value) (n n2 : Nat) (dd dd2 : Option Addr) (sl sl2 : Array (Option Value)) (e : Nat → Bool) :
    MeetsIn prog w (Builtin.«tuple.__ne__» ⟨[.ref l, .ref b], []⟩)
      (fun A R s => s.heap.get? l = some { cls := .type "tuple", dict := dd, data := .seq items n, slots := sl } ∧ s.heap.get? b = some { cls := .type "tuple", dict := dd2, data := .seq items2 n2, slots := sl2 } ∧
        (∀ j (h1 : j < items.size) (h2 : j < items2.size), EqP prog w A.in1 s items[j] items2[j] (e j)) ∧
        R (.ok (.ret (.bool (!((List.range (min items.size items2.size)).all e && items.size == items2.size))))) s) := by
    intro A R s h
    obtain ⟨hp, g, d, tk, os⟩ := s; obtain ⟨hl, hb, he, h⟩ := h
    have f2 := AutoSeq1.sub_tuple_tuple
    have hZ : (items.toList.zip items2.toList).length = min items.size items2.size := by simp
    wp_walk using wpAny_loadPart' hl, wpAny_loadPart' hb, wpAny_forIn_list _ (fun rest b s' => b.1 = none ∧ s' = ⟨hp, g, d, tk, os⟩ ∧ ∃ i, rest = (items.toList.zip items2.toList).drop i ∧
      R (.ok (.ret (.bool (!(((List.range (min items.size items2.size)).drop i).all e && items.size == items2.size))))) ⟨hp, g, d, tk, os⟩) _
    case turn =>
      rintro ⟨y, x⟩ rest b s' ⟨hb', rfl, i, hz, hR⟩
      have hlt : i < (items.toList.zip items2.toList).length := by
        rcases Nat.lt_or_ge i (items.toList.zip items2.toList).length with h' | h'
        · exact h'
        · rw [List.drop_of_length_le h'] at hz; cases hz
      have hm : i < min items.size items2.size := hZ ▸ hlt
      have h1 : i < items.size := Nat.lt_of_lt_of_le hm (Nat.min_le_left _ _)
      have h2 : i < items2.size := Nat.lt_of_lt_of_le hm (Nat.min_le_right _ _)
      rw [List.drop_eq_getElem_cons hlt] at hz
      injection hz with hyx hrest
      have hy : y = items[i] := by have := congrArg Prod.fst hyx; simpa using this
      have hx : x = items2[i] := by have := congrArg Prod.snd hyx; simpa using this
      subst hy hx
      have hd : (List.range (min items.size items2.size)).drop i = i :: (List.range (min items.size items2.size)).drop (i + 1) := by simp [List.drop_eq_getElem_cons, hm]
      rw [hd, List.all_cons] at hR
      refine wpAny_bind (he i h1 h2 _ _ ?_)
      cases hy : e i with
      | true =>
        rw [hy] at hR
        wp_walk
        exact ⟨rfl, rfl, i + 1, hrest, by simpa using hR⟩
      | false =>
        rw [hy] at hR
        wp_walk
        simpa using hR
    case fin =>
      rintro ⟨b1, b2⟩ s' ⟨hb', rfl, i, hz, hR⟩
      simp only at hb'
      subst hb'
      have hge : min items.size items2.size ≤ i := by
        rcases Nat.lt_or_ge i (items.toList.zip items2.toList).length with h' | h'
        · rw [List.drop_eq_getElem_cons h'] at hz; cases hz
        · exact hZ ▸ h'
      rw [List.drop_of_length_le (by simpa using hge)] at hR
      wp_walk
      simpa [Builtin.Tuple.tupleCompareSizes, bne] using hR
    case h =>
      exact ⟨rfl, rfl, 0, rfl, by simpa using h⟩
theorem rcP_tups {A : Around} {s : Shared} {l b : Addr} {items items2 : Array Value} (hl : s.heap.IsTuple l items) (hb : s.heap.IsTuple b items2) (hsz : items.size = items2.size) (hu : A.units < cLine)
    (he : ∀ j (h1 : j < items.size) (h2 : j < items2.size), EqP prog w A.in1 s items[j] items2[j] true) (E Q : Value → Shared → Prop) (h : Q (.bool true) s) : wpAny (model prog w) A (richCompare .Eq (.ref l) (.ref b)) Q E s := by
  obtain ⟨⟨cls, dd, data, sl⟩, ho, hc, n, hd⟩ := id hl
  obtain ⟨⟨cls2, dd2, data2, sl2⟩, ho2, hc2, n2, hd2⟩ := id hb
  simp only at hc hd hc2 hd2
  subst hc hd hc2 hd2
  have ta : s.TypeIs (.ref l) "tuple" := ⟨_, ho, rfl⟩
  have tb : s.TypeIs (.ref b) "tuple" := ⟨_, ho2, rfl⟩
  have hr : ((List.range (min items.size items2.size)).all (fun _ => true) && items.size == items2.size) = true := by
    rw [hsz]; simp
  exact wpAny_richCompare_same_room (op := .Eq) ta tb F.slot_tuple_eq (call_meetsIn F.slot_tuple_eq ta F.entry_tuple_eq (F.args_tuple_eq_2 _ _) (tup_eqIn l b items items2 n n2 dd dd2 sl sl2 fun _ => true)
    ⟨ho, ho2, he, show Value.bool ((List.range (min items.size items2.size)).all (fun _ => true) && items.size == items2.size) ≠ Value.notImplemented ∧ Q (.bool ((List.range (min items.size items2.size)).all (fun _ => true) && items.size == items2.size)) s from ⟨(fun x => nomatch x), by rw [hr]; exact h⟩⟩) hu
theorem neP_tups {A : Around} {s : Shared} {l b : Addr} {items items2 : Array Value} (hl : s.heap.IsTuple l items) (hb : s.heap.IsTuple b items2) (hsz : items.size = items2.size) (hu : A.units < cLine)
    (he : ∀ j (h1 : j < items.size) (h2 : j < items2.size), EqP prog w A.in1 s items[j] items2[j] true) (E Q : Value → Shared → Prop) (h : Q (.bool false) s) : wpAny (model prog w) A (richCompare .NotEq (.ref l) (.ref b)) Q E s := by
  obtain ⟨⟨cls, dd, data, sl⟩, ho, hc, n, hd⟩ := id hl
  obtain ⟨⟨cls2, dd2, data2, sl2⟩, ho2, hc2, n2, hd2⟩ := id hb
  simp only at hc hd hc2 hd2
  subst hc hd hc2 hd2
  have ta : s.TypeIs (.ref l) "tuple" := ⟨_, ho, rfl⟩
  have tb : s.TypeIs (.ref b) "tuple" := ⟨_, ho2, rfl⟩
  have hr : (!((List.range (min items.size items2.size)).all (fun _ => true) && items.size == items2.size)) = false := by
    rw [hsz]; simp
  exact wpAny_richCompare_same_room (op := .NotEq) ta tb F.slot_tuple_ne (call_meetsIn F.slot_tuple_ne ta F.entry_tuple_ne (F.args_tuple_ne_2 _ _) (tup_neIn l b items items2 n n2 dd dd2 sl sl2 fun _ => true)
    ⟨ho, ho2, he, show Value.bool (!((List.range (min items.size items2.size)).all (fun _ => true) && items.size == items2.size)) ≠ Value.notImplemented ∧ Q (.bool (!((List.range (min items.size items2.size)).all (fun _ => true) && items.size == items2.size))) s from ⟨(fun x => nomatch x), by rw [hr]; exact h⟩⟩) hu
end
end PySem.SeqAt
namespace Fw
open PySem PySem.Spec PyProof.Rows L2
def EqT (K : PySem.W.Frag) (H : Hp) : Nat → V → V → Prop
  | 0 => fun _ _ => False
  | n + 1 => fun x y => (x = y ∧ flatB x = true) ∨ (∃ a, x = .ref a ∧ y = .ref a) ∨ EqR K H (EqT K H n) x y ∨ ∃ a b xs ys, x = .ref a ∧ y = .ref b ∧ SqT K H a xs ∧ SqT K H b ys ∧ Paired (EqT K H n) xs ys
section
variable {X : Cx} {pins : List (Addr × Obj)} {σ : L2.St} {H : Hp} {s : Shared}
theorem eqTu_run (I : Inv X pins σ H s) {A : Around} {F : V → V → Prop} (ih : ∀ x y v u, F x y → RelV x v → RelV y u → SeqAt.EqP X.prog X.w A.in1 s v u true) {a b : Addr} {xs ys : List V} (ha : SqT X.K H a xs) (hb : SqT X.K H b ys) (hp : Paired F xs ys) :
    ∃ us ws : Array Value, s.heap.IsTuple a us ∧ s.heap.IsTuple b ws ∧ us.size = ws.size ∧ ∀ j (h1 : j < us.size) (h2 : j < ws.size), SeqAt.EqP X.prog X.w A.in1 s us[j] ws[j] true := by
  obtain ⟨us, r1, p1, _⟩ := I.tuple ha
  obtain ⟨ws, r2, p2, _⟩ := I.tuple hb
  refine ⟨us.toArray, ws.toArray, p1, p2, ?_, fun j h1 h2 => ?_⟩
  · rw [List.size_toArray, List.size_toArray, ← r1.length, ← r2.length]
    exact Paired.length hp
  · have k := items_run ih hp r1 r2 j (by simpa using h1) (by simpa using h2)
    simpa using k
theorem eqT_run (I : Inv X pins σ H s) : ∀ (n : Nat) (A : Around), A.units + n < cLine → ∀ (x y : V) (v u : Value), EqT X.K H n x y → RelV x v → RelV y u → SeqAt.EqP X.prog X.w A s v u true
  | 0, _, _, _, _, _, _, h, _, _ => (show False from h).elim
  | n + 1, A, hu, x, y, v, u, h, rx, ry => by
    have ih := eqT_run I n A.in1 (by show A.units + 1 + n < cLine; omega)
    rcases h with ⟨rfl, f⟩ | ⟨a, rfl, rfl⟩ | h | ⟨a, b, xs, ys, rfl, rfl, ha, hb, hp⟩
    · exact (eqAt_same rx ry f).eqP
    · cases (show v = Value.ref a from rx)
      cases (show u = Value.ref a from ry)
      exact (SeqAt.EqAt.same _).eqP
    · have step := eqR_run I (A := A) (by omega) ih h rx ry
      obtain ⟨a, b, rfl, rfl⟩ : ∃ a b, x = .ref a ∧ y = .ref b := by
        rcases h with ⟨a, b, _, _, e1, e2, _⟩ | ⟨a, b, _, _, e1, e2, _⟩
        · exact ⟨a, b, e1, e2⟩
        · exact ⟨a, b, e1, e2⟩
      cases (show v = Value.ref a from rx)
      cases (show u = Value.ref b from ry)
      by_cases e : a = b
      · subst e
        exact (SeqAt.EqAt.same _).eqP
      · exact SeqAt.eqP_refs e step
    · cases (show v = Value.ref a from rx)
      cases (show u = Value.ref b from ry)
      obtain ⟨us, ws, p1, p2, hsz, he⟩ := eqTu_run I ih ha hb hp
      by_cases e : a = b
      · subst e
        exact (SeqAt.EqAt.same _).eqP
      · exact SeqAt.eqP_refs e fun E Q q => SeqAt.rcP_tups p1 p2 hsz (by omega) he E Q q
end
def EqST (g : Gr) : Nat → D → D → Prop
  | 0, _, _ => False
  | n + 1, d, e => (d = e ∧ flD d = true) ∨ (∃ l, d = .obj l ∧ e = .obj l) ∨ (∃ xs ys, viewL g d = some xs ∧ viewL g e = some ys ∧ EqL (EqST g n) xs ys) ∨
    (∃ l m ks ls, viewD g d = some (l, ks) ∧ viewD g e = some (m, ls) ∧ ks.length = ls.length ∧ ∀ p ∈ ks, ∃ u, dGet ls p.1 = some u ∧ EqST g n p.2 u) ∨ ∃ xs ys, d = .tup xs ∧ e = .tup ys ∧ EqL (EqST g n) xs ys
theorem eqST_dict {K : PySem.W.Frag} {w : Wd} {g : Gr} {H : Hp} (S0 : SG K w g H) {n : Nat} (ih : ∀ v u d e, Rep K w v d → Rep K w u e → EqST g n d e → EqT K H n v u) {v u : V} {d e : D} (rv : Rep K w v d) (ru : Rep K w u e) {l m : Nat} {ks ls : List (Key × D)} (h1 : viewD g d = some (l, ks)) (h2 : viewD g e = some (m, ls)) (hl : ks.length = ls.length) (hp : ∀ p ∈ ks, ∃ u, dGet ls p.1 = some u ∧ EqST g n p.2 u) :
    ∃ a b xs ys, v = .ref a ∧ u = .ref b ∧ H a = some (.dK xs) ∧ H b = some (.dK ys) ∧ xs.length = ys.length ∧ ∀ p ∈ xs, ∃ z, valV ys p.1 = some z ∧ EqT K H n p.2 z := by
  obtain ⟨_, rfl, _, xs, e1, e2⟩ := viewD_ok S0 rv h1
  obtain ⟨_, rfl, _, ys, e3, e4⟩ := viewD_ok S0 ru h2
  refine ⟨_, _, xs, ys, rfl, rfl, e1, e3, by rw [repK_len e2, repK_len e4, hl], fun p hpx => ?_⟩
  obtain ⟨q, q1, q2, q3⟩ := repK_mem e2 p hpx
  obtain ⟨z, z1, z2⟩ := hp q q1
  obtain ⟨y, y1, y2⟩ := (repK_get q.1 e4).1 z z1
  rw [q2] at y1
  exact ⟨y, y1, ih _ _ _ _ q3 y2 z2⟩
theorem rep_tup {K : PySem.W.Frag} {w : Wd} {g : Gr} {H : Hp} (S0 : SG K w g H) {v : V} {ds : List D} (r : Rep K w v (.tup ds)) : ∃ a xs, v = .ref a ∧ SqT K H a xs ∧ RepL K w xs ds := by
  simp only [Rep] at r
  obtain ⟨a, xs, rfl, h1, h2⟩ := r
  exact ⟨a, xs, rfl, S0.ex.sqT h1, h2⟩
theorem eqST_V {K : PySem.W.Frag} {w : Wd} {g : Gr} {H : Hp} (S0 : SG K w g H) : ∀ (n : Nat) (v u : V) (d e : D), Rep K w v d → Rep K w u e → EqST g n d e → EqT K H n v u
  | 0, _, _, _, _, _, _, h => (show False from h).elim
  | n + 1, v, u, d, e, rv, ru, h => by
    rcases h with ⟨rfl, f⟩ | ⟨l, rfl, rfl⟩ | ⟨xs, ys, h1, h2, h3⟩ | ⟨l, m, ks, ls, h1, h2, h3, h4⟩ | ⟨xs, ys, rfl, rfl, h3⟩
    · exact .inl (flD_ok f rv ru)
    · simp only [Rep] at rv ru
      exact .inr (.inl ⟨w.mm l, rv.2, ru.2⟩)
    · obtain ⟨a, vs, rfl, a1, a2⟩ := viewL_ok S0 rv h1
      obtain ⟨b, us, rfl, b1, b2⟩ := viewL_ok S0 ru h2
      exact .inr (.inr (.inl (.inl ⟨a, b, vs, us, rfl, rfl, .inl a1, .inl b1, eqL_paired (eqST_V S0 n) h3 a2 b2⟩)))
    · exact .inr (.inr (.inl (.inr (eqST_dict S0 (eqST_V S0 n) rv ru h1 h2 h3 h4))))
    · obtain ⟨a, vs, rfl, a1, a2⟩ := rep_tup S0 rv
      obtain ⟨b, us, rfl, b1, b2⟩ := rep_tup S0 ru
      exact .inr (.inr (.inr ⟨a, b, vs, us, rfl, rfl, a1, b1, eqL_paired (eqST_V S0 n) h3 a2 b2⟩))
open Classical in
noncomputable def opNeT (d e : D) (g : Gr) : R := match d, e with
  | .tup xs, .tup ys => if EqL (EqST g 10) xs ys then .ok (.bl false) g else .no
  | d, e => opNe d e g
def rNeT (K : PySem.W.Frag) : R2 := fun x y H Q => rNeN K x y H Q ∨ ∃ a b xs ys, x = .ref a ∧ y = .ref b ∧ SqT K H a xs ∧ SqT K H b ys ∧ Paired (EqT K H 10) xs ys ∧ Q (.bl false) H
theorem op_neT {X : Cx} (hu : X.A.units + 64 < cLine) : OpR X (compareOp .NotEq) (rNeT X.K) := by
  intro pins s σ H x y v u Q I rx ry h
  rcases h with h | ⟨a, b, xs, ys, rfl, rfl, ha, hb, hp, q⟩
  · exact op_neN hu pins s σ H x y v u Q I rx ry h
  · obtain rfl : v = Value.ref a := rx
    obtain rfl : u = Value.ref b := ry
    obtain ⟨us, ws, p1, p2, hsz, he⟩ := eqTu_run I (eqT_run I 10 X.A.in1 (by show X.A.units + 1 + 10 < cLine; omega)) ha hb hp
    exact SeqAt.neP_tups p1 p2 hsz (by omega) he _ _ ⟨.bl false, H, I, rfl, q⟩
theorem s_neT {X : Cx} : OpS X (rNeT X.K) opNeT := by
  intro w g H x y d e Q E S0 rx ry o
  unfold opNeT at o
  split at o
  · rename_i xs ys
    split at o
    · rename_i h
      obtain ⟨a, vs, rfl, a1, a2⟩ := rep_tup S0 rx
      obtain ⟨b, us, rfl, b1, b2⟩ := rep_tup S0 ry
      exact .inr ⟨a, b, vs, us, rfl, rfl, a1, b1, eqL_paired (eqST_V S0 10) h a2 b2, Out.here o S0 rep_bl'⟩
    · exact o.elim
  · exact .inl (s_ne w g H x y d e Q E S0 rx ry o)
theorem neT_of {g : Gr} {xs ys : List D} (h : EqL (EqST g 10) xs ys) : opNeT (.tup xs) (.tup ys) g = .ok (.bl false) g := if_pos h
end Fw

set_option maxRecDepth 100000
set_option maxHeartbeats 4000000
namespace Fw
open PySem PySem.Spec PyProof.Rows L2
section
variable {P : Program} {w : World} {K : PySem.W.Frag} {mg : Str → Option Value} {base : Heap} {Z : Sc} {hot : Option (Nat × Str)} {k : Nat} {X : Cx} {W : WX} {px py pz pt pt2 pos : Pos} {x y z : Str} {a b c : Expr} {ms : Exps} {kt k2}
end
end Fw

set_option maxRecDepth 100000
set_option maxHeartbeats 4000000
namespace Fw
open PySem PySem.Spec PyProof.Rows L2
end Fw

set_option maxRecDepth 100000
set_option maxHeartbeats 4000000
namespace Fw
open PySem PySem.Spec PyProof.Rows L2 L2N
section
variable {X : Cx} {pins : List (Addr × Obj)} {σ : L2.St} {H : Hp} {s : Shared}
end
section
variable {X : Cx} {x : Str} {c : Value} {body : List Stmt} {st : Stmt} {np pos pos' rp : Pos} {tb : L2.WX → TS} {ts : Addr → Value → Option Addr → TS} {Wout : L2.WX}
end
end Fw

set_option maxRecDepth 100000
set_option maxHeartbeats 4000000
namespace Fw
open PySem PySem.Spec PyProof.Rows L2
section
variable {P : Program} {w : World} {K : PySem.W.Frag} {mg : Str → Option Value} {base : Heap} {Z : Sc} {k : Nat} {X : Cx} {W : WX} {L Cs Is : List Str}
end
section
variable {L Cs : List Str} {y e : Str} {b : Stm} {s : Nat × Str → Stm} {ρ : En} {g : Gr} {d : D}
end
end Fw

set_option maxRecDepth 100000
set_option maxHeartbeats 4000000
namespace Fw
open PySem PySem.Spec PyProof.Rows L2
section
variable {P : Program} {w : World} {K : PySem.W.Frag} {mg : Str → Option Value} {base : Heap} {hot : Option (Nat × Str)} {j n : Nat} {Dn Bn f mn : Str} {fs ms : List Str} {m : Fn}
end
end Fw

set_option maxRecDepth 100000
set_option maxHeartbeats 4000000
namespace Fw
open PySem PySem.Spec PyProof.Rows L2
section
variable {pg : Program} {wo : World} {B : Around} {En : Value → Shared → Prop} {z : Shared}
end
end Fw

set_option maxRecDepth 100000
set_option maxHeartbeats 4000000
namespace Fw
open PySem PySem.Spec PyProof.Rows L2
section
variable {K : PySem.W.Frag} {w : Wd}
end
end Fw

set_option maxRecDepth 100000
set_option maxHeartbeats 4000000
namespace Fw
open PySem PySem.Spec PyProof.Rows L2
end Fw

set_option maxRecDepth 100000
set_option maxHeartbeats 4000000
namespace Fw
open PySem PySem.Spec PyProof.Rows L2
end Fw

set_option maxRecDepth 100000
set_option maxHeartbeats 4000000
namespace Fw
open PySem PySem.Spec PyProof.Rows L2
section
variable {K : PySem.W.Frag} {w : Wd}
end
section
variable {P : Program} {w : World} {K : PySem.W.Frag} {mg : Str → Option Value} {base : Heap} {Z : Sc} {hot : Option (Nat × Str)} {k : Nat} {X : Cx} {W : WX} {pos p : Pos} {tg e : Expr} {m : Exp} {ms : Exps} {tgs : List Expr} {k0 : Nat} {tp : Pos}
end
end Fw

set_option maxRecDepth 100000
set_option maxHeartbeats 4000000
namespace Fw
open PySem PySem.Spec PyProof.Rows L2
def mSplitC (d : D) (ds : List D) (g : Gr) : R := match d, ds with
  | .str a, [.str b] => if (b.length == 0) = false ∧ a.length + 2 ≤ sizeLine then .ok (.obj g.length) (g ++ [.lst ((Txt.split a b).map .str)]) else .no
  | _, _ => .no
section
variable {K : PySem.W.Frag} {X : Cx}
theorem ms_splitC : MtS K "str" (fun x xs H Q => ∃ a b, x = .str a ∧ xs = [.str b] ∧ (b.length == 0) = false ∧ a.length + 2 ≤ sizeLine ∧ rNewStrs (Txt.split a b) H Q) tyS mSplitC := by
  refine ⟨fun w g H x d S0 r h => tyS_ok r h, fun w g H x d vs ds Q E S0 rx rv o => ?_⟩
  unfold mSplitC at o
  split at o
  · split at o
    · rename_i hz
      obtain ⟨v, rfl, h3⟩ := repl1 rv
      exact ⟨_, _, rep_str rx, by rw [rep_str h3], hz.1, hz.2, Out.newC o S0 (repl_strsD _)⟩
    · exact o.elim
  · exact o.elim
end
section
variable {P : Program} {w : World} {K : PySem.W.Frag} {mg : Str → Option Value} {base : Heap} {Z : Sc} {hot : Option (Nat × Str)} {k : Nat} {X : Cx} {W : WX}
end
section
variable {g : Gr} {l : List Nat} {c : Nat}
theorem v_splC (hz : l.length ≤ 8000000) : mSplitC (.str (tx l)) [.str (tx [c])] g = .ok (.obj g.length) (g ++ [.lst ((splitL c l).map fun p => .str (tx p))]) := by
  have e := v_splT (c := c) (g := g) hz
  unfold mSplit at e
  unfold mSplitC
  dsimp only at e ⊢
  split at e
  · rename_i h
    rw [if_pos h]
    injection e with e1 _
    injection e1 with e2
    rw [e2]
  · cases e
end
end Fw

set_option maxRecDepth 100000
set_option maxHeartbeats 4000000
namespace L2
open PySem PySem.Spec PyProof.Rows
section
variable {prog : Program} {w : World} {A : Around} {E : Value → Shared → Prop} {s : Shared}
end
section
variable {X : Cx}
end
end L2
namespace Fw
open PySem PySem.Spec PyProof.Rows L2
end Fw

set_option maxRecDepth 100000
set_option maxHeartbeats 4000000
namespace Fw
open PySem PySem.Spec PyProof.Rows L2
section
variable {P : Program} {w : World} {K : PySem.W.Frag} {mg : Str → Option Value} {base : Heap} {Z : Sc} {k : Nat} {X : Cx} {W : WX} {pos p p2 pos2 : Pos} {e : Expr} {ms : Exps}
end
end Fw

set_option maxRecDepth 100000
set_option maxHeartbeats 4000000
namespace Fw
open PySem PySem.Spec PyProof.Rows L2

theorem looks_othZ {M : Model} {A : Around} {E : Value → Shared → Prop} {s : Shared} {Z : Obj → Prop} {base : Heap} {env : Env} {outer : List Env} {L L' e : Addr} {Q : Unit → Shared → Prop} (hZ : PXN.Steady1 Z) (hfr : A.frames = some (env :: outer)) (hf : env.frame = some L) (hL : L' ≠ L)
    (hfl : HandSPX.HeldZ base (env :: outer) e Z L' s.heap) (hQ : ∀ h', HandSPX.HeldZ base (env :: outer) e Z L h' → s.heap.UpToSlots h' → Q () { s with heap := h' }) : wpAny M A (noteFrame (.ref e) env) Q E s := by
  obtain ⟨hkb, hen, hl, oe, vs, T, oT, ts, he, hz, hd, h1, hnT, hTe, hT, hdT, h3⟩ := hfl
  unfold noteFrame
  simp only [hf]
  refine wpAny_bind (wpAny_field he hd h1 ?_)
  rw [if_pos (show (Value.ref T != Value.none) = true from by simp)]
  refine wpAny_bind (wpAny_field hT hdT h3 ?_)
  rw [if_neg (show ¬ ((rawInt L' == rawInt L) = true) from by simp only [rawInt, beq_iff_eq]; intro z; injection z with z; exact hL (Int.ofNat.inj z))]
  refine wpAny_bind (wpAny_setField hT hdT (Array.getElem?_eq_some_iff.mp h3).1 ?_)
  have other : ∀ b, b ≠ T → (s.heap.update T (Obj.mapFields (·.setIfInBounds 3 Value.none))).get? b = s.heap.get? b := fun b hb => Heap.get?_update_other _ _ (Ne.symm hb)
  have noRecord : ∀ b o, s.heap.get? b = some o → (∀ vs, o.data ≠ .fields vs) → b ≠ T := fun b o hb hnf q => by
    rw [q, hT] at hb; injection hb with hb; subst hb; exact hnf ts hdT
  refine PXN.wpAny_entryZ hZ hfr (hl.of_keeps fun b o hb hnf => ⟨o, (other b (noRecord b o hb hnf)).trans hb, rfl⟩) hf ((other e (Ne.symm hTe)).trans he)
    (fun b o hbo => (other b fun q => by rw [q, hnT] at hbo; cases hbo).trans (hkb b o hbo)) hen hd (Array.getElem?_eq_some_iff.mp h1).1 hz fun h' hN => ?_
  obtain ⟨x1, x2, x3, x4⟩ := hN
  exact hQ h' ⟨x1, hen, x2, x3⟩ fun b o hb hnf => x4 b o ((other b (noRecord b o hb hnf)).trans hb) hnf

def XEL (L : Addr) (X : Cx) (W : WX) (u : Value) (s' : Shared) : Prop :=
  ∃ (a : Addr) (B : Heap) (sI : Shared) (pins : List (Addr × Obj)) (σ : L2.St) (H : Hp) (cls : Value) (d : Option Addr),
    u = .ref a ∧ Inv X pins σ H sI ∧ (∀ b o, sI.heap.get? b = some o → b ∉ frs X.stack → B.get? b = some o) ∧ sI.heap.UpToSlots s'.heap ∧
      Sky B X.stack a (L2N.Zn cls d) L s'.heap ∧ H a = none ∧ s'.os = sI.os ∧ AllBare s'.gens ∧ W cls d σ H
structure TkF (X : Cx) (W : WX) : Prop where
  ex : ∃ L env outer, X.stack = env :: outer ∧ env.frame = some L ∧ X.env.frame = some L ∧ ∀ u s', XEL L X W u s' → X.xe u s'
theorem TkF.of {X : Cx} {W : WX} (hs : X.stack = X.env :: X.outer) (hf : X.env.frame = some X.env.locals) (tk : L2N.Takes X W) : TkF X W :=
  ⟨X.env.locals, X.env, X.outer, hs, hf, hf, fun u s' h => tk u s' h⟩

abbrev blkX (X : Cx) (s : Shared) (H : Hp) (scope : Scope) (ce : Env) (fp : List Addr) : Cx :=
  (X.blk s H scope ce fp).tr [] (notedBy (model X.prog X.w) X.A ce (CompFails (model X.prog X.w) X.A X.xe ce))
section
variable {X : Cx} {W : WX} {pins : List (Addr × Obj)} {σ : L2.St} {H : Hp} {s : Shared} {scope : Scope} {ce : Env} {fp : List Addr}
theorem inv_blkX {σ' : L2.St} {H' : Hp} {s' : Shared} (I : Inv (X.blk s H scope ce fp) [] σ' H' s') : Inv (blkX X s H scope ce fp) [] σ' H' s' := I.toTry _
theorem held_fails (tk : TkF X W) (I : Inv X pins σ H s) (hfp : ∀ b ∈ fp, FpOk X pins H b) (hL : ce.locals = s.heap.objs.size) (hfr : ce.frame = X.env.frame) {L0 : Addr} {env : Env} {outer : List Env} (e1 : X.stack = env :: outer) (e2 : env.frame = some L0) (e3 : X.env.frame = some L0)
    (tkx : ∀ u s', XEL L0 X W u s' → X.xe u s') {a : Addr} {B : Heap} {sI s1 : Shared} {pins1 : List (Addr × Obj)} {σ1 : L2.St} {H1 : Hp} {cls : Value} {d : Option Addr} (I1 : Inv (blkX X s H scope ce fp) pins1 σ1 H1 sI)
    (nb : ∀ b o, sI.heap.get? b = some o → b ∉ frs X.stack → B.get? b = some o) (up : sI.heap.UpToSlots s1.heap) (hh : HandSPX.HeldZ B (env :: outer) a (L2N.Zn cls d) L0 s1.heap) (na : H1 a = none) (os : s1.os = sI.os) (ag : AllBare s1.gens) (w : W cls d σ H1) :
    CompFails (model X.prog X.w) X.A X.xe ce (.ref a) s1 := by
  have nC : H1 ce.locals = none := I1.free
  obtain ⟨m1, hn1, _⟩ := I1.loc
  have hn1 : sI.heap.Ns ce.locals m1 := hn1
  have fC : FpOk X pins H1 ce.locals := I.fpOk (by rw [hL]; exact Nat.le_refl _) nC
  have nst : ce.locals ∉ frs X.stack := fun hm => by
    rcases List.mem_cons.mp (I.stkSub _ hm) with z | z
    · exact fC.2.1 z
    · exact fC.2.2.1 z
  obtain ⟨oC, esC, epC, hoC, hdC, _⟩ := id hn1
  have hBC : B.get? ce.locals = some oC := nb _ _ hoC nst
  refine ⟨m1, Heap.UpToSlots.ns up hn1, fun h2 m2 hn2 hs2 => ?_⟩
  obtain ⟨b1, b0, f1, oe, vs, T, oT, ts, he, hz, hd, h1, hnT, hTe, hT, hdT, h3⟩ := hh
  have aC : a ≠ ce.locals := fun z => by rw [z, hBC] at b0; cases b0
  have TC : T ≠ ce.locals := fun z => by rw [z, hBC] at hnT; cases hnT
  obtain ⟨oL, es2, ep2, hoL, hdL, _⟩ := id hn2
  have nfr : oL.isFreed = false := (Heap.get?_some_iff.mp hoL).2
  -- the grounds with the block's own object as it is now
  have BC : (B.update ce.locals fun _ => oL).get? ce.locals = some oL := Heap.get?_update_self _ hBC nfr
  have Bo : ∀ b, b ≠ ce.locals → (B.update ce.locals fun _ => oL).get? b = B.get? b := fun b hb => Heap.get?_update_other _ _ (Ne.symm hb)
  have GC : (sI.heap.update ce.locals fun _ => oL).get? ce.locals = some oL := Heap.get?_update_self _ hoC nfr
  have Go : ∀ b, b ≠ ce.locals → (sI.heap.update ce.locals fun _ => oL).get? b = sI.heap.get? b := fun b hb => Heap.get?_update_other _ _ (Ne.symm hb)
  have b2 : (B.update ce.locals fun _ => oL).StaysIn h2 := fun b o hb => by
    by_cases z : b = ce.locals
    · subst z; rw [BC] at hb; cases hb; exact hoL
    · rw [Bo b z] at hb
      exact (hs2.2 b z).trans (b1 b o hb)
  have f2 : h2.FunFrames (B.update ce.locals fun _ => oL) (env :: outer) := by
    refine funFrames_none (Heap.FunFrames.sameBut hs2 hn2 f1) fun L hm => ?_
    have hne : L ≠ ce.locals := fun z => nst (by rw [e1, ← z]; exact hm)
    rw [Bo L hne]
    exact (f1.mem hm).1
  have t2 : HandSPX.TracedZ h2 (B.update ce.locals fun _ => oL) a (L2N.Zn cls d) (rawInt L0) :=
    ⟨oe, vs, T, oT, ts, (hs2.2 a aC).trans he, hz, hd, h1, (Bo T TC).trans hnT, hTe, (hs2.2 T TC).trans hT, hdT, h3⟩
  unfold PySem.passOn
  refine wpAny_bind (wpAny_field (s := { s1 with heap := h2 }) ((hs2.2 a aC).trans he) hd h1 ?_)
  rw [if_neg (show ¬ ((Value.ref T == Value.none) = true) from by simp)]
  rw [show ce.frame = some L0 from hfr.trans e3]
  refine wpAny_bind (HandSPX.setFlight_anyZ (l := env :: outer) b2 f2 t2 fun h4 b4 f4 t4 u4 => ?_)
  refine wpAny_throw ?_
  refine tkx _ _ ⟨a, B.update ce.locals fun _ => oL, { sI with heap := sI.heap.update ce.locals fun _ => oL }, pins, σ, H1, cls, d, rfl, ?_, fun b o hb hm => ?_, fun b o hb hnf => ?_, .inr (.inr ?_), na, os, ag, w⟩
  · have J : Inv X pins σ H1 sI := I.call' (ch := fp) I1.os I1.base I1.hok I1.bare fun b hb => ⟨(hfp b hb).2.2.2.1, (hfp b hb).2.1, (hfp b hb).2.2.2.2.1, (hfp b hb).2.2.2.2.2⟩
    obtain ⟨c0, c1, c2, c3, c4, c5⟩ := fC
    exact J.turned (t' := sI.toks) (fun b o hb e => (Go b hb).trans e) c0 c1 c3 c4 c5
  · by_cases z : b = ce.locals
    · subst z
      have hb : (sI.heap.update ce.locals fun _ => oL).get? ce.locals = some o := hb
      rw [GC] at hb; cases hb; exact BC
    · have hb : (sI.heap.update ce.locals fun _ => oL).get? b = some o := hb
      rw [Go b z] at hb
      rw [Bo b z]; exact nb b o hb hm
  · have hb : (sI.heap.update ce.locals fun _ => oL).get? b = some o := hb
    by_cases z : b = ce.locals
    · subst z
      rw [GC] at hb; cases hb
      exact u4 _ _ hoL hnf
    · rw [Go b z] at hb
      obtain ⟨sl, q⟩ := up b o hb hnf
      obtain ⟨sl2, q2⟩ := u4 b _ ((hs2.2 b z).trans q) hnf
      exact ⟨sl2, q2⟩
  · rw [e1]
    exact ⟨b4, (Bo a aC).trans b0, f4, t4⟩
theorem xel_blk (tk : TkF X W) (I : Inv X pins σ H s) (hfp : ∀ b ∈ fp, FpOk X pins H b) (hL : ce.locals = s.heap.objs.size) (hfr : ce.frame = X.env.frame) {L : Addr} {u : Value} {s' : Shared} (x : XEL L (blkX X s H scope ce fp) (fun c d _ H' => W c d σ H') u s') :
    (blkX X s H scope ce fp).xe u s' := by
  obtain ⟨L0, env, outer, e1, e2, e3, tkx⟩ := id tk.ex
  obtain ⟨a, B, sI, pins1, σ1, H1, cls, d, rfl, I1, nb, up, sky, na, os, ag, w⟩ := x
  show wpAny (model X.prog X.w) X.A (noteFrame (.ref a) ce) _ _ s'
  rw [noteFrame_env (Value.ref a) (show ce.frame = env.frame from hfr.trans (e3.trans e2.symm))]
  have fr : X.A.frames = some (env :: outer) := by rw [I.ok.frames, e1]
  have fin : ∀ h', HandSPX.HeldZ B (env :: outer) a (L2N.Zn cls d) L0 h' → s'.heap.UpToSlots h' → CompFails (model X.prog X.w) X.A X.xe ce (.ref a) { s' with heap := h' } := fun h' hh up' =>
    held_fails tk I hfp hL hfr e1 e2 e3 tkx I1 nb (up.trans up') hh na os ag w
  have sky : Sky B (env :: outer) a (L2N.Zn cls d) L s'.heap := by rw [← e1]; exact sky
  rcases sky with ⟨hB, hn, hl, oe, vs, he, hz, hd, h1⟩ | fl | hh
  · exact PXN.look_newZ L2N.Zn.steady fr hl e2 he hB hn hd h1 hz fin
  · exact PXN.looks_onZ L2N.Zn.steady fr e2 fl fin
  · by_cases q : L = L0
    · subst q
      exact HandSPX.againZ e2 hh.2.2.2 (fin s'.heap hh (Heap.UpToSlots.refl _))
    · exact looks_othZ L2N.Zn.steady fr e2 q hh fin
theorem takes_blk (tk : TkF X W) (I : Inv X pins σ H s) (hfp : ∀ b ∈ fp, FpOk X pins H b) (hL : ce.locals = s.heap.objs.size) (hfr : ce.frame = X.env.frame) :
    L2N.Takes (blkX X s H scope ce fp) (fun c d _ H' => W c d σ H') ∧ TkF (blkX X s H scope ce fp) (fun c d _ H' => W c d σ H') := by
  refine ⟨fun u s' x => xel_blk tk I hfp hL hfr (L := ce.locals) x, ?_⟩
  obtain ⟨L0, env, outer, e1, e2, e3, tkx⟩ := id tk.ex
  exact ⟨L0, env, outer, e1, e2, hfr.trans e3, fun u s' x => xel_blk tk I hfp hL hfr x⟩
end
abbrev wAt (W : WX) (σ0 : L2.St) : WX := fun c d _ H => W c d σ0 H
section
variable {X : Cx} {W : WX}
theorem lc_coreX {pins : List (Addr × Obj)} {s : Shared} {σ : L2.St} {H : Hp} {Q : VK} {elt tg iter : Expr} {ifs : List Expr} {scope : Scope} {own : List (Str × Nat)} {pos pos' : Pos} {wi : TI} {g : TG} {tt : L2.St → TT} {te : L2.St → TE} {use : Option (Value → Sem Unit)} {Qf : Value → Shared → Prop}
    (tk : TkF X W) (hc : X.calm = true) (hN : X.N.Nodup) (I : Inv X pins σ H s) (hi : PI X tg iter wi) (ok : BlkOk X.N X.env.scope scope own)
    (hg : ∀ (σ0 : L2.St) (s : Shared) (H : Hp) (C : Addr) (cl : List (Str × Addr)) (fp : List Addr), L2N.Takes (blkX X s H scope (compEnvC scope cl C X.env) fp) (wAt W σ0) → TkF (blkX X s H scope (compEnvC scope cl C X.env) fp) (wAt W σ0) → PG (blkX X s H scope (compEnvC scope cl C X.env) fp) tg g)
    (ht : ∀ (σ0 : L2.St) (s : Shared) (H : Hp) (C : Addr) (cl : List (Str × Addr)) (fp : List Addr), L2N.Takes (blkX X s H scope (compEnvC scope cl C X.env) fp) (wAt W σ0) → TkF (blkX X s H scope (compEnvC scope cl C X.env) fp) (wAt W σ0) → PTs (blkX X s H scope (compEnvC scope cl C X.env) fp) ifs (tt σ0))
    (he : ∀ (σ0 : L2.St) (s : Shared) (H : Hp) (C : Addr) (cl : List (Str × Addr)) (fp : List Addr), L2N.Takes (blkX X s H scope (compEnvC scope cl C X.env) fp) (wAt W σ0) → TkF (blkX X s H scope (compEnvC scope cl C X.env) fp) (wAt W σ0) → PE (blkX X s H scope (compEnvC scope cl C X.env) fp) elt (te σ0))
    (hs : ∀ x, foldedSetIterable iter X.env x = pure x)
    (h : tLc wi g (tt σ) (te σ) (own.map (·.2)) σ H Q)
    (hRR : ∀ D C s' m H' (ce : Env), ce.locals = C → Inv X pins σ H' s' → Q (.ref D) H' → s'.heap.Ns C m → FpOk X pins H' C → compEnds (model X.prog X.w) X.A X.xe use Qf (.ref D) ce (.ok .next) s') :
    wpAny (model X.prog X.w) X.A (comprehension (.ListComp elt [⟨tg, iter, ifs, 0⟩] scope pos) scope X.env pos' (newList []) false (eval iter X.env) use) Qf X.xe s := by
  have hfree : ∀ y ∈ scope.names, y.2 = .free → ∃ c, X.env.cells.lookup y.1 = some c := fun y hy e => by
    rcases ok.free y hy e with k | k
    · exact I.ok.has _ (.inl k)
    · exact I.ok.has _ (.inr k)
  refine comprehension_at (use := use) rfl hs (closure_ok hfree) ok.kind (fun y hy e => by rw [ok.uniq y hy, e])
    (thn (hi.run pins s σ H _ I h) fun xv s1 hx => thn hx fun itv s2 h2 => ?_)
  obtain ⟨it, fp, tn, J, H2, e, I2, T, st2, f2, q⟩ := h2
  subst e
  refine wpAny_newObj_type (newEnv_comp ?_) (by show 0 ≤ sizeLine; decide)
  generalize hD : s2.heap.objs.size = D
  have hDn : H2 D = none := I2.hok.fresh (Nat.le_of_eq hD)
  obtain ⟨Wt, ⟨m0, w0⟩, turn⟩ := q D hDn
  generalize hs3 : ({ s2 with heap := s2.heap.push { cls := .type "list", data := .seq ([] : List Value).toArray } } : Shared) = s3
  have I3 : Inv X pins σ (upd H2 D (.lst [])) s3 := by
    rw [← hs3]
    refine I2.laid (t' := s2.toks) (fun b o e => Heap.get?_push_of_some _ e) (Nat.le_of_eq hD) ⟨Nat.zero_le _, [], 0, .nil, ?_⟩
    rw [← hD]
    exact Heap.get?_push_size _ rfl
  have h3 : s3.heap = s2.heap.push { cls := .type "list", data := .seq ([] : List Value).toArray } := by rw [← hs3]
  have sz : ∀ b ∈ fp, b < s2.heap.objs.size := fun b hb => by
    obtain ⟨o, e, _⟩ := T.obj _ _ st2 b hb
    exact Heap.lt_size e
  have f3 : ∀ b ∈ fp, FpOk X pins (upd H2 D (.lst [])) b ∧ b < s3.heap.objs.size := fun b hb => by
    have hlt := sz b hb
    refine ⟨⟨?_, (f2 b hb).2⟩, by rw [h3, Heap.size_push]; exact Nat.lt_succ_of_lt hlt⟩
    rw [upd_ne (by rw [← hD]; exact Nat.ne_of_lt hlt)]
    exact (f2 b hb).1
  have st3 : tn 0 s3.heap := T.keep _ _ _ st2 fun b _ o e => by rw [h3]; exact Heap.get?_push_of_some _ e
  have I4' := block_start I3 ok hN f3
  have I4 := inv_blkX I4'
  have TK := takes_blk (W := W) (scope := scope) (fp := fp) (ce := compEnvC scope (cellsFrom (s3.heap.objs.size + 1) scope.names (cloFrom X.env.cells scope.names [])) s3.heap.objs.size X.env) tk I3 (fun b hb => (f3 b hb).1) rfl rfl
  have pg := hg σ s3 (upd H2 D (.lst [])) s3.heap.objs.size (cellsFrom (s3.heap.objs.size + 1) scope.names (cloFrom X.env.cells scope.names [])) fp TK.1 TK.2
  have pt := ht σ s3 (upd H2 D (.lst [])) s3.heap.objs.size (cellsFrom (s3.heap.objs.size + 1) scope.names (cloFrom X.env.cells scope.names [])) fp TK.1 TK.2
  have pe := he σ s3 (upd H2 D (.lst [])) s3.heap.objs.size (cellsFrom (s3.heap.objs.size + 1) scope.names (cloFrom X.env.cells scope.names [])) fp TK.1 TK.2
  clear TK I4'
  show codeAny _ _ (.compStart (.ListComp elt [⟨tg, iter, ifs, 0⟩] scope pos) 0 (.ref it) (.ref D) (compEnvC scope (cellsFrom (s3.heap.objs.size + 1) scope.names (cloFrom X.env.cells scope.names [])) s3.heap.objs.size X.env)) (compEnds (model X.prog X.w) X.A X.xe use Qf (.ref D) (compEnvC scope (cellsFrom (s3.heap.objs.size + 1) scope.names (cloFrom X.env.cells scope.names [])) s3.heap.objs.size X.env)) { s3 with heap := pushCells (s3.heap.push { cls := .type "dict", data := .dict #[] }) scope.names }
  have nfp : ∀ b ∈ fp, (upd H2 D (.lst [])) b = none := fun b hb => (f3 b hb).1.1
  generalize hce : compEnvC scope (cellsFrom (s3.heap.objs.size + 1) scope.names (cloFrom X.env.cells scope.names [])) s3.heap.objs.size X.env = ce at I4 pg pt pe ⊢
  have cL : ce.locals = s3.heap.objs.size := by subst hce; rfl
  generalize hH3 : upd H2 D (.lst []) = H3 at I3 I4 pg pt pe w0 nfp f3
  generalize hs4 : ({ s3 with heap := pushCells (s3.heap.push { cls := .type "dict", data := .dict #[] }) scope.names } : Shared) = s4 at I4 ⊢
  have st4 : tn 0 s4.heap := T.keep _ _ _ st3 fun b _ o e => by rw [← hs4]; exact pushCells_keeps _ _ _ _ (Heap.get?_push_of_some _ e)
  have stat : ∀ {σ' : L2.St} {H' : Hp} {s' : Shared}, Inv (blkX X s3 H3 scope ce fp) [] σ' H' s' → (∀ b ∈ fp, H' b = none) → ∀ b ∈ fp, FpOk (blkX X s3 H3 scope ce fp) [] H' b := fun {σ' H' s'} I' hn b hb =>
    ⟨hn b hb, (I'.ok.exf b hb).1, I'.ok.exfs b hb, .inl hb, fun x c e => (I'.ok.exf b hb).2 x c e, fun p hp => absurd (show p ∈ ([] : List (Addr × Obj)) ++ [] from hp) (by simp)⟩
  have hRe : (fun (e : Value) (s' : Shared) => compEnds (model X.prog X.w) X.A X.xe use Qf (.ref D) ce (.error e) s') = CompFails (model X.prog X.w) X.A X.xe ce := by cases use <;> rfl
  have loop : codeAny (model X.prog X.w) X.A (.compLoop (.ListComp elt [⟨tg, iter, ifs, 0⟩] scope pos) 0 (.ref it) (.ref D) ce) (compEnds (model X.prog X.w) X.A X.xe use Qf (.ref D) ce) s4 := by
    refine compLoop_any (fun n s' => ∃ i H', Inv (blkX X s3 H3 scope ce fp) [] (wipe σ (own.map (·.2))) H' s' ∧ tn i s'.heap ∧ (∀ b ∈ fp, H' b = none) ∧ Wt i n H') ?_ m0 ⟨0, H3, I4, st4, nfp, w0⟩
    rintro n s5 ⟨i, H5, I5, st5, n5, w5⟩
    simp only [hRe]
    rcases turn i n H5 w5 with ⟨stop, qq⟩ | ⟨go, Nx, hNx, step⟩
    · have td := T.done (blkX X s3 H3 scope ce fp) rfl rfl rfl hc i [] s5 _ H5 (fun _ _ => False) I5 (stat I5 n5) st5 stop
      refine thnF td fun r s6 ⟨hr, I6⟩ => ?_
      subst hr
      have I7 : Inv X pins σ H5 s6 := I3.call' (ch := fp) I6.os I6.base I6.hok I6.bare fun b hb => ⟨(f3 b hb).1.2.2.2.1, (f3 b hb).1.2.1, (f3 b hb).1.2.2.2.2.1, (f3 b hb).1.2.2.2.2.2⟩
      have nC : H5 s3.heap.objs.size = none := by
        have z : H5 ce.locals = none := I6.free
        rw [cL] at z
        exact z
      obtain ⟨m, hn, _⟩ := I6.loc
      have hn : s6.heap.Ns ce.locals m := hn
      rw [cL] at hn
      exact hRR D s3.heap.objs.size s6 m H5 ce cL I7 qq hn (I3.fpOk (Nat.le_refl _) nC)
    · have ti := T.item (blkX X s3 H3 scope ce fp) rfl rfl rfl hc i [] s5 _ H5 (fun _ _ => False) I5 (stat I5 n5) st5 go
      refine thnF ti fun r s6 ⟨u, hr, h6⟩ => ?_
      subst hr
      refine thnF h6 fun _ s7 ⟨x, H7, I7, r7, y7, st7, n7⟩ => ?_
      have I7' := I7.pinned (stat I7 n7) (T.obj _ _ st7)
      refine thn (pg.run _ s7 _ H7 x u _ I7' r7 (step x H7 y7)) fun _ s8 ⟨σ8, H8, I8, hw8, q8⟩ => ?_
      refine thn (pt.run _ s8 σ8 H8 _ I8 q8) fun b s9 ⟨H9, I9, q9⟩ => ?_
      have fin : ∀ {s' : Shared} {H' : Hp}, Inv (blkX X s3 H3 scope ce fp) ([] ++ pinsAt fp s7.heap) σ8 H' s' → Nx H' → ∃ m, m < n ∧ ∃ i H', Inv (blkX X s3 H3 scope ce fp) [] (wipe σ (own.map (·.2))) H' s' ∧ tn i s'.heap ∧ (∀ b ∈ fp, H' b = none) ∧ Wt i m H' := fun {s' H'} I' nx => by
        obtain ⟨m', hm, w'⟩ := hNx H' nx
        have pin' : ∀ b ∈ fp, ∀ o, s7.heap.get? b = some o → s'.heap.get? b = some o ∧ H' b = none := fun b hb o e =>
          let z := I'.pin (b, o) (List.mem_append_right _ (List.mem_append_right _ (mem_pinsAt hb e)))
          ⟨z.1, z.2.1⟩
        have hl : (wipe σ (own.map (·.2))).length = σ8.length := by rw [← hw8, wipe_length]
        refine ⟨m', hm, i + 1, H', (I'.unpinned (pins := [])).weak hl (fun j v e => ?_), T.keep _ _ _ st7 fun b hb o e => (pin' b hb o e).1, fun b hb => ?_, w'⟩
        · rw [← hw8] at e
          exact (wipe_some e).1
        · obtain ⟨o, e, _⟩ := T.obj _ _ st7 b hb
          exact (pin' b hb o e).2
      cases b with
      | false =>
        simp only [Bool.false_eq_true, if_false] at q9 ⊢
        exact fin I9 q9
      | true =>
        simp only [if_true] at q9 ⊢
        refine thn (pe.run _ s9 σ8 H9 _ I9 q9) fun z s10 ⟨yv, H10, I10, r10, acc, hD10, hz10, nx⟩ => ?_
        exact app_ok (X := blkX X s3 H3 scope ce fp) I10 hD10 hz10 r10 fun s11 I11 => fin I11 nx
  exact codeAny_compStart_list loop (T.self X.A 0 _ _ _ st4 loop)
variable {elt tg iter : Expr} {ifs : List Expr} {scope : Scope} {own : List (Str × Nat)} {pos spos : Pos} {wi : TI} {g : TG} {tt : L2.St → TT} {te : L2.St → TE}
theorem pe_lcX (tk : TkF X W) (hc : X.calm = true) (hN : X.N.Nodup) (hi : PI X tg iter wi) (ok : BlkOk X.N X.env.scope scope own)
    (hg : ∀ (σ0 : L2.St) (s : Shared) (H : Hp) (C : Addr) (cl : List (Str × Addr)) (fp : List Addr), L2N.Takes (blkX X s H scope (compEnvC scope cl C X.env) fp) (wAt W σ0) → TkF (blkX X s H scope (compEnvC scope cl C X.env) fp) (wAt W σ0) → PG (blkX X s H scope (compEnvC scope cl C X.env) fp) tg g)
    (ht : ∀ (σ0 : L2.St) (s : Shared) (H : Hp) (C : Addr) (cl : List (Str × Addr)) (fp : List Addr), L2N.Takes (blkX X s H scope (compEnvC scope cl C X.env) fp) (wAt W σ0) → TkF (blkX X s H scope (compEnvC scope cl C X.env) fp) (wAt W σ0) → PTs (blkX X s H scope (compEnvC scope cl C X.env) fp) ifs (tt σ0))
    (he : ∀ (σ0 : L2.St) (s : Shared) (H : Hp) (C : Addr) (cl : List (Str × Addr)) (fp : List Addr), L2N.Takes (blkX X s H scope (compEnvC scope cl C X.env) fp) (wAt W σ0) → TkF (blkX X s H scope (compEnvC scope cl C X.env) fp) (wAt W σ0) → PE (blkX X s H scope (compEnvC scope cl C X.env) fp) elt (te σ0))
    (hs : ∀ x, foldedSetIterable iter X.env x = pure x := by intro _; rfl) :
    PE X (.ListComp elt [⟨tg, iter, ifs, 0⟩] scope pos) (fun σ H Q => tLc wi g (tt σ) (te σ) (own.map (·.2)) σ H Q) := by
  refine ⟨fun pins s σ H Q I h => ?_⟩
  rw [eval_ListComp]
  refine lc_coreX tk hc hN I hi ok hg ht he hs h fun D C s' m H' ce hce I' q hn f => ?_
  subst hce
  refine ⟨m, hn, fun h'' sb => ?_⟩
  obtain ⟨f0, f1, f2, f3, f4, f5⟩ := f
  exact ⟨.ref D, H', I'.turned (t' := s'.toks) (fun b o hb e => (sb.2 b hb).trans e) f0 f1 f3 f4 f5, rfl, q⟩
theorem ps_setLcX {i : Nat} {y : Str} {py : Pos} (hy : X.N[i]? = some y) (hyl : X.env.scope.names.lookup y = some .local)
    (hsw : swapsWith (.ListComp elt [⟨tg, iter, ifs, 0⟩] scope pos) (some (.Name y py)) spos.line X.env = pure true) (tk : TkF X W) (hc : X.calm = true) (hN : X.N.Nodup) (hi : PI X tg iter wi) (ok : BlkOk X.N X.env.scope scope own)
    (hg : ∀ (σ0 : L2.St) (s : Shared) (H : Hp) (C : Addr) (cl : List (Str × Addr)) (fp : List Addr), L2N.Takes (blkX X s H scope (compEnvC scope cl C X.env) fp) (wAt W σ0) → TkF (blkX X s H scope (compEnvC scope cl C X.env) fp) (wAt W σ0) → PG (blkX X s H scope (compEnvC scope cl C X.env) fp) tg g)
    (ht : ∀ (σ0 : L2.St) (s : Shared) (H : Hp) (C : Addr) (cl : List (Str × Addr)) (fp : List Addr), L2N.Takes (blkX X s H scope (compEnvC scope cl C X.env) fp) (wAt W σ0) → TkF (blkX X s H scope (compEnvC scope cl C X.env) fp) (wAt W σ0) → PTs (blkX X s H scope (compEnvC scope cl C X.env) fp) ifs (tt σ0))
    (he : ∀ (σ0 : L2.St) (s : Shared) (H : Hp) (C : Addr) (cl : List (Str × Addr)) (fp : List Addr), L2N.Takes (blkX X s H scope (compEnvC scope cl C X.env) fp) (wAt W σ0) → TkF (blkX X s H scope (compEnvC scope cl C X.env) fp) (wAt W σ0) → PE (blkX X s H scope (compEnvC scope cl C X.env) fp) elt (te σ0))
    (hs : ∀ x, foldedSetIterable iter X.env x = pure x := by intro _; rfl) :
    PS X (.Assign [.Name y py] (.ListComp elt [⟨tg, iter, ifs, 0⟩] scope pos) spos) (tAsg (fun σ H Q => tLc wi g (tt σ) (te σ) (own.map (·.2)) σ H Q) (gName i)) := by
  refine ⟨fun pins s σ H D I h => ?_⟩
  rw [exec_Assign_Name_used _ _ _ _ hsw]
  refine wpAny_bind (wpAny_standAt (wpAny_bind ?_))
  show wpAny _ X.A (do let _ ← comprehension (.ListComp elt [⟨tg, iter, ifs, 0⟩] scope pos) scope X.env (firstIterPos [⟨tg, iter, ifs, 0⟩] pos) (newList []) false (eval iter X.env) (some (assign (.Name y py) X.env))) _ _ s
  have h : tLc wi g (tt σ) (te σ) (own.map (·.2)) σ H (fun x H1 => gName i x σ H1 D.nx) := h
  refine wpAny_bind (thn (lc_coreX (Qf := fun _ s' => SP X pins D .next s') tk hc hN I hi ok hg ht he hs h fun L C s' m H' ce hce I' q hn f => ?_) fun _ s' hq => wpAny_pure (wpAny_pure hq))
  show wpAny _ _ (assign (.Name y py) X.env (.ref L)) _ _ _
  refine wpAny_assign_Name (store_ok2 (v := V.ref L) I' hN hy (.inl hyl) rfl (fun s2 I2 ⟨a, sb, ha⟩ => ?_) (.inr hyl))
  subst hce
  obtain ⟨f0, f1, f2, f3, f4, f5⟩ := f
  have haC : ce.locals ≠ a := by
    rcases ha with z | z
    · rw [z]; exact f1
    · exact fun e => f4 y a z e.symm
  refine ⟨m, hn.sameBut sb haC, fun h3 sb3 => ?_⟩
  exact ⟨_, H', I2.turned (t' := s2.toks) (fun b o hb e => (sb3.2 b hb).trans e) f0 f1 f3 f4 f5, q⟩
end
noncomputable def lcLoopX (kp : Gr → Prop) (t : Tg) (c e : Exp) (ρ : En) (fin : List D → Gr → R) : List D → List D → Gr → R
  | [], acc, g => open Classical in if kp g then fin acc g else .no
  | d :: ds, acc, g => open Classical in if kp g ∧ acc.length < sizeLine then (match t d ρ g with
      | some (ρ1, g1) => (match c ρ1 g1 with
        | .ok x g2 => x.br (match e ρ1 g2 with
          | .ok y g3 => lcLoopX kp t c e ρ fin ds (acc ++ [y]) g3
          | .err c g3 => .err c g3
          | .no => .no) (lcLoopX kp t c e ρ fin ds acc g2)
        | .err c g2 => .err c g2
        | .no => .no)
      | none => .no) else .no
noncomputable def eLcX (fin : List D → Gr → R) (s : Src) (vs : List Nat) (t : Tg) (c e : Exp) : Exp := fun ρ g => match s ρ g with
  | .ok ds kp g1 => lcLoopX kp t c e (wipeR ρ vs) fin ds [] g1
  | .err c g1 => .err c g1
  | .no => .no
section
variable {X : Cx} {W : WX} {elt tg iter : Expr} {ifs : List Expr} {scope : Scope} {own : List (Str × Nat)} {pos : Pos} {ms : Src} {mt : Tg} {mc me : Exp} {fin : List D → Gr → R}
theorem read_lcX (hfin : FinOk X.K fin) {σ : L2.St} {H : Hp} {Q : VK} (h : tM X.K W (eLcX fin ms (own.map (·.2)) mt mc me) σ H Q) :
    tLc (tMI X.K W ms) (tMG X.K (own.map (·.2)) mt) (tMT X.K (wAt W σ) mc) (tM X.K (wAt W σ) me) (own.map (·.2)) σ H Q := by
  obtain ⟨w, ρ, g, S0, L, o⟩ := h
  refine ⟨w, ρ, g, S0, L, ?_⟩
  unfold eLcX at o
  generalize hvs : own.map (·.2) = vs at o ⊢
  cases e : ms ρ g with
  | no => simp only [e] at o; exact o
  | err c g1 => simp only [e] at o; exact o
  | ok ds kp g1 =>
    simp only [e] at o
    intro J H1 w1 le1 S1 F Dd hD
    have hrD : w1.fr Dd = none := S1.fx.free hD
    obtain ⟨S2, le2⟩ := S1.aside hD (.lst [])
    refine ⟨fun i m H' => m = ds.length - i ∧ i ≤ ds.length ∧ ∃ wi gi xs acc, w1.Le wi ∧ SG X.K wi gi H' ∧ wi.fr Dd = some (.lst xs) ∧ RepL X.K wi xs acc ∧ Out X.K w1 (lcLoopX kp mt mc me (wipeR ρ vs) fin (ds.drop i) acc gi) Q (fun c d H' => W c d σ H'),
      ⟨ds.length, rfl, Nat.zero_le _, { w1 with fr := upd w1.fr Dd (.lst []) }, g1, [], [], le2, S2, upd_same, by simp only [RepL], o.weak le1⟩, ?_⟩
    rintro i m H' ⟨rfl, hi, wi, gi, xs, acc, lei, Si, hx, rx, oi⟩
    by_cases hlt : i < ds.length
    · rw [List.drop_eq_getElem_cons hlt] at oi
      unfold lcLoopX at oi
      split at oi
      · rename_i hk
        obtain ⟨hk, hz⟩ := hk
        refine .inr ⟨F.go i H' wi gi lei Si hk hlt, fun H3 => ∃ wi gi xs acc, w1.Le wi ∧ SG X.K wi gi H3 ∧ wi.fr Dd = some (.lst xs) ∧ RepL X.K wi xs acc ∧ Out X.K w1 (lcLoopX kp mt mc me (wipeR ρ vs) fin (ds.drop (i + 1)) acc gi) Q (fun c d H' => W c d σ H'), fun H3 z => ⟨ds.length - (i + 1), by omega, rfl, hlt, z⟩, fun x H3 y => ?_⟩
        obtain ⟨w3, le3, S3, r3⟩ := F.yld i H' x H3 wi gi ds[i] lei Si hk (by simp [hlt]) y
        refine ⟨w3, wipeR ρ vs, gi, ds[i], S3, (wipe_sl L vs).mono ((le1.trans lei).trans le3), r3, ?_⟩
        cases e4 : mt ds[i] (wipeR ρ vs) gi with
        | none => simp only [e4] at oi; exact oi
        | some p =>
          obtain ⟨ρ4, g4⟩ := p
          simp only [e4] at oi
          intro σ4 H4 w4 le4 S4 L4 a4
          refine ⟨wipe_agr a4, w4, ρ4, g4, S4, L4, ?_⟩
          cases e5 : mc ρ4 g4 with
          | no => simp only [e5] at oi; exact oi
          | err c g5 => simp only [e5] at oi; exact oi.weak ((lei.trans le3).trans le4)
          | ok b g5 =>
            simp only [e5] at oi
            intro v5 H5 w5 le5 S5 r5
            have up5 : wi.Le w5 := (le3.trans le4).trans le5
            cases b with
            | bl b =>
              refine ⟨b, rep_bl b rfl r5, ?_⟩
              cases b with
              | false =>
                rw [if_neg Bool.false_ne_true]
                exact ⟨w5, g5, xs, acc, lei.trans up5, S5, up5.fr _ _ hx, RepL.mono up5 _ _ rx, oi⟩
              | true =>
                rw [if_pos rfl]
                refine ⟨w5, ρ4, g5, S5, L4.mono le5, ?_⟩
                simp only [D.br] at oi
                cases e6 : me ρ4 g5 with
                | no => simp only [e6] at oi; exact oi
                | err c g6 => simp only [e6] at oi; exact oi.weak (lei.trans up5)
                | ok y6 g6 =>
                  simp only [e6] at oi
                  intro v6 H6 w6 le6 S6 r6
                  have up6 : wi.Le w6 := up5.trans le6
                  have hx6 := up6.fr _ _ hx
                  have rx6 := RepL.mono up6 _ _ rx
                  refine ⟨xs, S6.fx _ _ hx6, by rw [rx.length]; exact hz, { w6 with fr := upd w6.fr Dd (.lst (xs ++ [v6])) }, g6, xs ++ [v6], acc ++ [y6], ⟨lei.ex.trans up6.ex, (lei.trans up6).same, (lei.trans up6).le, fun a u q => ?_⟩, S6.asideSet hx6 _, upd_same, ?_, oi⟩
                  · show upd w6.fr Dd _ a = some u
                    rw [upd_ne (ne_of_none q hrD)]
                    exact (lei.trans up6).fr a u q
                  · have lo : Wd.Lo w6 { w6 with fr := upd w6.fr Dd (.lst (xs ++ [v6])) } := ⟨Exn.refl _, fun _ _ => rfl, Nat.le_refl _⟩
                    exact RepL.mono0 lo _ _ (RepL.app (RepL.one r6) rx6)
            | _ => exact oi.elim
      · exact oi.elim
    · have e1 : i = ds.length := by omega
      subst e1
      rw [List.drop_length] at oi
      unfold lcLoopX at oi
      split at oi
      · rename_i hk
        exact .inl ⟨F.stop _ H' wi gi lei Si hk (Nat.le_refl _), hfin w1 wi gi H' H1 Dd acc xs Q _ lei S1.fx hD Si hx rx oi⟩
      · exact oi.elim
end
section
variable {P : Program} {w : World} {K : PySem.W.Frag} {mg : Str → Option Value} {base : Heap} {N : List Str} {sc scope : Scope} {vi ow vi' ow' : List Nat} {gl gl' : List Str} {top : Bool} {k : Nat} {X : Cx} {W : WX}
theorem Cc.tkF {Z : Sc} (C : Cc P w K mg base Z none k X W) (ht : Z.top = true := by rfl) : TkF X W := TkF.of (C.stk ht).1 (C.stk ht).2 C.tk
theorem Cc.blkX (C : Cc P w K mg base ⟨N, sc, vi, ow, gl, top⟩ none k X W) (s : Shared) (H : Hp) (D : Addr) (cl : List (Str × Addr)) (fp : List Addr) {W' : WX} (tk : L2N.Takes (blkX X s H scope (compEnvC scope cl D X.env) fp) W')
    (ok : (Sc.okV ⟨N, relab sc scope, vi', ow', gl', false⟩ && (Sc.okG ⟨N, relab sc scope, vi', ow', gl', false⟩ && Sc.okS ⟨N, relab sc scope, vi', ow', gl', false⟩ (isCell scope))) = true) :
    Cc P w K mg base ⟨N, relab sc scope, vi', ow', gl', false⟩ none k (Fw.blkX X s H scope (compEnvC scope cl D X.env) fp) W' := by
  simp only [Bool.and_eq_true] at ok
  obtain ⟨o1, o2, o3⟩ := ok
  exact { pP := C.pP, pw := C.pw, pK := C.pK, pm := C.pm, pb := C.pb, nn := C.nn, ss := relab_eq C.ss, nd := C.nd, room := C.room,
          tk := tk, pass := PassesOwn.looking, md := C.calm, okv := o1, okg := o2, oks := o3, stk := fun z => by cases z }
variable {elt tg iter : Expr} {ifs : List Expr} {own : List (Str × Nat)} {pos : Pos} {ms : Src} {mt : Tg} {mc me : Exp} {fin : List D → Gr → R}
theorem xLcX (C : Cc P w K mg base ⟨N, sc, vi, ow, gl, top⟩ none k X W) (tk : TkF X W) (hfin : FinOk X.K fin) (own : List (Str × Nat)) (vi' ow' : List Nat) (gl' : List Str)
    (ok : (blkC N sc scope own && (Sc.okV ⟨N, relab sc scope, vi', ow', gl', false⟩ && (Sc.okG ⟨N, relab sc scope, vi', ow', gl', false⟩ && Sc.okS ⟨N, relab sc scope, vi', ow', gl', false⟩ (isCell scope)))) = true)
    (hi : RSrc X W tg iter ms)
    (hb : ∀ (X' : Cx) (W' : WX), Cc P w K mg base ⟨N, relab sc scope, vi', ow', gl', false⟩ none k X' W' → TkF X' W' → X'.K = X.K → RG X' (own.map (·.2)) tg mt ∧ RTs X' W' ifs mc ∧ RE X' W' elt me)
    (hs : ∀ x, foldedSetIterable iter X.env x = pure x := by intro _; rfl) : RE X W (.ListComp elt [⟨tg, iter, ifs, 0⟩] scope pos) (eLcX fin ms (own.map (·.2)) mt mc me) := by
  obtain ⟨o0, o1⟩ := Bool.and_eq_true_iff.mp ok
  refine pe_weak (pe_lcX (W := W) (g := tMG X.K (own.map fun p : Str × Nat => p.2) mt) (tt := fun σ0 => tMT X.K (wAt W σ0) mc) (te := fun σ0 => tM X.K (wAt W σ0) me) tk C.calm (by rw [C.nn]; exact C.nd) hi (by rw [C.nn, C.ss]; exact blkOk_by o0)
    (fun σ0 s H D cl fp t1 t2 => (hb _ _ (C.blkX s H D cl fp t1 o1) t2 rfl).1) (fun σ0 s H D cl fp t1 t2 => (hb _ _ (C.blkX s H D cl fp t1 o1) t2 rfl).2.1) (fun σ0 s H D cl fp t1 t2 => (hb _ _ (C.blkX s H D cl fp t1 o1) t2 rfl).2.2) hs) fun _ _ _ h => read_lcX hfin h
theorem xSetLcX (C : Cc P w K mg base ⟨N, sc, vi, ow, gl, top⟩ none k X W) (tk : TkF X W) (i : Nat) {y : Str} {py spos : Pos} (hfin : FinOk X.K fin) (own : List (Str × Nat)) (vi' ow' : List Nat) (gl' : List Str)
    (ok : (blkC N sc scope own && (Sc.okV ⟨N, relab sc scope, vi', ow', gl', false⟩ && (Sc.okG ⟨N, relab sc scope, vi', ow', gl', false⟩ && Sc.okS ⟨N, relab sc scope, vi', ow', gl', false⟩ (isCell scope)))) = true)
    (hi : RSrc X W tg iter ms)
    (hb : ∀ (X' : Cx) (W' : WX), Cc P w K mg base ⟨N, relab sc scope, vi', ow', gl', false⟩ none k X' W' → TkF X' W' → X'.K = X.K → RG X' (own.map (·.2)) tg mt ∧ RTs X' W' ifs mc ∧ RE X' W' elt me)
    (hy : N[i]? = some y := by rfl) (hyl : sc.names.lookup y = some .local := by rfl) (hk : sc.kind = .function := by rfl) (hl : (py.line == pos.line) = true := by rfl)
    (ha : (scope.names.any fun (n, k) => n == y && (k == .local || k == .cell)) = false := by decide +kernel) (hs : ∀ x, foldedSetIterable iter X.env x = pure x := by intro _; rfl) :
    RS X W (.Assign [.Name y py] (.ListComp elt [⟨tg, iter, ifs, 0⟩] scope pos) spos) (sAsg (gVar i) (eLcX fin ms (own.map (·.2)) mt mc me)) := by
  obtain ⟨o0, o1⟩ := Bool.and_eq_true_iff.mp ok
  refine ps_weak (ps_setLcX (W := W) (i := i) (g := tMG X.K (own.map fun p : Str × Nat => p.2) mt) (tt := fun σ0 => tMT X.K (wAt W σ0) mc) (te := fun σ0 => tM X.K (wAt W σ0) me) (by rw [C.nn]; exact hy) (by rw [C.ss]; exact hyl) (sw_true (by rw [C.ss]; exact hk) (by rw [C.ss]; exact hyl) hl ha) tk C.calm (by rw [C.nn]; exact C.nd) hi (by rw [C.nn, C.ss]; exact blkOk_by o0)
    (fun σ0 s H D cl fp t1 t2 => (hb _ _ (C.blkX s H D cl fp t1 o1) t2 rfl).1) (fun σ0 s H D cl fp t1 t2 => (hb _ _ (C.blkX s H D cl fp t1 o1) t2 rfl).2.1) (fun σ0 s H D cl fp t1 t2 => (hb _ _ (C.blkX s H D cl fp t1 o1) t2 rfl).2.2) hs) ?_
  rintro Dn σ H ⟨w, ρ, g, S0, L, o⟩
  show tLc (tMI X.K W ms) (tMG X.K (own.map fun p : Str × Nat => p.2) mt) (tMT X.K (wAt W σ) mc) (tM X.K (wAt W σ) me) (own.map (·.2)) σ H (fun x H1 => gName i x σ H1 Dn.nx)
  refine read_lcX hfin ?_
  exact bindSM S0 L o fun d g' v H' w' le S' L' r o' => o' _ _ w' (Wd.Le.refl w') S' (L'.set r)
end
end Fw

set_option maxRecDepth 100000
set_option maxHeartbeats 4000000
namespace Fw
open PySem PySem.Spec PyProof.Rows L2
noncomputable def fLcX (fin : List D → Gr → R) (vs : List Nat) (t : Tg) (c e : Exp) (ρ : En) : RI → R
  | .ok ds kp g => lcLoopX kp t c e (wipeR ρ vs) fin ds [] g
  | .err c g => .err c g
  | .no => .no
section
variable {fin : List D → Gr → R} {vs : List Nat} {t : Tg} {c a : Exp} {ρ : En} {g : Gr} {src : Src} {ds : List D} {kp : Gr → Prop} {e : Str}
theorem v_lcX : eLcX fin src vs t c a ρ g = fLcX fin vs t c a ρ (src ρ g) := by unfold eLcX fLcX; cases src ρ g <;> rfl
theorem w_lcX : fLcX fin vs t c a ρ (.ok ds kp g) = lcLoopX kp t c a (wipeR ρ vs) fin ds [] g := rfl
theorem w_lcXe : fLcX fin vs t c a ρ (.err e g) = .err e g := rfl
end
def runN {α β : Type} (step : β → Option (α × β)) : Nat → β → Option (List α × β)
  | 0, b => some ([], b)
  | n + 1, b => (step b).bind fun p => (runN step n p.2).map fun q => (p.1 :: q.1, q.2)
section
variable {α β : Type} {step : β → Option (α × β)} {val : α → D} {I : β → Gr → Prop} {J : Gr → Prop} {M : β → Nat} {c : Str} {E : Exp} {ρ : En} {i : Nat}
def stepOk (val : α → D) (I : β → Gr → Prop) (J : Gr → Prop) (c : Str) (r : R) : Option (α × β) → Prop
  | some p => ∃ g', r = .ok (val p.1) g' ∧ I p.2 g'
  | none => ∃ g', r = .err c g' ∧ J g'
def loopOk (val : α → D) (I : β → Gr → Prop) (J : Gr → Prop) (c : Str) (acc : List D) (r : R) : Option (List α × β) → Prop
  | some p => ∃ g', r = .ok (.lst (acc ++ p.1.map val)) g' ∧ I p.2 g'
  | none => ∃ g', r = .err c g' ∧ J g'
theorem lcX_run (hE : ∀ b g d, I b g → stepOk val I J c (E (ρ.set i (some d)) g) (step b)) (hM : ∀ b p, step b = some p → M p.2 < M b) :
    ∀ (ds acc : List D) (b : β) (g : Gr), I b g → acc.length + M b ≤ 8000000 → loopOk val I J c acc (lcLoopX kpT (gVar i) eYes E ρ finF ds acc g) (runN step ds.length b)
  | [], acc, b, g, hI, _ => ⟨g, by unfold lcLoopX; exact (if_pos trivial).trans (by simp [finF]), hI⟩
  | d :: ds, acc, b, g, hI, hz => by
    have e0 : lcLoopX kpT (gVar i) eYes E ρ finF (d :: ds) acc g = (match E (ρ.set i (some d)) g with
          | .ok y g3 => lcLoopX kpT (gVar i) eYes E ρ finF ds (acc ++ [y]) g3
          | .err c g3 => .err c g3
          | .no => .no) := by
      rw [lcLoopX, if_pos ⟨trivial, by rw [show sizeLine = 16777216 from by decide]; omega⟩]
      rfl
    rw [e0]
    have h := hE b g d hI
    rw [List.length_cons]
    show loopOk val I J c acc _ ((step b).bind fun p => (runN step ds.length p.2).map fun q => (p.1 :: q.1, q.2))
    cases hs : step b with
    | none =>
      rw [hs] at h
      obtain ⟨g', h1, h2⟩ := h
      rw [h1]
      exact ⟨g', rfl, h2⟩
    | some p =>
      rw [hs] at h
      obtain ⟨g', h1, h2⟩ := h
      rw [h1]
      have hm := hM b p hs
      have ih := lcX_run hE hM ds (acc ++ [val p.1]) p.2 g' h2 (by rw [List.length_append, List.length_singleton]; omega)
      rw [Option.bind_some]
      show loopOk val I J c acc (lcLoopX kpT (gVar i) eYes E ρ finF ds (acc ++ [val p.1]) g') _
      cases hr : runN step ds.length p.2 with
      | none =>
        rw [hr] at ih
        exact ih
      | some q =>
        rw [hr] at ih
        obtain ⟨g2, k1, k2⟩ := ih
        exact ⟨g2, by rw [k1]; simp, k2⟩
end
end Fw

set_option maxRecDepth 100000
set_option maxHeartbeats 4000000
namespace Fw
open PySem PySem.Spec PyProof.Rows L2
def opGtS (d e : D) (g : Gr) : R := match d, e with
  | .str a, .str b => .ok (.bl (!leS a b)) g
  | _, _ => .no
def rGtS : R2 := fun x y H Q => ∃ a b : Str, x = .str a ∧ y = .str b ∧ Q (.bl (!leS a b)) H
theorem gt_leS (a b : Str) : (decide (b.cps.toList < a.cps.toList)) = !leS a b := by
  unfold leS
  rw [PyProof.Rows.ltCps_eq, Bool.not_not]
theorem op_gtS {X : Cx} : OpR X (compareOp .Gt) rGtS := by
  intro pins s σ H x y v u Q I rx ry h
  obtain ⟨a, b, rfl, rfl, hq⟩ := h
  obtain ⟨t, rfl⟩ := rx
  obtain ⟨t', rfl⟩ := ry
  refine PySem.P.gt_str ?_
  rw [gt_leS]
  exact ⟨.bl _, H, I, rfl, hq⟩
theorem s_gtS {X : Cx} : OpS X rGtS opGtS := by
  intro w g H x y d e Q E S0 rx ry o
  unfold opGtS at o
  split at o
  · rename_i a b
    simp only [Rep] at rx ry
    exact ⟨a, b, rx, ry, Out.here o S0 rep_bl'⟩
  · exact o.elim
end Fw

set_option maxRecDepth 100000
set_option maxHeartbeats 0
namespace Ww
open PySem PySem.Spec PyProof.Rows L2 Fw
theorem sc__law_at : FnScope ["_law_script", "_law_k"] ["_law_script", "_law_k"] (defScope s__law_at) := ⟨rfl, rfl, rfl, by decide +kernel, rfl, by decide +kernel, by decide +kernel⟩
noncomputable def b__law_at : Stm := (sRet (eIf (eBin opLt (eVar 1) (eArgs fLen (aCons (eVar 0) aNil))) (eBin opIx (eVar 0) (eVar 1)) (eC (.int 0))))
noncomputable def m__law_at : Fn := pureF (fnOf 2 2 (b__law_at))
theorem sc__law_pot : FnScope ["_law_script", "_law_k", "_law_cell"] ["_law_script", "_law_k"] (defScope s__law_pot) := ⟨rfl, rfl, rfl, by decide +kernel, rfl, by decide +kernel, by decide +kernel⟩
noncomputable def b__law_pot : Stm := (sSeq (sAsg (gVar 2) (eArgs m__law_at (aCons (eVar 0) (aCons (eVar 1) aNil)))) (sRet (eArgs fCel (aCons (eArgs fMax2 (aCons (eC (.int 0)) (aCons (eBin opSub (eVar 2) (eBin opPow (eC (.int 10)) (eC (.int 18)))) aNil))) (aCons (eBin opMod (eBin opAdd (eBin opMod (eVar 2) (eC (.int 2147483629))) (eBin opMul (eC (.int 48271)) (eBin opAdd (eVar 1) (eC (.int 1))))) (eC (.int 2147483629))) aNil)))))
noncomputable def m__law_pot : Fn := fnOf 2 3 (b__law_pot)
theorem sc__law_take : FnScope ["_law_pot_here", "_law_many", "_law_digit"] ["_law_pot_here", "_law_many"] (defScope s__law_take) := ⟨rfl, rfl, rfl, by decide +kernel, rfl, by decide +kernel, by decide +kernel⟩
noncomputable def b__law_take : Stm := (sSeq (sIf (eBin opGt (eBin opIx (eVar 0) (eC (.int 0))) (eC (.int 0))) (sSeq (sAsg (gUnp 2 (gsCons (gSubL (eVar 0) (eC (.int 0))) (gsCons (gVar 2) gsNil))) (eArgs fDivmod (aCons (eBin opIx (eVar 0) (eC (.int 0))) (aCons (eVar 1) aNil)))) (sRet (eVar 2))) sNil) (sSeq (sAsg (gSubL (eVar 0) (eC (.int 1))) (eBin opMod (eBin opAdd (eBin opMul (eBin opIx (eVar 0) (eC (.int 1))) (eC (.int 39373))) (eC (.int 7919))) (eC (.int 2147483629)))) (sRet (eBin opMod (eBin opDiv (eBin opMod (eBin opMul (eBin opIx (eVar 0) (eC (.int 1))) (eBin opIx (eVar 0) (eC (.int 1)))) (eC (.int 2147483563))) (eC (.int 11))) (eVar 1)))))
noncomputable def m__law_take : Fn := fnOf 2 3 (b__law_take)
theorem sc__law_drawn : FnScope ["_law_pot_here", "_law_some"] ["_law_pot_here", "_law_some"] (defScope s__law_drawn) := ⟨rfl, rfl, rfl, by decide +kernel, rfl, by decide +kernel, by decide +kernel⟩
noncomputable def b__law_drawn : Stm := (sRet (eBin opIx (eVar 1) (eArgs m__law_take (aCons (eVar 0) (aCons (eArgs fLen (aCons (eVar 1) aNil)) aNil)))))
noncomputable def m__law_drawn : Fn := fnOf 2 2 (b__law_drawn)
theorem sc__law_name : FnScope ["_law_pot_here", "_law_letters", "_law_k"] ["_law_pot_here"] (defScope s__law_name) := ⟨rfl, rfl, rfl, by decide +kernel, rfl, by decide +kernel, by decide +kernel⟩
noncomputable def b__law_name : Stm := (sSeq (sIf (eBin opLt (eArgs m__law_take (aCons (eVar 0) (aCons (eC (.int 3)) aNil))) (eC (.int 2))) (sRet (eArgs m__law_drawn (aCons (eVar 0) (aCons (eArgs fLst (aCons (eC (.str (tx [97]))) (aCons (eC (.str (tx [98]))) (aCons (eC (.str (tx [99]))) (aCons (eC (.str (tx [97, 98]))) aNil))))) aNil)))) sNil) (sSeq (sAsg (gVar 1) (eC (.str (tx [97, 98, 99, 100, 101, 102, 103, 104, 105, 106, 107, 108, 109, 110, 111, 112, 113, 114, 115, 116, 117, 118, 119, 120, 121, 122])))) (sRet (eBm tyS mJoin (eC (.str (tx []))) (aCons (eLc finF (srcA (aCons (eBin opAdd (eC (.int 1)) (eArgs m__law_take (aCons (eVar 0) (aCons (eC (.int 6)) aNil)))) aNil) iR1) [2] (gVar 2) eYes (eArgs m__law_drawn (aCons (eVar 0) (aCons (eVar 1) aNil)))) aNil)))))
noncomputable def m__law_name : Fn := fnOf 1 3 (b__law_name)
theorem sc__law_names : FnScope ["_law_pot_here", "_law_found", "_law_k", "_law_name_here"] ["_law_pot_here"] (defScope s__law_names) := ⟨rfl, rfl, rfl, by decide +kernel, rfl, by decide +kernel, by decide +kernel⟩
noncomputable def b__law_names : Stm := (sSeq (sAsg (gVar 1) (eArgs fCel aNil)) (sSeq (sFor (srcA (aCons (eBin opAdd (eC (.int 1)) (eArgs m__law_take (aCons (eVar 0) (aCons (eC (.int 4)) aNil)))) aNil) iR1) (gVar 2) (sSeq (sAsg (gVar 3) (eArgs m__law_name (aCons (eVar 0) aNil))) (sIf (eBin opNotIn (eVar 3) (eVar 1)) (sDo (eBm tyL mAppend (eVar 1) (aCons (eVar 3) aNil))) sNil))) (sRet (eFrz (eVar 1)))))
noncomputable def m__law_names : Fn := fnOf 1 4 (b__law_names)
theorem sc__law_birth : FnScope ["_law_pot_here"] ["_law_pot_here"] (defScope s__law_birth) := ⟨rfl, rfl, rfl, by decide +kernel, rfl, by decide +kernel, by decide +kernel⟩
noncomputable def b__law_birth : Stm := (sRet (eArgs m__law_take (aCons (eVar 0) (aCons (eArgs m__law_drawn (aCons (eVar 0) (aCons (eArgs fLst (aCons (eC (.int 12)) (aCons (eC (.int 12)) (aCons (eC (.int 1000)) (aCons (eBin opPow (eC (.int 10)) (eC (.int 18))) aNil))))) aNil))) aNil))))
noncomputable def m__law_birth : Fn := fnOf 1 1 (b__law_birth)
theorem sc__law_model : FnScope ["_law_pot_here", "_law_model_here", "_law_name_here", "_law_wide", "_law_many", "_law_k"] ["_law_pot_here"] (defScope s__law_model) := ⟨rfl, rfl, rfl, by decide +kernel, rfl, by decide +kernel, by decide +kernel⟩
noncomputable def b__law_model : Stm := (sSeq (sAsg (gVar 1) (eDic)) (sSeq (sFor (srcOf (eSlU (eArgs m__law_names (aCons (eVar 0) aNil)) (eArgs m__law_take (aCons (eVar 0) (aCons (eC (.int 4)) aNil)))) iA) (gVar 2) (sSeq (sAsg (gVar 3) (eArgs m__law_drawn (aCons (eVar 0) (aCons (eArgs fLst (aCons (eC (.int 3)) (aCons (eC (.int 3)) (aCons (eC (.int 12)) (aCons (eC (.int 60)) aNil))))) aNil)))) (sSeq (sAsg (gVar 4) (eBin opAdd (eC (.int 1)) (eArgs m__law_take (aCons (eVar 0) (aCons (eVar 3) aNil))))) (sAsg (gSubD (eVar 1) (eVar 2)) (eLc finF (srcA (aCons (eVar 4) aNil) iR1) [5] (gVar 5) eYes (eIf (eBin opGt (eVar 3) (eC (.int 12))) (eArgs m__law_take (aCons (eVar 0) (aCons (eC (.int 90)) aNil))) (eArgs m__law_birth (aCons (eVar 0) aNil)))))))) (sRet (eVar 1))))
noncomputable def m__law_model : Fn := fnOf 1 6 (b__law_model)
theorem sc__law_models : FnScope ["_law_pot_here", "_law_kept", "_law_k"] ["_law_pot_here"] (defScope s__law_models) := ⟨rfl, rfl, rfl, by decide +kernel, rfl, by decide +kernel, by decide +kernel⟩
noncomputable def b__law_models : Stm := (sSeq (sAsg (gVar 1) (eDic)) (sSeq (sFor (srcA (aCons (eArgs m__law_take (aCons (eVar 0) (aCons (eC (.int 4)) aNil))) aNil) iR1) (gVar 2) (sAsg (gSubD (eVar 1) (eArgs m__law_name (aCons (eVar 0) aNil))) (eArgs m__law_model (aCons (eVar 0) aNil)))) (sRet (eArgs fTup (aCons (eArgs m__law_model (aCons (eVar 0) aNil)) (aCons (eVar 1) aNil))))))
noncomputable def m__law_models : Fn := fnOf 1 3 (b__law_models)
theorem sc__law_words : FnScope ["_law_model_here", "_law_words_here", "_law_name_here", "_law_birth_here"] ["_law_model_here"] (defScope s__law_words) := ⟨rfl, rfl, rfl, by decide +kernel, rfl, by decide +kernel, by decide +kernel⟩
noncomputable def b__law_words : Stm := (sSeq (sAsg (gVar 1) (eArgs fLst (aCons (eArgs fStr (aCons (eArgs fLenD (aCons (eVar 0) aNil)) aNil)) aNil))) (sSeq (sFor (srcOf (eArgs (fSrtK false) (aCons (eVar 0) aNil)) iA) (gVar 2) (sAsg (gVar 1) (eBin opAdd (eBin opAdd (eVar 1) (eArgs fLst (aCons (eVar 2) (aCons (eArgs fStr (aCons (eArgs fLen (aCons (eBin opDGet (eVar 0) (eVar 2)) aNil)) aNil)) aNil)))) (eLc finF (srcOf (eBin opDGet (eVar 0) (eVar 2)) iA) [3] (gVar 3) eYes (eArgs fStr (aCons (eVar 3) aNil)))))) (sRet (eVar 1))))
noncomputable def m__law_words : Fn := pureF (fnOf 1 4 (b__law_words))
theorem sc__law_text : FnScope ["_law_model_here", "_law_kept", "_law_words_here", "_law_name_here"] ["_law_model_here", "_law_kept"] (defScope s__law_text) := ⟨rfl, rfl, rfl, by decide +kernel, rfl, by decide +kernel, by decide +kernel⟩
noncomputable def b__law_text : Stm := (sSeq (sAsg (gVar 2) (eBin opAdd (eArgs m__law_words (aCons (eVar 0) aNil)) (eArgs fLst (aCons (eArgs fStr (aCons (eArgs fLenD (aCons (eVar 1) aNil)) aNil)) aNil)))) (sSeq (sFor (srcOf (eArgs (fSrtK false) (aCons (eVar 1) aNil)) iA) (gVar 3) (sAsg (gVar 2) (eBin opAdd (eBin opAdd (eVar 2) (eArgs fLst (aCons (eVar 3) aNil))) (eArgs m__law_words (aCons (eBin opDGet (eVar 1) (eVar 3)) aNil))))) (sRet (eBm tyS mJoin (eC (.str (tx [32]))) (aCons (eVar 2) aNil)))))
noncomputable def m__law_text : Fn := pureF (fnOf 2 4 (b__law_text))
theorem sc__law_is_number : FnScope ["_law_word", "_law_sign"] ["_law_word"] (defScope s__law_is_number) := ⟨rfl, rfl, rfl, by decide +kernel, rfl, by decide +kernel, by decide +kernel⟩
noncomputable def b__law_is_number : Stm := (sSeq (sIf (eOr (eBin opEq (eVar 0) (eC (.str (tx [])))) (eOr (eBin opGt (eArgs fLen (aCons (eVar 0) aNil)) (eC (.int 18))) (eBin opNe (eLc finF (srcOf (eVar 0) iA) [1] (gVar 1) (eBin opNotIn (eVar 1) (eC (.str (tx [48, 49, 50, 51, 52, 53, 54, 55, 56, 57])))) (eVar 1)) (eArgs fLst aNil)))) (sRet (eC (.bl false))) sNil) (sRet ((eOr (eBin opEq (eVar 0) (eC (.str (tx [48])))) (eBin opNe (eBin opIx (eVar 0) (eC (.int 0))) (eC (.str (tx [48]))))))))
noncomputable def m__law_is_number : Fn := pureF (fnOf 1 2 (b__law_is_number))
theorem sc__law_other_word : FnScope ["_law_pot_here", "_law_word", "_law_some", "_law_number"] ["_law_pot_here", "_law_word"] (defScope s__law_other_word) := ⟨rfl, rfl, rfl, by decide +kernel, rfl, by decide +kernel, by decide +kernel⟩
noncomputable def b__law_other_word : Stm := (sSeq (sAsg (gVar 2) (eArgs fLst (aCons (eC (.str (tx [48]))) (aCons (eC (.str (tx [49]))) (aCons (eC (.str (tx [50]))) (aCons (eC (.str (tx [97]))) (aCons (eC (.str (tx [97, 98]))) (aCons (eC (.str (tx [122, 122]))) (aCons (eC (.str (tx [65]))) (aCons (eC (.str (tx [97, 98, 99, 100, 101, 102, 103]))) (aCons (eC (.str (tx [97, 49]))) (aCons (eC (.str (tx [45, 49]))) (aCons (eC (.str (tx [43, 49]))) (aCons (eC (.str (tx [49, 46]))) (aCons (eC (.str (tx [48, 120, 49]))) (aCons (eC (.str (tx []))) (aCons (eBin opMulS (eC (.str (tx [57]))) (eC (.int 18))) (aCons (eBin opAdd (eC (.str (tx [49]))) (eBin opMulS (eC (.str (tx [48]))) (eC (.int 18)))) aNil)))))))))))))))))) (sSeq (sIf (eArgs m__law_is_number (aCons (eVar 1) aNil)) (sSeq (sAsg (gVar 3) (eArgs fInt (aCons (eVar 1) aNil))) (sAsg (gVar 2) (eBin opAdd (eVar 2) (eArgs fLst (aCons (eArgs fStr (aCons (eBin opAdd (eVar 3) (eC (.int 1))) aNil)) (aCons (eArgs fStr (aCons (eArgs fMax2 (aCons (eC (.int 0)) (aCons (eBin opSub (eVar 3) (eC (.int 1))) aNil))) aNil)) (aCons (eBin opAdd (eC (.str (tx [48]))) (eVar 1)) (aCons (eArgs fStr (aCons (eBin opAdd (eVar 3) (eC (.int 1))) aNil)) (aCons (eArgs fStr (aCons (eArgs fMax2 (aCons (eC (.int 0)) (aCons (eBin opSub (eVar 3) (eC (.int 1))) aNil))) aNil)) aNil))))))))) sNil) (sRet (eArgs m__law_drawn (aCons (eVar 0) (aCons (eVar 2) aNil))))))
noncomputable def m__law_other_word : Fn := fnOf 2 4 (b__law_other_word)
theorem sc__law_spoilt : FnScope ["_law_pot_here", "_law_text_here", "_law_words_here", "_law_at_here", "_law_other", "_law_way", "_law_word", "_law_spot"] ["_law_pot_here", "_law_text_here"] (defScope s__law_spoilt) := ⟨rfl, rfl, rfl, by decide +kernel, rfl, by decide +kernel, by decide +kernel⟩
noncomputable def b__law_spoilt : Stm := (sSeq (sAsg (gVar 2) (eBm tyS mSplitC (eVar 1) (aCons (eC (.str (tx [32]))) aNil))) (sSeq (sAsg (gVar 3) (eArgs m__law_take (aCons (eVar 0) (aCons (eArgs fLen (aCons (eVar 2) aNil)) aNil)))) (sSeq (sAsg (gVar 4) (eArgs m__law_take (aCons (eVar 0) (aCons (eArgs fLen (aCons (eVar 2) aNil)) aNil)))) (sSeq (sAsg (gVar 5) (eArgs m__law_take (aCons (eVar 0) (aCons (eC (.int 6)) aNil)))) (sSeq (sIf (eBin opEq (eVar 5) (eC (.int 0))) (sRet (eBm tyS mJoin (eC (.str (tx [32]))) (aCons (eBin opAdd (eSlU (eVar 2) (eVar 3)) (eSlL (eVar 2) (eBin opAdd (eVar 3) (eC (.int 1))))) aNil))) sNil) (sSeq (sIf (eBin opEq (eVar 5) (eC (.int 1))) (sRet (eBm tyS mJoin (eC (.str (tx [32]))) (aCons (eBin opAdd (eBin opAdd (eSlU (eVar 2) (eVar 3)) (eArgs fLst (aCons (eBin opIx (eVar 2) (eVar 4)) aNil))) (eSlL (eVar 2) (eVar 3))) aNil))) sNil) (sSeq (sIf (eBin opEq (eVar 5) (eC (.int 2))) (sSeq (sAsg (gVar 6) (eBin opIx (eVar 2) (eVar 3))) (sSeq (sAsg (gSubL (eVar 2) (eVar 3)) (eBin opIx (eVar 2) (eVar 4))) (sSeq (sAsg (gSubL (eVar 2) (eVar 4)) (eVar 6)) (sRet (eBm tyS mJoin (eC (.str (tx [32]))) (aCons (eVar 2) aNil)))))) sNil) (sSeq (sIf (eBin opLt (eVar 5) (eC (.int 5))) (sSeq (sAsg (gSubL (eVar 2) (eVar 3)) (eArgs m__law_other_word (aCons (eVar 0) (aCons (eBin opIx (eVar 2) (eVar 3)) aNil)))) (sRet (eBm tyS mJoin (eC (.str (tx [32]))) (aCons (eVar 2) aNil)))) sNil) (sSeq (sAsg (gVar 7) (eArgs m__law_take (aCons (eVar 0) (aCons (eBin opAdd (eArgs fLen (aCons (eVar 1) aNil)) (eC (.int 1))) aNil)))) (sRet (eBin opAdd (eBin opAdd (eSlU (eVar 1) (eVar 7)) (eArgs m__law_drawn (aCons (eVar 0) (aCons (eArgs fLst (aCons (eC (.str (tx []))) (aCons (eC (.str (tx [32]))) (aCons (eC (.str (tx [48]))) (aCons (eC (.str (tx [97]))) (aCons (eC (.str (tx [10]))) (aCons (eC (.str (tx [90]))) (aCons (eC (.str (tx [95]))) aNil)))))))) aNil)))) (eSlL (eVar 1) (eBin opAdd (eVar 7) (eArgs m__law_take (aCons (eVar 0) (aCons (eC (.int 2)) aNil))))))))))))))))
noncomputable def m__law_spoilt : Fn := fnOf 2 8 (b__law_spoilt)
theorem sc__law_is_name : FnScope ["_law_word", "_law_sign"] ["_law_word"] (defScope s__law_is_name) := ⟨rfl, rfl, rfl, by decide +kernel, rfl, by decide +kernel, by decide +kernel⟩
noncomputable def b__law_is_name : Stm := (sSeq (sIf (eBin opNotIn (eArgs fLen (aCons (eVar 0) aNil)) (eArgs fTup (aCons (eC (.int 1)) (aCons (eC (.int 2)) (aCons (eC (.int 3)) (aCons (eC (.int 4)) (aCons (eC (.int 5)) (aCons (eC (.int 6)) aNil)))))))) (sRet (eC (.bl false))) sNil) (sRet (eBin opEq (eLc finF (srcOf (eVar 0) iA) [1] (gVar 1) (eBin opNotIn (eVar 1) (eC (.str (tx [97, 98, 99, 100, 101, 102, 103, 104, 105, 106, 107, 108, 109, 110, 111, 112, 113, 114, 115, 116, 117, 118, 119, 120, 121, 122])))) (eVar 1)) (eArgs fLst aNil))))
noncomputable def m__law_is_name : Fn := pureF (fnOf 1 2 (b__law_is_name))
theorem sc__law_model_in : FnScope ["_law_words_here", "_law_at_here", "_law_many", "_law_model_here", "_law_ahead", "_law_births", "_law_birth_here"] ["_law_words_here", "_law_at_here"] (defScope s__law_model_in) := ⟨rfl, rfl, rfl, by decide +kernel, rfl, by decide +kernel, by decide +kernel⟩
noncomputable def b__law_model_in : Stm := (sSeq (sIf (eOr (eBin opGe (eVar 1) (eArgs fLen (aCons (eVar 0) aNil))) (eNot (eArgs m__law_is_number (aCons (eBin opIx (eVar 0) (eVar 1)) aNil)))) (sRet (eArgs fTup (aCons (eC .non) (aCons (eVar 1) aNil)))) sNil) (sSeq (sAsg (gVar 2) (eArgs fInt (aCons (eBin opIx (eVar 0) (eVar 1)) aNil))) (sSeq (sAsg (gVar 1) (eBin opAdd (eVar 1) (eC (.int 1)))) (sSeq (sAsg (gVar 3) (eDic)) (sSeq (sAsg (gVar 4) (eC (.str (tx [])))) (sSeq (sWhile (eBin opLt (eArgs fLenD (aCons (eVar 3) aNil)) (eVar 2)) (sSeq (sIf (eOr (eBin opGe (eBin opAdd (eVar 1) (eC (.int 1))) (eArgs fLen (aCons (eVar 0) aNil))) (eOr (eNot (eArgs m__law_is_name (aCons (eBin opIx (eVar 0) (eVar 1)) aNil))) (eNot (eBin opGtS (eBin opIx (eVar 0) (eVar 1)) (eVar 4))))) (sRet (eArgs fTup (aCons (eC .non) (aCons (eVar 1) aNil)))) sNil) (sSeq (sAsg (gVar 4) (eBin opIx (eVar 0) (eVar 1))) (sSeq (sIf (eOr (eNot (eArgs m__law_is_number (aCons (eBin opIx (eVar 0) (eBin opAdd (eVar 1) (eC (.int 1)))) aNil))) (eBin opEq (eBin opIx (eVar 0) (eBin opAdd (eVar 1) (eC (.int 1)))) (eC (.str (tx [48]))))) (sRet (eArgs fTup (aCons (eC .non) (aCons (eVar 1) aNil)))) sNil) (sSeq (sAsg (gVar 5) (eSlLU (eVar 0) (eBin opAdd (eVar 1) (eC (.int 2))) (eBin opAdd (eBin opAdd (eVar 1) (eC (.int 2))) (eArgs fMin2 (aCons (eArgs fInt (aCons (eBin opIx (eVar 0) (eBin opAdd (eVar 1) (eC (.int 1)))) aNil)) (aCons (eC (.int 999)) aNil)))))) (sSeq (sIf (eOr (eBin opNe (eArgs fLen (aCons (eVar 5) aNil)) (eArgs fInt (aCons (eBin opIx (eVar 0) (eBin opAdd (eVar 1) (eC (.int 1)))) aNil))) (eNot (eArgs fAll (aCons (eLc finF (srcOf (eVar 5) iA) [6] (gVar 6) eYes (eArgs m__law_is_number (aCons (eVar 6) aNil))) aNil)))) (sRet (eArgs fTup (aCons (eC .non) (aCons (eVar 1) aNil)))) sNil) (sSeq (sAsg (gSubD (eVar 3) (eVar 4)) (eLc finF (srcOf (eVar 5) iA) [6] (gVar 6) eYes (eArgs fInt (aCons (eVar 6) aNil)))) (sAsg (gVar 1) (eBin opAdd (eBin opAdd (eVar 1) (eC (.int 2))) (eArgs fLen (aCons (eVar 5) aNil))))))))))) (sRet (eArgs fTup (aCons (eVar 3) (aCons (eVar 1) aNil))))))))))
noncomputable def m__law_model_in : Fn := fnOf 2 7 (b__law_model_in)
theorem sc__law_kept_in : FnScope ["_law_words_here", "_law_at_here", "_law_many", "_law_kept", "_law_ahead", "_law_model_here"] ["_law_words_here", "_law_at_here"] (defScope s__law_kept_in) := ⟨rfl, rfl, rfl, by decide +kernel, rfl, by decide +kernel, by decide +kernel⟩
noncomputable def b__law_kept_in : Stm := (sSeq (sIf (eOr (eBin opGe (eVar 1) (eArgs fLen (aCons (eVar 0) aNil))) (eNot (eArgs m__law_is_number (aCons (eBin opIx (eVar 0) (eVar 1)) aNil)))) (sRet (eC .non)) sNil) (sSeq (sAsg (gVar 2) (eArgs fInt (aCons (eBin opIx (eVar 0) (eVar 1)) aNil))) (sSeq (sAsg (gVar 1) (eBin opAdd (eVar 1) (eC (.int 1)))) (sSeq (sAsg (gVar 3) (eDic)) (sSeq (sAsg (gVar 4) (eC (.str (tx [])))) (sSeq (sWhile (eBin opLt (eArgs fLenD (aCons (eVar 3) aNil)) (eVar 2)) (sSeq (sIf (eOr (eBin opGe (eVar 1) (eArgs fLen (aCons (eVar 0) aNil))) (eOr (eNot (eArgs m__law_is_name (aCons (eBin opIx (eVar 0) (eVar 1)) aNil))) (eNot (eBin opGtS (eBin opIx (eVar 0) (eVar 1)) (eVar 4))))) (sRet (eC .non)) sNil) (sSeq (sAsg (gVar 4) (eBin opIx (eVar 0) (eVar 1))) (sSeq (sAsg (gUnp 2 (gsCons (gVar 5) (gsCons (gVar 1) gsNil))) (eArgs m__law_model_in (aCons (eVar 0) (aCons (eBin opAdd (eVar 1) (eC (.int 1))) aNil)))) (sSeq (sIf (eBin opIsN (eVar 5) (eC .non)) (sRet (eC .non)) sNil) (sAsg (gSubD (eVar 3) (eVar 4)) (eVar 5))))))) (sRet (eIf (eBin opEq (eVar 1) (eArgs fLen (aCons (eVar 0) aNil))) (eVar 3) (eC .non)))))))))
noncomputable def m__law_kept_in : Fn := fnOf 2 6 (b__law_kept_in)
theorem sc__law_due : FnScope ["_law_text_here", "_law_words_here", "_law_model_here", "_law_at_here", "_law_kept"] ["_law_text_here"] (defScope s__law_due) := ⟨rfl, rfl, rfl, by decide +kernel, rfl, by decide +kernel, by decide +kernel⟩
noncomputable def b__law_due : Stm := (sSeq (sIf (eNot (eUn (opIsT "str") (eVar 0))) (sRet (eC .non)) sNil) (sSeq (sAsg (gVar 1) (eBm tyS mSplit (eVar 0) (aCons (eC (.str (tx [32]))) aNil))) (sSeq (sAsg (gUnp 2 (gsCons (gVar 2) (gsCons (gVar 3) gsNil))) (eArgs m__law_model_in (aCons (eVar 1) (aCons (eC (.int 0)) aNil)))) (sSeq (sAsg (gVar 4) (eIf (eBin opIsN (eVar 2) (eC .non)) (eC .non) (eArgs m__law_kept_in (aCons (eVar 1) (aCons (eVar 3) aNil))))) (sRet (eIf (eBin opIsN (eVar 4) (eC .non)) (eC .non) (eArgs fTup (aCons (eVar 2) (aCons (eVar 4) aNil)))))))))
noncomputable def m__law_due : Fn := fnOf 1 5 (b__law_due)
theorem sc_FilesReader_next_word : FnScope ["self"] ["self"] (defScope s_FilesReader_next_word) := ⟨rfl, rfl, rfl, by decide +kernel, rfl, by decide +kernel, by decide +kernel⟩
noncomputable def b_FilesReader_next_word : Stm := (sSeq (sIf (eBin opEq (eFld ["FilesReader"] "at" (eVar 0)) (eArgs fLen (aCons (eFld ["FilesReader"] "words" (eVar 0)) aNil))) (sRaise "NoFiles") sNil) (sSeq (sFldA ["FilesReader"] "at" dAdd (eVar 0) (eC (.int 1))) (sRet (eBin opIx (eFld ["FilesReader"] "words" (eVar 0)) (eBin opSub (eFld ["FilesReader"] "at" (eVar 0)) (eC (.int 1)))))))
noncomputable def m_FilesReader_next_word : Fn := fnOf 1 1 (b_FilesReader_next_word)
theorem sc_is_made_of : FnScope ["text", "signs", "most", "sign"] ["text", "signs", "most"] (defScope s_is_made_of) := ⟨rfl, rfl, rfl, by decide +kernel, rfl, by decide +kernel, by decide +kernel⟩
noncomputable def b_is_made_of : Stm := (sRet ((eAnd (eChain opLe opLe (eC (.int 1)) (eArgs fLen (aCons (eVar 0) aNil)) (eVar 2)) (eArgs fAll (aCons (eLc finF (srcOf (eVar 0) iA) [3] (gVar 3) eYes (eBin opIn (eVar 3) (eVar 1))) aNil)))))
noncomputable def m_is_made_of : Fn := pureF (fnOf 3 4 (b_is_made_of))
theorem sc_is_number : FnScope ["text"] ["text"] (defScope s_is_number) := ⟨rfl, rfl, rfl, by decide +kernel, rfl, by decide +kernel, by decide +kernel⟩
noncomputable def b_is_number : Stm := (sRet ((eAnd (eArgs m_is_made_of (aCons (eVar 0) (aCons (eC (.str (tx [48, 49, 50, 51, 52, 53, 54, 55, 56, 57]))) (aCons (eC (.int 18)) aNil)))) ((eOr (eBin opNe (eBin opIx (eVar 0) (eC (.int 0))) (eC (.str (tx [48])))) (eBin opEq (eVar 0) (eC (.str (tx [48])))))))))
noncomputable def m_is_number : Fn := pureF (fnOf 1 1 (b_is_number))
theorem sc_FilesReader_number : FnScope ["self", "word"] ["self"] (defScope s_FilesReader_number) := ⟨rfl, rfl, rfl, by decide +kernel, rfl, by decide +kernel, by decide +kernel⟩
noncomputable def b_FilesReader_number : Stm := (sSeq (sAsg (gVar 1) (eMeth ["FilesReader"] "next_word" m_FilesReader_next_word (eVar 0) aNil)) (sSeq (sIf (eNot (eArgs m_is_number (aCons (eVar 1) aNil))) (sRaise "NoFiles") sNil) (sRet (eArgs fInt (aCons (eVar 1) aNil)))))
noncomputable def m_FilesReader_number : Fn := fnOf 1 2 (b_FilesReader_number)
theorem sc_is_name : FnScope ["text"] ["text"] (defScope s_is_name) := ⟨rfl, rfl, rfl, by decide +kernel, rfl, by decide +kernel, by decide +kernel⟩
noncomputable def b_is_name : Stm := (sRet (eArgs m_is_made_of (aCons (eVar 0) (aCons (eC (.str (tx [97, 98, 99, 100, 101, 102, 103, 104, 105, 106, 107, 108, 109, 110, 111, 112, 113, 114, 115, 116, 117, 118, 119, 120, 121, 122]))) (aCons (eC (.int 6)) aNil)))))
noncomputable def m_is_name : Fn := pureF (fnOf 1 1 (b_is_name))
theorem sc_FilesReader_name : FnScope ["self", "word"] ["self"] (defScope s_FilesReader_name) := ⟨rfl, rfl, rfl, by decide +kernel, rfl, by decide +kernel, by decide +kernel⟩
noncomputable def b_FilesReader_name : Stm := (sSeq (sAsg (gVar 1) (eMeth ["FilesReader"] "next_word" m_FilesReader_next_word (eVar 0) aNil)) (sSeq (sIf (eNot (eArgs m_is_name (aCons (eVar 1) aNil))) (sRaise "NoFiles") sNil) (sRet (eVar 1))))
noncomputable def m_FilesReader_name : Fn := fnOf 1 2 (b_FilesReader_name)
theorem sc_FilesReader_files_told : FnScope ["self", "k", "place"] ["self"] (defScope s_FilesReader_files_told) := ⟨rfl, rfl, rfl, by decide +kernel, rfl, by decide +kernel, by decide +kernel⟩
noncomputable def b_FilesReader_files_told : Stm := (sRet (eLcX finF (srcA (aCons (eMeth ["FilesReader"] "number" m_FilesReader_number (eVar 0) aNil) aNil) iR1) [1] (gVar 1) eYes (eArgs fTup (aCons (eMeth ["FilesReader"] "name" m_FilesReader_name (eVar 0) aNil) (aCons (eLcX finF (srcA (aCons (eMeth ["FilesReader"] "number" m_FilesReader_number (eVar 0) aNil) aNil) iR1) [2] (gVar 2) eYes (eMeth ["FilesReader"] "number" m_FilesReader_number (eVar 0) aNil)) aNil)))))
noncomputable def m_FilesReader_files_told : Fn := fnOf 1 3 (b_FilesReader_files_told)
theorem sc_Files___init__ : FnScope ["self"] ["self"] (defScope s_Files___init__) := ⟨rfl, rfl, rfl, by decide +kernel, rfl, by decide +kernel, by decide +kernel⟩
noncomputable def b_Files___init__ : Stm := (sSeq (sFldM ["Files"] "own_births" (eVar 0) (eDic)) (sFldM ["Files"] "own_held" (eVar 0) (eDic)))
noncomputable def m_Files___init__ : Fn := fnOf 1 1 (b_Files___init__)
theorem sc_Files_names : FnScope ["self"] ["self"] (defScope s_Files_names) := ⟨rfl, rfl, rfl, by decide +kernel, rfl, by decide +kernel, by decide +kernel⟩
noncomputable def b_Files_names : Stm := (sRet (eArgs (fSrtK true) (aCons (eFld ["Files"] "own_births" (eVar 0)) aNil)))
noncomputable def m_Files_names : Fn := fnOf 1 1 (b_Files_names)
theorem sc_Files_births_of : FnScope ["self", "file"] ["self", "file"] (defScope s_Files_births_of) := ⟨rfl, rfl, rfl, by decide +kernel, rfl, by decide +kernel, by decide +kernel⟩
noncomputable def b_Files_births_of : Stm := (sSeq (sIf (eBin (opDIn true) (eVar 1) (eFld ["Files"] "own_births" (eVar 0))) (sRaise "NoFile") sNil) (sRet (eBin opDGet (eFld ["Files"] "own_births" (eVar 0)) (eVar 1))))
noncomputable def m_Files_births_of : Fn := fnOf 2 2 (b_Files_births_of)
theorem sc_Files_cut : FnScope ["self", "file", "many", "births"] ["self", "file", "many"] (defScope s_Files_cut) := ⟨rfl, rfl, rfl, by decide +kernel, rfl, by decide +kernel, by decide +kernel⟩
noncomputable def b_Files_cut : Stm := (sSeq (sAsg (gVar 3) (eMeth ["Files"] "births_of" m_Files_births_of (eVar 0) (aCons (eVar 1) aNil))) (sSeq (sIf (eNot (eChain opLe opLe (eC (.int 0)) (eVar 2) (eArgs fLen (aCons (eVar 3) aNil)))) (sRaise "NoPlace") sNil) (sSeq (sAsg (gSubD (eFld ["Files"] "own_births" (eVar 0)) (eVar 1)) (eSlU (eVar 3) (eVar 2))) (sIf (eBin opEq (eVar 2) (eC (.int 0))) (sDo (eBm tyDc mDPop (eFld ["Files"] "own_births" (eVar 0)) (aCons (eVar 1) aNil))) sNil))))
noncomputable def m_Files_cut : Fn := fnOf 3 4 (b_Files_cut)
theorem sc_Files_put : FnScope ["self", "file", "place", "birth", "births"] ["self", "file", "place", "birth"] (defScope s_Files_put) := ⟨rfl, rfl, rfl, by decide +kernel, rfl, by decide +kernel, by decide +kernel⟩
noncomputable def b_Files_put : Stm := (sSeq (sAsg (gVar 4) (eBm tyDc mDGet2 (eFld ["Files"] "own_births" (eVar 0)) (aCons (eVar 1) (aCons (eArgs fLst aNil) aNil)))) (sSeq (sIf (eNot (eChain opLe opLe (eC (.int 0)) (eVar 2) (eArgs fLen (aCons (eVar 4) aNil)))) (sRaise "NoPlace") sNil) (sAsg (gSubD (eFld ["Files"] "own_births" (eVar 0)) (eVar 1)) (eBin opAdd (eBin opAdd (eSlU (eVar 4) (eVar 2)) (eArgs fLst (aCons (eVar 3) aNil))) (eSlL (eVar 4) (eBin opAdd (eVar 2) (eC (.int 1))))))))
noncomputable def m_Files_put : Fn := fnOf 4 5 (b_Files_put)
theorem sc_files_with : FnScope ["found", "told", "file", "births", "place", "birth"] ["found", "told"] (defScope s_files_with) := ⟨rfl, rfl, rfl, by decide +kernel, rfl, by decide +kernel, by decide +kernel⟩
noncomputable def b_files_with : Stm := (sSeq (sFor (srcOf (eMeth ["Files"] "names" m_Files_names (eVar 0) aNil) iA) (gVar 2) (sDo (eMeth ["Files"] "cut" m_Files_cut (eVar 0) (aCons (eVar 2) (aCons (eC (.int 0)) aNil))))) (sFor (srcOf (eVar 1) iA) (gUnp 2 (gsCons (gVar 2) (gsCons (gVar 3) gsNil))) (sFor (srcA (aCons (eVar 3) aNil) iEA) (gUnp 2 (gsCons (gVar 4) (gsCons (gVar 5) gsNil))) (sDo (eMeth ["Files"] "put" m_Files_put (eVar 0) (aCons (eVar 2) (aCons (eVar 4) (aCons (eVar 5) aNil))))))))
noncomputable def m_files_with : Fn := fnOf 2 6 (b_files_with)
theorem sc_Files_held : FnScope ["self"] ["self"] (defScope s_Files_held) := ⟨rfl, rfl, rfl, by decide +kernel, rfl, by decide +kernel, by decide +kernel⟩
noncomputable def b_Files_held : Stm := (sRet (eArgs (fSrtK true) (aCons (eFld ["Files"] "own_held" (eVar 0)) aNil)))
noncomputable def m_Files_held : Fn := fnOf 1 1 (b_Files_held)
theorem sc_Files_hold : FnScope ["self", "name"] ["self", "name"] (defScope s_Files_hold) := ⟨rfl, rfl, rfl, by decide +kernel, rfl, by decide +kernel, by decide +kernel⟩
noncomputable def b_Files_hold : Stm := (sSeq (sIf (eBin (opDIn false) (eVar 1) (eFld ["Files"] "own_held" (eVar 0))) (sRaise "HeldAlready") sNil) (sAsg (gSubD (eFld ["Files"] "own_held" (eVar 0)) (eVar 1)) (eArgs fDicO (aCons (eFld ["Files"] "own_births" (eVar 0)) aNil))))
noncomputable def m_Files_hold : Fn := fnOf 2 2 (b_Files_hold)
theorem sc_files_read : FnScope ["reader", "own", "held", "found", "name", "told", "k"] ["reader"] (defScope s_files_read) := ⟨rfl, rfl, rfl, by decide +kernel, rfl, by decide +kernel, by decide +kernel⟩
noncomputable def b_files_read : Stm := (sSeq (sAsg (gVar 1) (eMeth ["FilesReader"] "files_told" m_FilesReader_files_told (eVar 0) aNil)) (sSeq (sAsg (gVar 2) (eLcX finF (srcA (aCons (eMeth ["FilesReader"] "number" m_FilesReader_number (eVar 0) aNil) aNil) iR1) [6] (gVar 6) eYes (eArgs fTup (aCons (eMeth ["FilesReader"] "name" m_FilesReader_name (eVar 0) aNil) (aCons (eMeth ["FilesReader"] "files_told" m_FilesReader_files_told (eVar 0) aNil) aNil))))) (sSeq (sAsg (gVar 3) (eMake "Files" m_Files___init__ aNil)) (sSeq (sFor (srcOf (eVar 2) iA) (gUnp 2 (gsCons (gVar 4) (gsCons (gVar 5) gsNil))) (sSeq (sDo (eArgs m_files_with (aCons (eVar 3) (aCons (eVar 5) aNil)))) (sSeq (sIf (eBin opIn (eVar 4) (eMeth ["Files"] "held" m_Files_held (eVar 3) aNil)) (sRaise "NoFiles") sNil) (sDo (eMeth ["Files"] "hold" m_Files_hold (eVar 3) (aCons (eVar 4) aNil)))))) (sSeq (sDo (eArgs m_files_with (aCons (eVar 3) (aCons (eVar 1) aNil)))) (sRet (eVar 3)))))))
noncomputable def m_files_read : Fn := fnOf 1 7 (b_files_read)
theorem sc_FilesReader___init__ : FnScope ["self", "words"] ["self", "words"] (defScope s_FilesReader___init__) := ⟨rfl, rfl, rfl, by decide +kernel, rfl, by decide +kernel, by decide +kernel⟩
noncomputable def b_FilesReader___init__ : Stm := (sSeq (sFldM ["FilesReader"] "words" (eVar 0) (eVar 1)) (sFldM ["FilesReader"] "at" (eVar 0) (eC (.int 0))))
noncomputable def m_FilesReader___init__ : Fn := fnOf 2 2 (b_FilesReader___init__)
theorem sc_Files_many : FnScope ["self", "file"] ["self", "file"] (defScope s_Files_many) := ⟨rfl, rfl, rfl, by decide +kernel, rfl, by decide +kernel, by decide +kernel⟩
noncomputable def b_Files_many : Stm := (sRet (eArgs fLen (aCons (eBm tyDc mDGet2 (eFld ["Files"] "own_births" (eVar 0)) (aCons (eVar 1) (aCons (eArgs fLst aNil) aNil))) aNil)))
noncomputable def m_Files_many : Fn := fnOf 2 2 (b_Files_many)
theorem sc_Files_birth : FnScope ["self", "file", "place", "births"] ["self", "file", "place"] (defScope s_Files_birth) := ⟨rfl, rfl, rfl, by decide +kernel, rfl, by decide +kernel, by decide +kernel⟩
noncomputable def b_Files_birth : Stm := (sSeq (sAsg (gVar 3) (eMeth ["Files"] "births_of" m_Files_births_of (eVar 0) (aCons (eVar 1) aNil))) (sSeq (sIf (eNot (eChain opLe opLt (eC (.int 0)) (eVar 2) (eArgs fLen (aCons (eVar 3) aNil)))) (sRaise "NoPlace") sNil) (sRet (eBin opIx (eVar 3) (eVar 2)))))
noncomputable def m_Files_birth : Fn := fnOf 3 4 (b_Files_birth)
theorem sc_files_words : FnScope ["files", "found", "file", "births", "place", "birth"] ["files"] (defScope s_files_words) := ⟨rfl, rfl, rfl, by decide +kernel, rfl, by decide +kernel, by decide +kernel⟩
noncomputable def b_files_words : Stm := (sSeq (sAsg (gVar 1) (eArgs fCel (aCons (eArgs fStr (aCons (eArgs fLen (aCons (eMeth ["Files"] "names" m_Files_names (eVar 0) aNil) aNil)) aNil)) aNil))) (sSeq (sFor (srcOf (eMeth ["Files"] "names" m_Files_names (eVar 0) aNil) iA) (gVar 2) (sSeq (sAsg (gVar 3) (eLc finF (srcA (aCons (eMeth ["Files"] "many" m_Files_many (eVar 0) (aCons (eVar 2) aNil)) aNil) iR1) [4] (gVar 4) eYes (eMeth ["Files"] "birth" m_Files_birth (eVar 0) (aCons (eVar 2) (aCons (eVar 4) aNil))))) (sDo (eBm tyL mExtend (eVar 1) (aCons (eBin opAdd (eArgs fLst (aCons (eVar 2) (aCons (eArgs fStr (aCons (eArgs fLen (aCons (eVar 3) aNil)) aNil)) aNil))) (eLc finF (srcOf (eVar 3) iA) [5] (gVar 5) eYes (eArgs fStr (aCons (eVar 5) aNil)))) aNil))))) (sRet (eFrz (eVar 1)))))
noncomputable def m_files_words : Fn := pureF (fnOf 1 6 (b_files_words))
theorem sc_Files_want_held : FnScope ["self", "name"] ["self", "name"] (defScope s_Files_want_held) := ⟨rfl, rfl, rfl, by decide +kernel, rfl, by decide +kernel, by decide +kernel⟩
noncomputable def b_Files_want_held : Stm := (sIf (eBin (opDIn true) (eVar 1) (eFld ["Files"] "own_held" (eVar 0))) (sRaise "NotHeld") sNil)
noncomputable def m_Files_want_held : Fn := fnOf 2 2 (b_Files_want_held)
theorem sc_Files_of_held : FnScope ["self", "name", "found", "file", "births", "place", "birth"] ["self", "name"] (defScope s_Files_of_held) := ⟨rfl, rfl, rfl, by decide +kernel, rfl, by decide +kernel, by decide +kernel⟩
noncomputable def b_Files_of_held : Stm := (sSeq (sDo (eMeth ["Files"] "want_held" m_Files_want_held (eVar 0) (aCons (eVar 1) aNil))) (sSeq (sAsg (gVar 2) (eMake "Files" m_Files___init__ aNil)) (sSeq (sForD 2 (eBin opDGet (eFld ["Files"] "own_held" (eVar 0)) (eVar 1)) (gUnp 2 (gsCons (gVar 3) (gsCons (gVar 4) gsNil))) (sFor (srcA (aCons (eVar 4) aNil) iEA) (gUnp 2 (gsCons (gVar 5) (gsCons (gVar 6) gsNil))) (sDo (eMeth ["Files"] "put" m_Files_put (eVar 2) (aCons (eVar 3) (aCons (eVar 5) (aCons (eVar 6) aNil))))))) (sRet (eVar 2)))))
noncomputable def m_Files_of_held : Fn := fnOf 2 7 (b_Files_of_held)
theorem sc_files_text : FnScope ["files", "words", "name"] ["files"] (defScope s_files_text) := ⟨rfl, rfl, rfl, by decide +kernel, rfl, by decide +kernel, by decide +kernel⟩
noncomputable def b_files_text : Stm := (sSeq (sAsg (gVar 1) (eBin opAddC (eArgs m_files_words (aCons (eVar 0) aNil)) (eArgs fLst (aCons (eArgs fStr (aCons (eArgs fLen (aCons (eMeth ["Files"] "held" m_Files_held (eVar 0) aNil) aNil)) aNil)) aNil)))) (sSeq (sFor (srcOf (eMeth ["Files"] "held" m_Files_held (eVar 0) aNil) iA) (gVar 2) (sSeq (sDo (eBm tyL mAppend (eVar 1) (aCons (eVar 2) aNil))) (sDo (eBm tyL mExtend (eVar 1) (aCons (eArgs m_files_words (aCons (eMeth ["Files"] "of_held" m_Files_of_held (eVar 0) (aCons (eVar 2) aNil)) aNil)) aNil))))) (sRet (eBm tyS mJoin (eC (.str (tx [32]))) (aCons (eVar 1) aNil)))))
noncomputable def m_files_text : Fn := pureF (fnOf 1 3 (b_files_text))
theorem sc_read_files : FnScope ["text", "found"] ["text"] (defScope s_read_files) := ⟨rfl, rfl, rfl, by decide +kernel, rfl, by decide +kernel, by decide +kernel⟩
noncomputable def b_read_files : Stm := (sSeq (sIf (eNot (eUn (opIsT "str") (eVar 0))) (sRaise "NoFiles") sNil) (sSeq (sAsg (gVar 1) (eArgs m_files_read (aCons (eMake "FilesReader" m_FilesReader___init__ (aCons (eBm tyS mSplit (eVar 0) (aCons (eC (.str (tx [32]))) aNil)) aNil)) aNil))) (sSeq (sIf (eBin opNe (eArgs m_files_text (aCons (eVar 1) aNil)) (eVar 0)) (sRaise "NoFiles") sNil) (sRet (eVar 1)))))
noncomputable def m_read_files : Fn := fnOf 1 2 (b_read_files)
theorem sc__law_rows : FnScope ["_law_files", "_law_found", "_law_name_here", "_law_place"] ["_law_files"] (defScope s__law_rows) := ⟨rfl, rfl, rfl, by decide +kernel, rfl, by decide +kernel, by decide +kernel⟩
noncomputable def b__law_rows : Stm := (sSeq (sAsg (gVar 1) (eDic)) (sSeq (sFor (srcOf (eMeth ["Files"] "names" m_Files_names (eVar 0) aNil) iA) (gVar 2) (sAsg (gSubD (eVar 1) (eVar 2)) (eLc finF (srcA (aCons (eMeth ["Files"] "many" m_Files_many (eVar 0) (aCons (eVar 2) aNil)) aNil) iR1) [3] (gVar 3) eYes (eMeth ["Files"] "birth" m_Files_birth (eVar 0) (aCons (eVar 2) (aCons (eVar 3) aNil)))))) (sRet (eVar 1))))
noncomputable def m__law_rows : Fn := fnOf 1 4 (b__law_rows)
theorem sc__law_refusal : FnScope ["_law_e", "_law_some", "_law_names_here"] ["_law_e"] (defScope s__law_refusal) := ⟨rfl, rfl, rfl, by decide +kernel, rfl, by decide +kernel, by decide +kernel⟩
noncomputable def b__law_refusalH (ac : Nat × Str) : Stm := (sSeq (sAsg (gVar 1) (eArgs fLst (aCons (eUn (opIsE exL exI ac "Full") (eVar 0)) (aCons (eUn (opIsE exL exI ac "Gone") (eVar 0)) (aCons (eUn (opIsE exL exI ac "HeldAlready") (eVar 0)) (aCons (eUn (opIsE exL exI ac "NoDeed") (eVar 0)) aNil)))))) (sSeq (sAsg (gVar 1) (eBin opAdd (eVar 1) (eArgs fLst (aCons (eUn (opIsE exL exI ac "NoDisk") (eVar 0)) (aCons (eUn (opIsE exL exI ac "NoFile") (eVar 0)) (aCons (eUn (opIsE exL exI ac "NoFiles") (eVar 0)) (aCons (eUn (opIsE exL exI ac "NoHouse") (eVar 0)) aNil))))))) (sSeq (sAsg (gVar 1) (eBin opAdd (eVar 1) (eArgs fLst (aCons (eUn (opIsE exL exI ac "NoMark") (eVar 0)) (aCons (eUn (opIsE exL exI ac "NoPlace") (eVar 0)) (aCons (eUn (opIsE exL exI ac "NoRoom") (eVar 0)) (aCons (eUn (opIsE exL exI ac "NoRow") (eVar 0)) aNil))))))) (sSeq (sAsg (gVar 1) (eBin opAdd (eVar 1) (eArgs fLst (aCons (eUn (opIsE exL exI ac "NotBlank") (eVar 0)) (aCons (eUn (opIsE exL exI ac "NotClosed") (eVar 0)) (aCons (eUn (opIsE exL exI ac "NotHeld") (eVar 0)) (aCons (eUn (opIsE exL exI ac "Stopped") (eVar 0)) aNil))))))) (sSeq (sAsg (gVar 2) (eArgs fLst (aCons (eC (.str (tx [70, 117, 108, 108]))) (aCons (eC (.str (tx [71, 111, 110, 101]))) (aCons (eC (.str (tx [72, 101, 108, 100, 65, 108, 114, 101, 97, 100, 121]))) (aCons (eC (.str (tx [78, 111, 68, 101, 101, 100]))) (aCons (eC (.str (tx [78, 111, 68, 105, 115, 107]))) (aCons (eC (.str (tx [78, 111, 70, 105, 108, 101]))) (aCons (eC (.str (tx [78, 111, 70, 105, 108, 101, 115]))) (aCons (eC (.str (tx [78, 111, 72, 111, 117, 115, 101]))) (aCons (eC (.str (tx [78, 111, 77, 97, 114, 107]))) (aCons (eC (.str (tx [78, 111, 80, 108, 97, 99, 101]))) aNil)))))))))))) (sSeq (sAsg (gVar 2) (eBin opAdd (eVar 2) (eArgs fLst (aCons (eC (.str (tx [78, 111, 82, 111, 111, 109]))) (aCons (eC (.str (tx [78, 111, 82, 111, 119]))) (aCons (eC (.str (tx [78, 111, 116, 66, 108, 97, 110, 107]))) (aCons (eC (.str (tx [78, 111, 116, 67, 108, 111, 115, 101, 100]))) (aCons (eC (.str (tx [78, 111, 116, 72, 101, 108, 100]))) (aCons (eC (.str (tx [83, 116, 111, 112, 112, 101, 100]))) aNil))))))))) (sSeq (sIf (eOr (eNot (eUn (opIsE exL exI ac "ValueError") (eVar 0))) (eBin opNe (eBm tyL mCntB (eVar 1) (aCons (eC (.bl true)) aNil)) (eC (.int 1)))) (sRet (eC (.str (tx [111, 116, 104, 101, 114])))) sNil) (sRet (eBin opIx (eVar 2) (eBm tyL mIxB (eVar 1) (aCons (eC (.bl true)) aNil)))))))))))
noncomputable def m__law_refusalH (ac : Nat × Str) : Fn := pureF (fnOf 1 3 (b__law_refusalH ac))
theorem sc__law_told : FnScope ["_law_text_here", "_law_told_here", "_law_files", "_law_e", "_law_name_here"] ["_law_text_here"] (defScope s__law_told) := ⟨rfl, rfl, rfl, by decide +kernel, rfl, by decide +kernel, by decide +kernel⟩
noncomputable def b__law_told : Stm := (sSeq (sAsg (gVar 1) (eC .non)) (sSeq (sTryAs exL exC "CleanError" 3 (sSeq (sAsg (gVar 2) (eArgs m_read_files (aCons (eVar 0) aNil))) (sAsg (gVar 1) (eArgs fTup (aCons (eArgs m__law_rows (aCons (eVar 2) aNil)) (aCons (eArgs fDicP (aCons (eLc finF (srcOf (eMeth ["Files"] "held" m_Files_held (eVar 2) aNil) iA) [4] (gVar 4) eYes (eArgs fTup (aCons (eVar 4) (aCons (eArgs m__law_rows (aCons (eMeth ["Files"] "of_held" m_Files_of_held (eVar 2) (aCons (eVar 4) aNil)) aNil)) aNil)))) aNil)) aNil))))) (fun ac7_0 => (sAsg (gVar 1) (eIf (eBin opEq (eArgs (m__law_refusalH ac7_0) (aCons (eVar 3) aNil)) (eC (.str (tx [78, 111, 70, 105, 108, 101, 115])))) (eC .non) (eC (.str (tx [111, 116, 104, 101, 114]))))))) (sRet (eVar 1))))
noncomputable def m__law_told : Fn := fnOf 1 5 (b__law_told)
theorem sc_law : FnScope ["_law_script", "_law_k", "_law_pot_here", "_law_model_here", "_law_kept", "_law_right", "_law_text_here", "_law_turn", "_law_due_here"] ["_law_script"] (defScope s_law) := ⟨rfl, rfl, rfl, by decide +kernel, rfl, by decide +kernel, by decide +kernel⟩
noncomputable def b_law : Stm := (sSeq (sFor (srcA (aCons (eArgs fMax2 (aCons (eC (.int 1)) (aCons (eArgs fMin2 (aCons (eArgs fLen (aCons (eVar 0) aNil)) (aCons (eC (.int 10)) aNil))) aNil))) aNil) iR1) (gVar 1) (sSeq (sAsg (gVar 2) (eArgs m__law_pot (aCons (eVar 0) (aCons (eVar 1) aNil)))) (sSeq (sAsg (gUnp 2 (gsCons (gVar 3) (gsCons (gVar 4) gsNil))) (eArgs m__law_models (aCons (eVar 2) aNil))) (sSeq (sAsg (gVar 5) (eArgs m__law_text (aCons (eVar 3) (aCons (eVar 4) aNil)))) (sSeq (sAsg (gVar 6) (eVar 5)) (sSeq (sFor (srcA (aCons (eArgs m__law_take (aCons (eVar 2) (aCons (eC (.int 4)) aNil))) aNil) iR1) (gVar 7) (sAsg (gVar 6) (eArgs m__law_spoilt (aCons (eVar 2) (aCons (eVar 6) aNil))))) (sSeq (sIf (eBin opEq (eArgs m__law_take (aCons (eVar 2) (aCons (eC (.int 16)) aNil))) (eC (.int 15))) (sAsg (gVar 6) (eArgs m__law_drawn (aCons (eVar 2) (aCons (eArgs fLst (aCons (eC .non) (aCons (eC (.int 7)) (aCons (eC (.bl true)) (aCons (eArgs fLst aNil) (aCons (eArgs fTup (aCons (eVar 5) aNil)) (aCons (eDic) (aCons (eArgs fLst (aCons (eVar 5) aNil)) aNil)))))))) aNil)))) sNil) (sSeq (sAsg (gVar 8) (eArgs m__law_due (aCons (eVar 6) aNil))) (sSeq (sIf (eAnd (eBin opNotN (eVar 8) (eC .non)) (eBin opGt (eArgs fLenD (aCons (eBin opIx (eVar 8) (eC (.int 1))) aNil)) (eC (.int 4)))) (sAsg (gUnp 2 (gsCons (gVar 6) (gsCons (gVar 8) gsNil))) (eArgs fTup (aCons (eVar 5) (aCons (eArgs fTup (aCons (eVar 3) (aCons (eVar 4) aNil))) aNil)))) sNil) (sIf (eOr (eBin opNeT (eArgs m__law_told (aCons (eVar 6) aNil)) (eVar 8)) (eOr (eBin opNeT (eArgs m__law_told (aCons (eVar 5) aNil)) (eArgs fTup (aCons (eVar 3) (aCons (eVar 4) aNil)))) (eBin opNeT (eArgs m__law_told (aCons (eVar 6) aNil)) (eVar 8)))) (sRet (eC (.bl false))) sNil)))))))))) (sRet (eC (.bl true))))
noncomputable def m_law : Fn := pureF (fnOf 1 9 (b_law))
abbrev Says (w : World) (h : Heap) (K : PySem.W.Frag) : Prop := He.SaysX fa fn ts [] ex w h K
section
variable {P : Program} {w : World} {K : PySem.W.Frag} {mg : Str → Option Value} {base h : Heap}
theorem eb (c : Says w h K) : excB exL exC exI K = true := by have e := c.more; simp only [ex, Bool.and_eq_true] at e; exact e.2
theorem rb__law_at (c : Says w h K) (KX : K.In h) (G : h.Ns mainGlobals mg) {X : Cx} {W : WX} (C : Cc P w K mg base ⟨["_law_script", "_law_k"], defScope s__law_at, [0, 1], [0, 1], ["len"], true⟩ none 0 X W) : RB X W (defBody s__law_at) (b__law_at) :=
  (rb_one (rs_ret (re_ifx (rt_cmp op_lt s_lt (xVar C 1) (xBlt C 0 call_len c_len (He.free_ok KX G (c.t.d.fact 0 rfl)) (by decide +kernel) (ra_cons (xVar C 0) ra_nil)) (by first | exact nobehind _ (by decide) (by decide) | rfl)) (xIx (xVar C 0) (xVar C 1)) (re_int))))
theorem ca__law_at (c : Says w h K) (KX : K.In h) (G : h.Ns mainGlobals mg) : Ca P w K mg base none 1 2 "_law_at" (m__law_at) := by
  obtain ⟨fd, F⟩ := c.t.d.def_ 0 (d := d__law_at) rfl
  exact ⟨⟨_, fd, ["_law_script", "_law_k"], fnm_pure (fnm_of F sc__law_at (vi := [0, 1]) (ow := [0, 1]) (gl := ["len"]) (by kernel_rfl) fun X W C => rb__law_at c KX G C), (He.glo_ok KX G (c.t.d.fact 4 rfl)), F.kp, F.bindsN fun _ _ _ _ _ _ us hl => match us, hl with | [_, _], _ => rfl⟩, pureF_no fnOf_no⟩

theorem rb__law_pot (c : Says w h K) (KX : K.In h) (G : h.Ns mainGlobals mg) {X : Cx} {W : WX} (C : Cc P w K mg base ⟨["_law_script", "_law_k", "_law_cell"], defScope s__law_pot, [0, 1, 2], [0, 1, 2], ["_law_at", "max"], true⟩ none 1 X W) : RB X W (defBody s__law_pot) (b__law_pot) :=
  (rb_cons (sSet C 2 (xCall C 0 (ca__law_at c KX G) (ra_cons (xVar C 0) (ra_cons (xVar C 1) ra_nil)))) (rb_one (rs_ret (re_cel (ra_cons (xBlt C 1 (call_max2 C.calm) c_max2 (He.free_ok KX G (c.t.d.fact 2 rfl)) (by decide +kernel) (ra_cons (re_int) (ra_cons (re_bin op_sub s_sub (xVar C 2) (re_bin op_pow s_pow (re_int) (re_int))) ra_nil))) (ra_cons (re_bin op_modN s_mod (re_bin op_addAll s_add (re_bin op_modN s_mod (xVar C 2) (re_int)) (re_bin op_mulA s_mul (re_int) (re_bin op_addAll s_add (xVar C 1) (re_int)))) (re_int)) ra_nil))))))
theorem ca__law_pot (c : Says w h K) (KX : K.In h) (G : h.Ns mainGlobals mg) : Ca P w K mg base none 2 2 "_law_pot" (m__law_pot) := by
  obtain ⟨fd, F⟩ := c.t.d.def_ 1 (d := d__law_pot) rfl
  exact ⟨⟨_, fd, ["_law_script", "_law_k"], fnm_of F sc__law_pot (vi := [0, 1, 2]) (ow := [0, 1, 2]) (gl := ["_law_at", "max"]) (by kernel_rfl) fun X W C => rb__law_pot c KX G C, (He.glo_ok KX G (c.t.d.fact 5 rfl)), F.kp, F.bindsN fun _ _ _ _ _ _ us hl => match us, hl with | [_, _], _ => rfl⟩, fnOf_no⟩

theorem rb__law_take (c : Says w h K) (KX : K.In h) (G : h.Ns mainGlobals mg) {X : Cx} {W : WX} (C : Cc P w K mg base ⟨["_law_pot_here", "_law_many", "_law_digit"], defScope s__law_take, [0, 1, 2], [0, 1, 2], ["divmod"], true⟩ none 0 X W) : RB X W (defBody s__law_take) (b__law_take) :=
  (rb_cons (rs_if (rt_cmp op_gt s_gt (xIx (xVar C 0) (re_int)) (re_int) (by first | exact nobehind _ (by decide) (by decide) | rfl)) (rb_cons (rs_asg (vs := [2]) (xBlt C 0 call_dm c_dm (He.free_ok KX G (c.t.d.fact 6 rfl)) (by decide +kernel) (ra_cons (xIx (xVar C 0) (re_int)) (ra_cons (xVar C 1) ra_nil))) (tUnp C 2 (rgs_cons (rg_subL (xVar C 0) (re_int)) (rgs_cons (tVarS C 2) rgs_nil)))) (rb_one (rs_ret (xVar C 2)))) rb_nil) (rb_cons (rs_asg (vs := []) (re_bin op_modN s_mod (re_bin op_addAll s_add (re_bin op_mulA s_mul (xIx (xVar C 0) (re_int)) (re_int)) (re_int)) (re_int)) (rg_subL (xVar C 0) (re_int))) (rb_one (rs_ret (re_bin op_modN s_mod (re_bin op_fdivN s_div (re_bin op_modN s_mod (re_bin op_mulA s_mul (xIx (xVar C 0) (re_int)) (xIx (xVar C 0) (re_int))) (re_int)) (re_int)) (xVar C 1))))))
theorem ca__law_take (c : Says w h K) (KX : K.In h) (G : h.Ns mainGlobals mg) : Ca P w K mg base none 1 2 "_law_take" (m__law_take) := by
  obtain ⟨fd, F⟩ := c.t.d.def_ 2 (d := d__law_take) rfl
  exact ⟨⟨_, fd, ["_law_pot_here", "_law_many"], fnm_of F sc__law_take (vi := [0, 1, 2]) (ow := [0, 1, 2]) (gl := ["divmod"]) (by kernel_rfl) fun X W C => rb__law_take c KX G C, (He.glo_ok KX G (c.t.d.fact 7 rfl)), F.kp, F.bindsN fun _ _ _ _ _ _ us hl => match us, hl with | [_, _], _ => rfl⟩, fnOf_no⟩

theorem rb__law_drawn (c : Says w h K) (KX : K.In h) (G : h.Ns mainGlobals mg) {X : Cx} {W : WX} (C : Cc P w K mg base ⟨["_law_pot_here", "_law_some"], defScope s__law_drawn, [0, 1], [0, 1], ["_law_take", "len"], true⟩ none 1 X W) : RB X W (defBody s__law_drawn) (b__law_drawn) :=
  (rb_one (rs_ret (xIx (xVar C 1) (xCall C 0 (ca__law_take c KX G) (ra_cons (xVar C 0) (ra_cons (xBlt C 1 call_len c_len (He.free_ok KX G (c.t.d.fact 0 rfl)) (by decide +kernel) (ra_cons (xVar C 1) ra_nil)) ra_nil))))))
theorem ca__law_drawn (c : Says w h K) (KX : K.In h) (G : h.Ns mainGlobals mg) : Ca P w K mg base none 2 2 "_law_drawn" (m__law_drawn) := by
  obtain ⟨fd, F⟩ := c.t.d.def_ 3 (d := d__law_drawn) rfl
  exact ⟨⟨_, fd, ["_law_pot_here", "_law_some"], fnm_of F sc__law_drawn (vi := [0, 1]) (ow := [0, 1]) (gl := ["_law_take", "len"]) (by kernel_rfl) fun X W C => rb__law_drawn c KX G C, (He.glo_ok KX G (c.t.d.fact 8 rfl)), F.kp, F.bindsN fun _ _ _ _ _ _ us hl => match us, hl with | [_, _], _ => rfl⟩, fnOf_no⟩

theorem rb__law_name (c : Says w h K) (KX : K.In h) (G : h.Ns mainGlobals mg) {X : Cx} {W : WX} (C : Cc P w K mg base ⟨["_law_pot_here", "_law_letters", "_law_k"], defScope s__law_name, [0, 1], [0, 1], ["_law_take", "_law_drawn", "range"], true⟩ none 2 X W) : RB X W (defBody s__law_name) (b__law_name) :=
  (rb_cons (rs_if (rt_cmp op_lt s_lt (xCall C 0 (ca__law_take c KX G) (ra_cons (xVar C 0) (ra_cons (re_int) ra_nil))) (re_int) (by first | exact nobehind _ (by decide) (by decide) | rfl)) (rb_one (rs_ret (xCall C 1 (ca__law_drawn c KX G) (ra_cons (xVar C 0) (ra_cons (re_lst (ra_cons (re_strT [97]) (ra_cons (re_strT [98]) (ra_cons (re_strT [99]) (ra_cons (re_strT [97, 98]) ra_nil))))) ra_nil))))) rb_nil) (rb_cons (sSet C 1 (re_strT [97, 98, 99, 100, 101, 102, 103, 104, 105, 106, 107, 108, 109, 110, 111, 112, 113, 114, 115, 116, 117, 118, 119, 120, 121, 122])) (rb_one (rs_ret (xBm F.plainAttrs_str F.slot_str_join F.type_str_join mt_join ms_join (re_strT []) (ra_cons (xLc C finOkF [("_law_k", 2)] [0, 1, 2] [2] ["_law_drawn"] (by kernel_rfl) (xSrcR1 C 2 (He.free_ok KX G (c.t.d.fact 3 rfl)) (ra_cons (re_bin op_addAll s_add (re_int) (xCall C 0 (ca__law_take c KX G) (ra_cons (xVar C 0) (ra_cons (re_int) ra_nil)))) ra_nil)) (fun XC1 C1 eKC1 => ⟨(tVarS C1 2), rts_nil, (xCall C1 0 (ca__law_drawn c KX G) (ra_cons (xVar C1 0) (ra_cons (xVar C1 1) ra_nil)))⟩)) ra_nil))))))
theorem ca__law_name (c : Says w h K) (KX : K.In h) (G : h.Ns mainGlobals mg) : Ca P w K mg base none 3 1 "_law_name" (m__law_name) := by
  obtain ⟨fd, F⟩ := c.t.d.def_ 4 (d := d__law_name) rfl
  exact ⟨⟨_, fd, ["_law_pot_here"], fnm_of F sc__law_name (vi := [0, 1]) (ow := [0, 1]) (gl := ["_law_take", "_law_drawn", "range"]) (by kernel_rfl) fun X W C => rb__law_name c KX G C, (He.glo_ok KX G (c.t.d.fact 9 rfl)), F.kp, F.bindsN fun _ _ _ _ _ _ us hl => match us, hl with | [_], _ => rfl⟩, fnOf_no⟩

theorem rb__law_names (c : Says w h K) (KX : K.In h) (G : h.Ns mainGlobals mg) {X : Cx} {W : WX} (C : Cc P w K mg base ⟨["_law_pot_here", "_law_found", "_law_k", "_law_name_here"], defScope s__law_names, [0, 1, 2, 3], [0, 1, 2, 3], ["range", "_law_take", "_law_name"], true⟩ none 3 X W) : RB X W (defBody s__law_names) (b__law_names) :=
  (rb_cons (sSet C 1 (re_cel ra_nil)) (rb_cons (sForC C [2] (xSrcR1 C 0 (He.free_ok KX G (c.t.d.fact 3 rfl)) (ra_cons (re_bin op_addAll s_add (re_int) (xCall C 1 (ca__law_take c KX G) (ra_cons (xVar C 0) (ra_cons (re_int) ra_nil)))) ra_nil)) (tVarS C 2) (rb_cons (sSet C 3 (xCall C 2 (ca__law_name c KX G) (ra_cons (xVar C 0) ra_nil))) (rb_one (rs_if (rt_cmp op_notInA (s_inB true) (xVar C 3) (xVar C 1) (by first | exact nobehind _ (by decide) (by decide) | rfl)) (rb_one (rs_do (xBm F.plainAttrs_list F.slot_list_append F.type_list_append mt_app ms_append (xVar C 1) (ra_cons (xVar C 3) ra_nil)))) rb_nil)))) (rb_one (rs_ret (re_frz (xVar C 1))))))
theorem ca__law_names (c : Says w h K) (KX : K.In h) (G : h.Ns mainGlobals mg) : Ca P w K mg base none 4 1 "_law_names" (m__law_names) := by
  obtain ⟨fd, F⟩ := c.t.d.def_ 5 (d := d__law_names) rfl
  exact ⟨⟨_, fd, ["_law_pot_here"], fnm_of F sc__law_names (vi := [0, 1, 2, 3]) (ow := [0, 1, 2, 3]) (gl := ["range", "_law_take", "_law_name"]) (by kernel_rfl) fun X W C => rb__law_names c KX G C, (He.glo_ok KX G (c.t.d.fact 10 rfl)), F.kp, F.bindsN fun _ _ _ _ _ _ us hl => match us, hl with | [_], _ => rfl⟩, fnOf_no⟩

theorem rb__law_birth (c : Says w h K) (KX : K.In h) (G : h.Ns mainGlobals mg) {X : Cx} {W : WX} (C : Cc P w K mg base ⟨["_law_pot_here"], defScope s__law_birth, [0], [0], ["_law_take", "_law_drawn"], true⟩ none 2 X W) : RB X W (defBody s__law_birth) (b__law_birth) :=
  (rb_one (rs_ret (xCall C 0 (ca__law_take c KX G) (ra_cons (xVar C 0) (ra_cons (xCall C 1 (ca__law_drawn c KX G) (ra_cons (xVar C 0) (ra_cons (re_lst (ra_cons (re_int) (ra_cons (re_int) (ra_cons (re_int) (ra_cons (re_bin op_pow s_pow (re_int) (re_int)) ra_nil))))) ra_nil))) ra_nil)))))
theorem ca__law_birth (c : Says w h K) (KX : K.In h) (G : h.Ns mainGlobals mg) : Ca P w K mg base none 3 1 "_law_birth" (m__law_birth) := by
  obtain ⟨fd, F⟩ := c.t.d.def_ 6 (d := d__law_birth) rfl
  exact ⟨⟨_, fd, ["_law_pot_here"], fnm_of F sc__law_birth (vi := [0]) (ow := [0]) (gl := ["_law_take", "_law_drawn"]) (by kernel_rfl) fun X W C => rb__law_birth c KX G C, (He.glo_ok KX G (c.t.d.fact 11 rfl)), F.kp, F.bindsN fun _ _ _ _ _ _ us hl => match us, hl with | [_], _ => rfl⟩, fnOf_no⟩

theorem rb__law_model (c : Says w h K) (KX : K.In h) (G : h.Ns mainGlobals mg) {X : Cx} {W : WX} (C : Cc P w K mg base ⟨["_law_pot_here", "_law_model_here", "_law_name_here", "_law_wide", "_law_many", "_law_k"], defScope s__law_model, [0, 1, 2, 3, 4], [0, 1, 2, 3, 4], ["_law_names", "_law_take", "_law_drawn", "range"], true⟩ none 4 X W) : RB X W (defBody s__law_model) (b__law_model) :=
  (rb_cons (sSet C 1 (re_dic)) (rb_cons (sForC C [2] (xSrcA (xSlU (xCall C 0 (ca__law_names c KX G) (ra_cons (xVar C 0) ra_nil)) (xCall C 1 (ca__law_take c KX G) (ra_cons (xVar C 0) (ra_cons (re_int) ra_nil))))) (tVarS C 2) (rb_cons (sSet C 3 (xCall C 2 (ca__law_drawn c KX G) (ra_cons (xVar C 0) (ra_cons (re_lst (ra_cons (re_int) (ra_cons (re_int) (ra_cons (re_int) (ra_cons (re_int) ra_nil))))) ra_nil)))) (rb_cons (sSet C 4 (re_bin op_addAll s_add (re_int) (xCall C 1 (ca__law_take c KX G) (ra_cons (xVar C 0) (ra_cons (xVar C 3) ra_nil))))) (rb_one (rs_asg (vs := []) (xLc C finOkF [("_law_k", 5)] [0, 3, 5] [5] ["_law_take", "_law_birth"] (by kernel_rfl) (xSrcR1 C 3 (He.free_ok KX G (c.t.d.fact 3 rfl)) (ra_cons (xVar C 4) ra_nil)) (fun XC2 C2 eKC2 => ⟨(tVarS C2 5), rts_nil, (re_ifx (rt_cmp op_gt s_gt (xVar C2 3) (re_int) (by first | exact nobehind _ (by decide) (by decide) | rfl)) (xCall C2 0 (ca__law_take c KX G) (ra_cons (xVar C2 0) (ra_cons (re_int) ra_nil))) (xCall C2 1 (ca__law_birth c KX G) (ra_cons (xVar C2 0) ra_nil)))⟩)) (rg_subD C.units64 (xVar C 1) (xVar C 2))))))) (rb_one (rs_ret (xVar C 1)))))
theorem ca__law_model (c : Says w h K) (KX : K.In h) (G : h.Ns mainGlobals mg) : Ca P w K mg base none 5 1 "_law_model" (m__law_model) := by
  obtain ⟨fd, F⟩ := c.t.d.def_ 7 (d := d__law_model) rfl
  exact ⟨⟨_, fd, ["_law_pot_here"], fnm_of F sc__law_model (vi := [0, 1, 2, 3, 4]) (ow := [0, 1, 2, 3, 4]) (gl := ["_law_names", "_law_take", "_law_drawn", "range"]) (by kernel_rfl) fun X W C => rb__law_model c KX G C, (He.glo_ok KX G (c.t.d.fact 12 rfl)), F.kp, F.bindsN fun _ _ _ _ _ _ us hl => match us, hl with | [_], _ => rfl⟩, fnOf_no⟩

theorem rb__law_models (c : Says w h K) (KX : K.In h) (G : h.Ns mainGlobals mg) {X : Cx} {W : WX} (C : Cc P w K mg base ⟨["_law_pot_here", "_law_kept", "_law_k"], defScope s__law_models, [0, 1, 2], [0, 1, 2], ["range", "_law_take", "_law_model", "_law_name"], true⟩ none 5 X W) : RB X W (defBody s__law_models) (b__law_models) :=
  (rb_cons (sSet C 1 (re_dic)) (rb_cons (sForC C [2] (xSrcR1 C 0 (He.free_ok KX G (c.t.d.fact 3 rfl)) (ra_cons (xCall C 1 (ca__law_take c KX G) (ra_cons (xVar C 0) (ra_cons (re_int) ra_nil))) ra_nil)) (tVarS C 2) (rb_one (rs_asg (vs := []) (xCall C 2 (ca__law_model c KX G) (ra_cons (xVar C 0) ra_nil)) (rg_subD C.units64 (xVar C 1) (xCall C 3 (ca__law_name c KX G) (ra_cons (xVar C 0) ra_nil)))))) (rb_one (rs_ret (re_tup (ra_cons (xCall C 2 (ca__law_model c KX G) (ra_cons (xVar C 0) ra_nil)) (ra_cons (xVar C 1) ra_nil)))))))
theorem ca__law_models (c : Says w h K) (KX : K.In h) (G : h.Ns mainGlobals mg) : Ca P w K mg base none 6 1 "_law_models" (m__law_models) := by
  obtain ⟨fd, F⟩ := c.t.d.def_ 8 (d := d__law_models) rfl
  exact ⟨⟨_, fd, ["_law_pot_here"], fnm_of F sc__law_models (vi := [0, 1, 2]) (ow := [0, 1, 2]) (gl := ["range", "_law_take", "_law_model", "_law_name"]) (by kernel_rfl) fun X W C => rb__law_models c KX G C, (He.glo_ok KX G (c.t.d.fact 13 rfl)), F.kp, F.bindsN fun _ _ _ _ _ _ us hl => match us, hl with | [_], _ => rfl⟩, fnOf_no⟩

theorem rb__law_words (c : Says w h K) (KX : K.In h) (G : h.Ns mainGlobals mg) {X : Cx} {W : WX} (C : Cc P w K mg base ⟨["_law_model_here", "_law_words_here", "_law_name_here", "_law_birth_here"], defScope s__law_words, [0, 1, 2], [0, 1, 2], ["len", "str", "sorted"], true⟩ none 0 X W) : RB X W (defBody s__law_words) (b__law_words) :=
  (rb_cons (sSet C 1 (re_lst (ra_cons (xTyp C 1 call_strA c_str (He.free_ok KX G (c.t.d.fact 14 rfl)) (by decide +kernel) (ra_cons (xBlt C 0 call_lenR c_lenD (He.free_ok KX G (c.t.d.fact 0 rfl)) (by decide +kernel) (ra_cons (xVar C 0) ra_nil)) ra_nil)) ra_nil))) (rb_cons (sForC C [2] (xSrcA (xBlt C 2 (call_srtK C.calm) (c_srtK false) (He.free_ok KX G (c.t.d.fact 15 rfl)) (by decide +kernel) (ra_cons (xVar C 0) ra_nil))) (tVarS C 2) (rb_one (sSet C 1 (re_bin op_addAll s_add (re_bin op_addAll s_add (xVar C 1) (re_lst (ra_cons (xVar C 2) (ra_cons (xTyp C 1 call_strA c_str (He.free_ok KX G (c.t.d.fact 14 rfl)) (by decide +kernel) (ra_cons (xBlt C 0 call_len c_len (He.free_ok KX G (c.t.d.fact 0 rfl)) (by decide +kernel) (ra_cons (xDGet C.units64 (xVar C 0) (xVar C 2)) ra_nil)) ra_nil)) ra_nil)))) (xLc C finOkF [("_law_birth_here", 3)] [3] [3] ["str"] (by kernel_rfl) (xSrcA (xDGet C.units64 (xVar C 0) (xVar C 2))) (fun XC3 C3 eKC3 => ⟨(tVarS C3 3), rts_nil, (xTyp C3 0 call_strA c_str (He.free_ok KX G (c.t.d.fact 14 rfl)) (by decide +kernel) (ra_cons (xVar C3 3) ra_nil))⟩)))))) (rb_one (rs_ret (xVar C 1)))))
theorem ca__law_words (c : Says w h K) (KX : K.In h) (G : h.Ns mainGlobals mg) : Ca P w K mg base none 1 1 "_law_words" (m__law_words) := by
  obtain ⟨fd, F⟩ := c.t.d.def_ 9 (d := d__law_words) rfl
  exact ⟨⟨_, fd, ["_law_model_here"], fnm_pure (fnm_of F sc__law_words (vi := [0, 1, 2]) (ow := [0, 1, 2]) (gl := ["len", "str", "sorted"]) (by kernel_rfl) fun X W C => rb__law_words c KX G C), (He.glo_ok KX G (c.t.d.fact 16 rfl)), F.kp, F.bindsN fun _ _ _ _ _ _ us hl => match us, hl with | [_], _ => rfl⟩, pureF_no fnOf_no⟩

theorem rb__law_text (c : Says w h K) (KX : K.In h) (G : h.Ns mainGlobals mg) {X : Cx} {W : WX} (C : Cc P w K mg base ⟨["_law_model_here", "_law_kept", "_law_words_here", "_law_name_here"], defScope s__law_text, [0, 1, 2, 3], [0, 1, 2, 3], ["_law_words", "len", "str", "sorted"], true⟩ none 1 X W) : RB X W (defBody s__law_text) (b__law_text) :=
  (rb_cons (sSet C 2 (re_bin op_addAll s_add (xCall C 0 (ca__law_words c KX G) (ra_cons (xVar C 0) ra_nil)) (re_lst (ra_cons (xTyp C 2 call_strA c_str (He.free_ok KX G (c.t.d.fact 14 rfl)) (by decide +kernel) (ra_cons (xBlt C 1 call_lenR c_lenD (He.free_ok KX G (c.t.d.fact 0 rfl)) (by decide +kernel) (ra_cons (xVar C 1) ra_nil)) ra_nil)) ra_nil)))) (rb_cons (sForC C [3] (xSrcA (xBlt C 3 (call_srtK C.calm) (c_srtK false) (He.free_ok KX G (c.t.d.fact 15 rfl)) (by decide +kernel) (ra_cons (xVar C 1) ra_nil))) (tVarS C 3) (rb_one (sSet C 2 (re_bin op_addAll s_add (re_bin op_addAll s_add (xVar C 2) (re_lst (ra_cons (xVar C 3) ra_nil))) (xCall C 0 (ca__law_words c KX G) (ra_cons (xDGet C.units64 (xVar C 1) (xVar C 3)) ra_nil)))))) (rb_one (rs_ret (xBm F.plainAttrs_str F.slot_str_join F.type_str_join mt_join ms_join (re_strT [32]) (ra_cons (xVar C 2) ra_nil))))))
theorem ca__law_text (c : Says w h K) (KX : K.In h) (G : h.Ns mainGlobals mg) : Ca P w K mg base none 2 2 "_law_text" (m__law_text) := by
  obtain ⟨fd, F⟩ := c.t.d.def_ 10 (d := d__law_text) rfl
  exact ⟨⟨_, fd, ["_law_model_here", "_law_kept"], fnm_pure (fnm_of F sc__law_text (vi := [0, 1, 2, 3]) (ow := [0, 1, 2, 3]) (gl := ["_law_words", "len", "str", "sorted"]) (by kernel_rfl) fun X W C => rb__law_text c KX G C), (He.glo_ok KX G (c.t.d.fact 17 rfl)), F.kp, F.bindsN fun _ _ _ _ _ _ us hl => match us, hl with | [_, _], _ => rfl⟩, pureF_no fnOf_no⟩

theorem rb__law_is_number (c : Says w h K) (KX : K.In h) (G : h.Ns mainGlobals mg) {X : Cx} {W : WX} (C : Cc P w K mg base ⟨["_law_word", "_law_sign"], defScope s__law_is_number, [0], [0], ["len"], true⟩ none 0 X W) : RB X W (defBody s__law_is_number) (b__law_is_number) :=
  (rb_cons (rs_if (rt_bool (rw_or (rt_cmp (op_eqN C.units64) s_eq (xVar C 0) (re_strT []) (by first | exact nobehind _ (by decide) (by decide) | rfl)) (rw_or (rt_cmp op_gt s_gt (xBlt C 0 call_len c_len (He.free_ok KX G (c.t.d.fact 0 rfl)) (by decide +kernel) (ra_cons (xVar C 0) ra_nil)) (re_int) (by first | exact nobehind _ (by decide) (by decide) | rfl)) (rw_or1 (rt_cmp (op_neN C.units64) s_ne (xLc C finOkF [("_law_sign", 1)] [1] [1] [] (by kernel_rfl) (xSrcA (xVar C 0)) (fun XC4 C4 eKC4 => ⟨(tVarS C4 1), (rts_one (rt_cmp op_notInA (s_inB true) (xVar C4 1) (re_strT [48, 49, 50, 51, 52, 53, 54, 55, 56, 57]) (by first | exact nobehind _ (by decide) (by decide) | rfl))), (xVar C4 1)⟩)) (re_lst ra_nil) (by first | exact nobehind _ (by decide) (by decide) | rfl)))))) (rb_one (rs_ret (re_bl))) rb_nil) (rb_one (rs_ret ((re_or (re_cmp (op_eqN C.units64) s_eq (xVar C 0) (re_strT [48]) (by first | exact nobehind _ (by decide) (by decide) | rfl)) (re_one (re_cmp (op_neN C.units64) s_ne (xIx (xVar C 0) (re_int)) (re_strT [48]) (by first | exact nobehind _ (by decide) (by decide) | rfl))))))))
theorem ca__law_is_number (c : Says w h K) (KX : K.In h) (G : h.Ns mainGlobals mg) : Ca P w K mg base none 1 1 "_law_is_number" (m__law_is_number) := by
  obtain ⟨fd, F⟩ := c.t.d.def_ 11 (d := d__law_is_number) rfl
  exact ⟨⟨_, fd, ["_law_word"], fnm_pure (fnm_of F sc__law_is_number (vi := [0]) (ow := [0]) (gl := ["len"]) (by kernel_rfl) fun X W C => rb__law_is_number c KX G C), (He.glo_ok KX G (c.t.d.fact 18 rfl)), F.kp, F.bindsN fun _ _ _ _ _ _ us hl => match us, hl with | [_], _ => rfl⟩, pureF_no fnOf_no⟩

theorem rb__law_other_word (c : Says w h K) (KX : K.In h) (G : h.Ns mainGlobals mg) {X : Cx} {W : WX} (C : Cc P w K mg base ⟨["_law_pot_here", "_law_word", "_law_some", "_law_number"], defScope s__law_other_word, [0, 1, 2, 3], [0, 1, 2, 3], ["_law_is_number", "int", "max", "str", "_law_drawn"], true⟩ none 2 X W) : RB X W (defBody s__law_other_word) (b__law_other_word) :=
  (rb_cons (sSet C 2 (re_lst (ra_cons (re_strT [48]) (ra_cons (re_strT [49]) (ra_cons (re_strT [50]) (ra_cons (re_strT [97]) (ra_cons (re_strT [97, 98]) (ra_cons (re_strT [122, 122]) (ra_cons (re_strT [65]) (ra_cons (re_strT [97, 98, 99, 100, 101, 102, 103]) (ra_cons (re_strT [97, 49]) (ra_cons (re_strT [45, 49]) (ra_cons (re_strT [43, 49]) (ra_cons (re_strT [49, 46]) (ra_cons (re_strT [48, 120, 49]) (ra_cons (re_strT []) (ra_cons (re_bin op_mulS s_mulS (re_strT [57]) (re_int)) (ra_cons (re_bin op_addAll s_add (re_strT [49]) (re_bin op_mulS s_mulS (re_strT [48]) (re_int))) ra_nil)))))))))))))))))) (rb_cons (rs_if (rt_val (xCall C 0 (ca__law_is_number c KX G) (ra_cons (xVar C 1) ra_nil))) (rb_cons (sSet C 3 (xTyp C 1 call_intA c_int (He.free_ok KX G (c.t.d.fact 19 rfl)) (by decide +kernel) (ra_cons (xVar C 1) ra_nil))) (rb_one (sSet C 2 (re_bin op_addAll s_add (xVar C 2) (re_lst (ra_cons (xTyp C 3 call_strA c_str (He.free_ok KX G (c.t.d.fact 14 rfl)) (by decide +kernel) (ra_cons (re_bin op_addAll s_add (xVar C 3) (re_int)) ra_nil)) (ra_cons (xTyp C 3 call_strA c_str (He.free_ok KX G (c.t.d.fact 14 rfl)) (by decide +kernel) (ra_cons (xBlt C 2 (call_max2 C.calm) c_max2 (He.free_ok KX G (c.t.d.fact 2 rfl)) (by decide +kernel) (ra_cons (re_int) (ra_cons (re_bin op_sub s_sub (xVar C 3) (re_int)) ra_nil))) ra_nil)) (ra_cons (re_bin op_addAll s_add (re_strT [48]) (xVar C 1)) (ra_cons (xTyp C 3 call_strA c_str (He.free_ok KX G (c.t.d.fact 14 rfl)) (by decide +kernel) (ra_cons (re_bin op_addAll s_add (xVar C 3) (re_int)) ra_nil)) (ra_cons (xTyp C 3 call_strA c_str (He.free_ok KX G (c.t.d.fact 14 rfl)) (by decide +kernel) (ra_cons (xBlt C 2 (call_max2 C.calm) c_max2 (He.free_ok KX G (c.t.d.fact 2 rfl)) (by decide +kernel) (ra_cons (re_int) (ra_cons (re_bin op_sub s_sub (xVar C 3) (re_int)) ra_nil))) ra_nil)) ra_nil)))))))))) rb_nil) (rb_one (rs_ret (xCall C 4 (ca__law_drawn c KX G) (ra_cons (xVar C 0) (ra_cons (xVar C 2) ra_nil)))))))
theorem ca__law_other_word (c : Says w h K) (KX : K.In h) (G : h.Ns mainGlobals mg) : Ca P w K mg base none 3 2 "_law_other_word" (m__law_other_word) := by
  obtain ⟨fd, F⟩ := c.t.d.def_ 12 (d := d__law_other_word) rfl
  exact ⟨⟨_, fd, ["_law_pot_here", "_law_word"], fnm_of F sc__law_other_word (vi := [0, 1, 2, 3]) (ow := [0, 1, 2, 3]) (gl := ["_law_is_number", "int", "max", "str", "_law_drawn"]) (by kernel_rfl) fun X W C => rb__law_other_word c KX G C, (He.glo_ok KX G (c.t.d.fact 20 rfl)), F.kp, F.bindsN fun _ _ _ _ _ _ us hl => match us, hl with | [_, _], _ => rfl⟩, fnOf_no⟩

theorem rb__law_spoilt (c : Says w h K) (KX : K.In h) (G : h.Ns mainGlobals mg) {X : Cx} {W : WX} (C : Cc P w K mg base ⟨["_law_pot_here", "_law_text_here", "_law_words_here", "_law_at_here", "_law_other", "_law_way", "_law_word", "_law_spot"], defScope s__law_spoilt, [0, 1, 2, 3, 4, 5, 6, 7], [0, 1, 2, 3, 4, 5, 6, 7], ["_law_take", "len", "_law_other_word", "_law_drawn"], true⟩ none 3 X W) : RB X W (defBody s__law_spoilt) (b__law_spoilt) :=
  (rb_cons (sSet C 2 (xBm F.plainAttrs_str F.slot_str_split F.type_str_split mt_split ms_splitC (xVar C 1) (ra_cons (re_strT [32]) ra_nil))) (rb_cons (sSet C 3 (xCall C 0 (ca__law_take c KX G) (ra_cons (xVar C 0) (ra_cons (xBlt C 1 call_len c_len (He.free_ok KX G (c.t.d.fact 0 rfl)) (by decide +kernel) (ra_cons (xVar C 2) ra_nil)) ra_nil)))) (rb_cons (sSet C 4 (xCall C 0 (ca__law_take c KX G) (ra_cons (xVar C 0) (ra_cons (xBlt C 1 call_len c_len (He.free_ok KX G (c.t.d.fact 0 rfl)) (by decide +kernel) (ra_cons (xVar C 2) ra_nil)) ra_nil)))) (rb_cons (sSet C 5 (xCall C 0 (ca__law_take c KX G) (ra_cons (xVar C 0) (ra_cons (re_int) ra_nil)))) (rb_cons (rs_if (rt_cmp (op_eqN C.units64) s_eq (xVar C 5) (re_int) (by first | exact nobehind _ (by decide) (by decide) | rfl)) (rb_one (rs_ret (xBm F.plainAttrs_str F.slot_str_join F.type_str_join mt_join ms_join (re_strT [32]) (ra_cons (re_bin op_addAll s_add (xSlU (xVar C 2) (xVar C 3)) (xSlL (xVar C 2) (re_bin op_addAll s_add (xVar C 3) (re_int)))) ra_nil)))) rb_nil) (rb_cons (rs_if (rt_cmp (op_eqN C.units64) s_eq (xVar C 5) (re_int) (by first | exact nobehind _ (by decide) (by decide) | rfl)) (rb_one (rs_ret (xBm F.plainAttrs_str F.slot_str_join F.type_str_join mt_join ms_join (re_strT [32]) (ra_cons (re_bin op_addAll s_add (re_bin op_addAll s_add (xSlU (xVar C 2) (xVar C 3)) (re_lst (ra_cons (xIx (xVar C 2) (xVar C 4)) ra_nil))) (xSlL (xVar C 2) (xVar C 3))) ra_nil)))) rb_nil) (rb_cons (rs_if (rt_cmp (op_eqN C.units64) s_eq (xVar C 5) (re_int) (by first | exact nobehind _ (by decide) (by decide) | rfl)) (rb_cons (sSet C 6 (xIx (xVar C 2) (xVar C 3))) (rb_cons (rs_asg (vs := []) (xIx (xVar C 2) (xVar C 4)) (rg_subL (xVar C 2) (xVar C 3))) (rb_cons (rs_asg (vs := []) (xVar C 6) (rg_subL (xVar C 2) (xVar C 4))) (rb_one (rs_ret (xBm F.plainAttrs_str F.slot_str_join F.type_str_join mt_join ms_join (re_strT [32]) (ra_cons (xVar C 2) ra_nil))))))) rb_nil) (rb_cons (rs_if (rt_cmp op_lt s_lt (xVar C 5) (re_int) (by first | exact nobehind _ (by decide) (by decide) | rfl)) (rb_cons (rs_asg (vs := []) (xCall C 2 (ca__law_other_word c KX G) (ra_cons (xVar C 0) (ra_cons (xIx (xVar C 2) (xVar C 3)) ra_nil))) (rg_subL (xVar C 2) (xVar C 3))) (rb_one (rs_ret (xBm F.plainAttrs_str F.slot_str_join F.type_str_join mt_join ms_join (re_strT [32]) (ra_cons (xVar C 2) ra_nil))))) rb_nil) (rb_cons (sSet C 7 (xCall C 0 (ca__law_take c KX G) (ra_cons (xVar C 0) (ra_cons (re_bin op_addAll s_add (xBlt C 1 call_len c_len (He.free_ok KX G (c.t.d.fact 0 rfl)) (by decide +kernel) (ra_cons (xVar C 1) ra_nil)) (re_int)) ra_nil)))) (rb_one (rs_ret (re_bin op_addAll s_add (re_bin op_addAll s_add (xSlU (xVar C 1) (xVar C 7)) (xCall C 3 (ca__law_drawn c KX G) (ra_cons (xVar C 0) (ra_cons (re_lst (ra_cons (re_strT []) (ra_cons (re_strT [32]) (ra_cons (re_strT [48]) (ra_cons (re_strT [97]) (ra_cons (re_strT [10]) (ra_cons (re_strT [90]) (ra_cons (re_strT [95]) ra_nil)))))))) ra_nil)))) (xSlL (xVar C 1) (re_bin op_addAll s_add (xVar C 7) (xCall C 0 (ca__law_take c KX G) (ra_cons (xVar C 0) (ra_cons (re_int) ra_nil)))))))))))))))))
theorem ca__law_spoilt (c : Says w h K) (KX : K.In h) (G : h.Ns mainGlobals mg) : Ca P w K mg base none 4 2 "_law_spoilt" (m__law_spoilt) := by
  obtain ⟨fd, F⟩ := c.t.d.def_ 13 (d := d__law_spoilt) rfl
  exact ⟨⟨_, fd, ["_law_pot_here", "_law_text_here"], fnm_of F sc__law_spoilt (vi := [0, 1, 2, 3, 4, 5, 6, 7]) (ow := [0, 1, 2, 3, 4, 5, 6, 7]) (gl := ["_law_take", "len", "_law_other_word", "_law_drawn"]) (by kernel_rfl) fun X W C => rb__law_spoilt c KX G C, (He.glo_ok KX G (c.t.d.fact 21 rfl)), F.kp, F.bindsN fun _ _ _ _ _ _ us hl => match us, hl with | [_, _], _ => rfl⟩, fnOf_no⟩

theorem rb__law_is_name (c : Says w h K) (KX : K.In h) (G : h.Ns mainGlobals mg) {X : Cx} {W : WX} (C : Cc P w K mg base ⟨["_law_word", "_law_sign"], defScope s__law_is_name, [0], [0], ["len"], true⟩ none 0 X W) : RB X W (defBody s__law_is_name) (b__law_is_name) :=
  (rb_cons (rs_if (rt_cmp op_notInA (s_inB true) (xBlt C 0 call_len c_len (He.free_ok KX G (c.t.d.fact 0 rfl)) (by decide +kernel) (ra_cons (xVar C 0) ra_nil)) (re_tup (ra_cons (re_int) (ra_cons (re_int) (ra_cons (re_int) (ra_cons (re_int) (ra_cons (re_int) (ra_cons (re_int) ra_nil))))))) (by first | exact nobehind _ (by decide) (by decide) | rfl)) (rb_one (rs_ret (re_bl))) rb_nil) (rb_one (rs_ret (re_cmp (op_eqN C.units64) s_eq (xLc C finOkF [("_law_sign", 1)] [1] [1] [] (by kernel_rfl) (xSrcA (xVar C 0)) (fun XC5 C5 eKC5 => ⟨(tVarS C5 1), (rts_one (rt_cmp op_notInA (s_inB true) (xVar C5 1) (re_strT [97, 98, 99, 100, 101, 102, 103, 104, 105, 106, 107, 108, 109, 110, 111, 112, 113, 114, 115, 116, 117, 118, 119, 120, 121, 122]) (by first | exact nobehind _ (by decide) (by decide) | rfl))), (xVar C5 1)⟩)) (re_lst ra_nil) (by first | exact nobehind _ (by decide) (by decide) | rfl)))))
theorem ca__law_is_name (c : Says w h K) (KX : K.In h) (G : h.Ns mainGlobals mg) : Ca P w K mg base none 1 1 "_law_is_name" (m__law_is_name) := by
  obtain ⟨fd, F⟩ := c.t.d.def_ 14 (d := d__law_is_name) rfl
  exact ⟨⟨_, fd, ["_law_word"], fnm_pure (fnm_of F sc__law_is_name (vi := [0]) (ow := [0]) (gl := ["len"]) (by kernel_rfl) fun X W C => rb__law_is_name c KX G C), (He.glo_ok KX G (c.t.d.fact 23 rfl)), F.kp, F.bindsN fun _ _ _ _ _ _ us hl => match us, hl with | [_], _ => rfl⟩, pureF_no fnOf_no⟩

theorem rb__law_model_in (c : Says w h K) (KX : K.In h) (G : h.Ns mainGlobals mg) {X : Cx} {W : WX} (C : Cc P w K mg base ⟨["_law_words_here", "_law_at_here", "_law_many", "_law_model_here", "_law_ahead", "_law_births", "_law_birth_here"], defScope s__law_model_in, [0, 1, 2, 3, 4, 5], [0, 1, 2, 3, 4, 5], ["len", "_law_is_number", "int", "_law_is_name", "min", "all"], true⟩ none 1 X W) : RB X W (defBody s__law_model_in) (b__law_model_in) :=
  (rb_cons (rs_if (rt_bool (rw_or (rt_cmp op_ge s_ge (xVar C 1) (xBlt C 0 call_len c_len (He.free_ok KX G (c.t.d.fact 0 rfl)) (by decide +kernel) (ra_cons (xVar C 0) ra_nil)) (by first | exact nobehind _ (by decide) (by decide) | rfl)) (rw_or1 (rt_not (rt_val (xCall C 1 (ca__law_is_number c KX G) (ra_cons (xIx (xVar C 0) (xVar C 1)) ra_nil))))))) (rb_one (rs_ret (re_tup (ra_cons (re_non) (ra_cons (xVar C 1) ra_nil))))) rb_nil) (rb_cons (sSet C 2 (xTyp C 2 call_intA c_int (He.free_ok KX G (c.t.d.fact 19 rfl)) (by decide +kernel) (ra_cons (xIx (xVar C 0) (xVar C 1)) ra_nil))) (rb_cons (sSet C 1 (re_bin op_addAll s_add (xVar C 1) (re_int))) (rb_cons (sSet C 3 (re_dic)) (rb_cons (sSet C 4 (re_strT [])) (rb_cons (xWhile C (rt_cmp op_lt s_lt (xBlt C 0 call_lenR c_lenD (He.free_ok KX G (c.t.d.fact 0 rfl)) (by decide +kernel) (ra_cons (xVar C 3) ra_nil)) (xVar C 2) (by first | exact nobehind _ (by decide) (by decide) | rfl)) (rb_cons (rs_if (rt_bool (rw_or (rt_cmp op_ge s_ge (re_bin op_addAll s_add (xVar C 1) (re_int)) (xBlt C 0 call_len c_len (He.free_ok KX G (c.t.d.fact 0 rfl)) (by decide +kernel) (ra_cons (xVar C 0) ra_nil)) (by first | exact nobehind _ (by decide) (by decide) | rfl)) (rw_or (rt_not (rt_val (xCall C 3 (ca__law_is_name c KX G) (ra_cons (xIx (xVar C 0) (xVar C 1)) ra_nil)))) (rw_or1 (rt_not (rt_cmp op_gtS s_gtS (xIx (xVar C 0) (xVar C 1)) (xVar C 4) (by first | exact nobehind _ (by decide) (by decide) | rfl))))))) (rb_one (rs_ret (re_tup (ra_cons (re_non) (ra_cons (xVar C 1) ra_nil))))) rb_nil) (rb_cons (sSet C 4 (xIx (xVar C 0) (xVar C 1))) (rb_cons (rs_if (rt_bool (rw_or (rt_not (rt_val (xCall C 1 (ca__law_is_number c KX G) (ra_cons (xIx (xVar C 0) (re_bin op_addAll s_add (xVar C 1) (re_int))) ra_nil)))) (rw_or1 (rt_cmp (op_eqN C.units64) s_eq (xIx (xVar C 0) (re_bin op_addAll s_add (xVar C 1) (re_int))) (re_strT [48]) (by first | exact nobehind _ (by decide) (by decide) | rfl))))) (rb_one (rs_ret (re_tup (ra_cons (re_non) (ra_cons (xVar C 1) ra_nil))))) rb_nil) (rb_cons (sSet C 5 (xSlLU (xVar C 0) (re_bin op_addAll s_add (xVar C 1) (re_int)) (re_bin op_addAll s_add (re_bin op_addAll s_add (xVar C 1) (re_int)) (xBlt C 4 (call_min2 C.calm) c_min2 (He.free_ok KX G (c.t.d.fact 1 rfl)) (by decide +kernel) (ra_cons (xTyp C 2 call_intA c_int (He.free_ok KX G (c.t.d.fact 19 rfl)) (by decide +kernel) (ra_cons (xIx (xVar C 0) (re_bin op_addAll s_add (xVar C 1) (re_int))) ra_nil)) (ra_cons (re_int) ra_nil)))))) (rb_cons (rs_if (rt_bool (rw_or (rt_cmp (op_neN C.units64) s_ne (xBlt C 0 call_len c_len (He.free_ok KX G (c.t.d.fact 0 rfl)) (by decide +kernel) (ra_cons (xVar C 5) ra_nil)) (xTyp C 2 call_intA c_int (He.free_ok KX G (c.t.d.fact 19 rfl)) (by decide +kernel) (ra_cons (xIx (xVar C 0) (re_bin op_addAll s_add (xVar C 1) (re_int))) ra_nil)) (by first | exact nobehind _ (by decide) (by decide) | rfl)) (rw_or1 (rt_not (rt_val (xBlt C 5 (cr_all C.calm) c_all (He.free_ok KX G (c.t.d.fact 24 rfl)) (by decide +kernel) (ra_cons (xLc C finOkF [("_law_birth_here", 6)] [6] [6] ["_law_is_number"] (by kernel_rfl) (xSrcA (xVar C 5)) (fun XC6 C6 eKC6 => ⟨(tVarS C6 6), rts_nil, (xCall C6 0 (ca__law_is_number c KX G) (ra_cons (xVar C6 6) ra_nil))⟩)) ra_nil))))))) (rb_one (rs_ret (re_tup (ra_cons (re_non) (ra_cons (xVar C 1) ra_nil))))) rb_nil) (rb_cons (rs_asg (vs := []) (xLc C finOkF [("_law_birth_here", 6)] [6] [6] ["int"] (by kernel_rfl) (xSrcA (xVar C 5)) (fun XC7 C7 eKC7 => ⟨(tVarS C7 6), rts_nil, (xTyp C7 0 call_intA c_int (He.free_ok KX G (c.t.d.fact 19 rfl)) (by decide +kernel) (ra_cons (xVar C7 6) ra_nil))⟩)) (rg_subD C.units64 (xVar C 3) (xVar C 4))) (rb_one (sSet C 1 (re_bin op_addAll s_add (re_bin op_addAll s_add (xVar C 1) (re_int)) (xBlt C 0 call_len c_len (He.free_ok KX G (c.t.d.fact 0 rfl)) (by decide +kernel) (ra_cons (xVar C 5) ra_nil)))))))))))) (rb_one (rs_ret (re_tup (ra_cons (xVar C 3) (ra_cons (xVar C 1) ra_nil)))))))))))
theorem ca__law_model_in (c : Says w h K) (KX : K.In h) (G : h.Ns mainGlobals mg) : Ca P w K mg base none 2 2 "_law_model_in" (m__law_model_in) := by
  obtain ⟨fd, F⟩ := c.t.d.def_ 15 (d := d__law_model_in) rfl
  exact ⟨⟨_, fd, ["_law_words_here", "_law_at_here"], fnm_of F sc__law_model_in (vi := [0, 1, 2, 3, 4, 5]) (ow := [0, 1, 2, 3, 4, 5]) (gl := ["len", "_law_is_number", "int", "_law_is_name", "min", "all"]) (by kernel_rfl) fun X W C => rb__law_model_in c KX G C, (He.glo_ok KX G (c.t.d.fact 25 rfl)), F.kp, F.bindsN fun _ _ _ _ _ _ us hl => match us, hl with | [_, _], _ => rfl⟩, fnOf_no⟩

theorem rb__law_kept_in (c : Says w h K) (KX : K.In h) (G : h.Ns mainGlobals mg) {X : Cx} {W : WX} (C : Cc P w K mg base ⟨["_law_words_here", "_law_at_here", "_law_many", "_law_kept", "_law_ahead", "_law_model_here"], defScope s__law_kept_in, [0, 1, 2, 3, 4, 5], [0, 1, 2, 3, 4, 5], ["len", "_law_is_number", "int", "_law_is_name", "_law_model_in"], true⟩ none 2 X W) : RB X W (defBody s__law_kept_in) (b__law_kept_in) :=
  (rb_cons (rs_if (rt_bool (rw_or (rt_cmp op_ge s_ge (xVar C 1) (xBlt C 0 call_len c_len (He.free_ok KX G (c.t.d.fact 0 rfl)) (by decide +kernel) (ra_cons (xVar C 0) ra_nil)) (by first | exact nobehind _ (by decide) (by decide) | rfl)) (rw_or1 (rt_not (rt_val (xCall C 1 (ca__law_is_number c KX G) (ra_cons (xIx (xVar C 0) (xVar C 1)) ra_nil))))))) (rb_one (rs_ret (re_non))) rb_nil) (rb_cons (sSet C 2 (xTyp C 2 call_intA c_int (He.free_ok KX G (c.t.d.fact 19 rfl)) (by decide +kernel) (ra_cons (xIx (xVar C 0) (xVar C 1)) ra_nil))) (rb_cons (sSet C 1 (re_bin op_addAll s_add (xVar C 1) (re_int))) (rb_cons (sSet C 3 (re_dic)) (rb_cons (sSet C 4 (re_strT [])) (rb_cons (xWhile C (rt_cmp op_lt s_lt (xBlt C 0 call_lenR c_lenD (He.free_ok KX G (c.t.d.fact 0 rfl)) (by decide +kernel) (ra_cons (xVar C 3) ra_nil)) (xVar C 2) (by first | exact nobehind _ (by decide) (by decide) | rfl)) (rb_cons (rs_if (rt_bool (rw_or (rt_cmp op_ge s_ge (xVar C 1) (xBlt C 0 call_len c_len (He.free_ok KX G (c.t.d.fact 0 rfl)) (by decide +kernel) (ra_cons (xVar C 0) ra_nil)) (by first | exact nobehind _ (by decide) (by decide) | rfl)) (rw_or (rt_not (rt_val (xCall C 3 (ca__law_is_name c KX G) (ra_cons (xIx (xVar C 0) (xVar C 1)) ra_nil)))) (rw_or1 (rt_not (rt_cmp op_gtS s_gtS (xIx (xVar C 0) (xVar C 1)) (xVar C 4) (by first | exact nobehind _ (by decide) (by decide) | rfl))))))) (rb_one (rs_ret (re_non))) rb_nil) (rb_cons (sSet C 4 (xIx (xVar C 0) (xVar C 1))) (rb_cons (rs_asg (vs := [5, 1]) (xCall C 4 (ca__law_model_in c KX G) (ra_cons (xVar C 0) (ra_cons (re_bin op_addAll s_add (xVar C 1) (re_int)) ra_nil))) (tUnp C 2 (rgs_cons (tVarS C 5) (rgs_cons (tVarS C 1) rgs_nil)))) (rb_cons (rs_if (rt_cmp op_isN s_isN (xVar C 5) re_non (by first | exact nobehind _ (by decide) (by decide) | rfl)) (rb_one (rs_ret (re_non))) rb_nil) (rb_one (rs_asg (vs := []) (xVar C 5) (rg_subD C.units64 (xVar C 3) (xVar C 4))))))))) (rb_one (rs_ret (re_ifx (rt_cmp (op_eqN C.units64) s_eq (xVar C 1) (xBlt C 0 call_len c_len (He.free_ok KX G (c.t.d.fact 0 rfl)) (by decide +kernel) (ra_cons (xVar C 0) ra_nil)) (by first | exact nobehind _ (by decide) (by decide) | rfl)) (xVar C 3) (re_non))))))))))
theorem ca__law_kept_in (c : Says w h K) (KX : K.In h) (G : h.Ns mainGlobals mg) : Ca P w K mg base none 3 2 "_law_kept_in" (m__law_kept_in) := by
  obtain ⟨fd, F⟩ := c.t.d.def_ 16 (d := d__law_kept_in) rfl
  exact ⟨⟨_, fd, ["_law_words_here", "_law_at_here"], fnm_of F sc__law_kept_in (vi := [0, 1, 2, 3, 4, 5]) (ow := [0, 1, 2, 3, 4, 5]) (gl := ["len", "_law_is_number", "int", "_law_is_name", "_law_model_in"]) (by kernel_rfl) fun X W C => rb__law_kept_in c KX G C, (He.glo_ok KX G (c.t.d.fact 26 rfl)), F.kp, F.bindsN fun _ _ _ _ _ _ us hl => match us, hl with | [_, _], _ => rfl⟩, fnOf_no⟩

theorem rb__law_due (c : Says w h K) (KX : K.In h) (G : h.Ns mainGlobals mg) {X : Cx} {W : WX} (C : Cc P w K mg base ⟨["_law_text_here", "_law_words_here", "_law_model_here", "_law_at_here", "_law_kept"], defScope s__law_due, [0, 1, 2, 3, 4], [0, 1, 2, 3, 4], ["isinstance", "str", "_law_model_in", "_law_kept_in"], true⟩ none 3 X W) : RB X W (defBody s__law_due) (b__law_due) :=
  (rb_cons (rs_if (rt_not (rt_val (xIsT C 0 1 "str" (He.free_ok KX G (c.t.d.fact 22 rfl)) (He.free_ok KX G (c.t.d.fact 14 rfl)) (by decide +kernel) (xVar C 0)))) (rb_one (rs_ret (re_non))) rb_nil) (rb_cons (sSet C 1 (xBm F.plainAttrs_str F.slot_str_split F.type_str_split mt_split ms_split (xVar C 0) (ra_cons (re_strT [32]) ra_nil))) (rb_cons (rs_asg (vs := [2, 3]) (xCall C 2 (ca__law_model_in c KX G) (ra_cons (xVar C 1) (ra_cons (re_int) ra_nil))) (tUnp C 2 (rgs_cons (tVarS C 2) (rgs_cons (tVarS C 3) rgs_nil)))) (rb_cons (sSet C 4 (re_ifx (rt_cmp op_isN s_isN (xVar C 2) re_non (by first | exact nobehind _ (by decide) (by decide) | rfl)) (re_non) (xCall C 3 (ca__law_kept_in c KX G) (ra_cons (xVar C 1) (ra_cons (xVar C 3) ra_nil))))) (rb_one (rs_ret (re_ifx (rt_cmp op_isN s_isN (xVar C 4) re_non (by first | exact nobehind _ (by decide) (by decide) | rfl)) (re_non) (re_tup (ra_cons (xVar C 2) (ra_cons (xVar C 4) ra_nil))))))))))
theorem ca__law_due (c : Says w h K) (KX : K.In h) (G : h.Ns mainGlobals mg) : Ca P w K mg base none 4 1 "_law_due" (m__law_due) := by
  obtain ⟨fd, F⟩ := c.t.d.def_ 17 (d := d__law_due) rfl
  exact ⟨⟨_, fd, ["_law_text_here"], fnm_of F sc__law_due (vi := [0, 1, 2, 3, 4]) (ow := [0, 1, 2, 3, 4]) (gl := ["isinstance", "str", "_law_model_in", "_law_kept_in"]) (by kernel_rfl) fun X W C => rb__law_due c KX G C, (He.glo_ok KX G (c.t.d.fact 27 rfl)), F.kp, F.bindsN fun _ _ _ _ _ _ us hl => match us, hl with | [_], _ => rfl⟩, fnOf_no⟩

theorem rb_FilesReader_next_word (c : Says w h K) (KX : K.In h) (G : h.Ns mainGlobals mg) {X : Cx} {W : WX} (C : Cc P w K mg base ⟨["self"], defScope s_FilesReader_next_word, [0], [0], ["len", "NoFiles"], true⟩ none 0 X W) : RB X W (defBody s_FilesReader_next_word) (b_FilesReader_next_word) :=
  (rb_cons (rs_if (rt_cmp (op_eqN C.units64) s_eq (xFldC C (fk_one (c.t.d.fact 29 rfl) (c.t.d.fact 30 rfl)) (xVar C 0)) (xBlt C 0 call_len c_len (He.free_ok KX G (c.t.d.fact 0 rfl)) (by decide +kernel) (ra_cons (xFldC C (fk_one (c.t.d.fact 29 rfl) (c.t.d.fact 31 rfl)) (xVar C 0)) ra_nil)) (by first | exact nobehind _ (by decide) (by decide) | rfl)) (rb_one (rs_raise C 1 (eb c) (He.glo_ok KX G (c.t.d.fact 28 rfl)))) rb_nil) (rb_cons (xAugAdd C (fk_one (c.t.d.fact 29 rfl) (c.t.d.fact 30 rfl)) (xVar C 0) (re_int)) (rb_one (rs_ret (xIx (xFldC C (fk_one (c.t.d.fact 29 rfl) (c.t.d.fact 31 rfl)) (xVar C 0)) (re_bin op_sub s_sub (xFldC C (fk_one (c.t.d.fact 29 rfl) (c.t.d.fact 30 rfl)) (xVar C 0)) (re_int)))))))
theorem ca_FilesReader_next_word (c : Says w h K) (KX : K.In h) (G : h.Ns mainGlobals mg) : Ma P w K mg base none 1 1 ["FilesReader"] "next_word" (m_FilesReader_next_word) := by
  obtain ⟨fd, F⟩ := c.t.d.def_ 18 (d := d_FilesReader_next_word) rfl
  exact ma_one (c.t.d.fact 29 rfl) (c.t.d.fact 32 rfl) (fnm_of F sc_FilesReader_next_word (vi := [0]) (ow := [0]) (gl := ["len", "NoFiles"]) (by kernel_rfl) fun X W C => rb_FilesReader_next_word c KX G C) (F.bindsN fun _ _ _ _ _ _ us hl => match us, hl with | [_], _ => rfl) (fnOf_no)

theorem rb_is_made_of (c : Says w h K) (KX : K.In h) (G : h.Ns mainGlobals mg) {X : Cx} {W : WX} (C : Cc P w K mg base ⟨["text", "signs", "most", "sign"], defScope s_is_made_of, [0, 1, 2], [0, 1, 2], ["len", "all"], true⟩ none 0 X W) : RB X W (defBody s_is_made_of) (b_is_made_of) :=
  (rb_one (rs_ret ((re_and (re_chain op_le s_le op_le s_le (re_int) (xBlt C 0 call_len c_len (He.free_ok KX G (c.t.d.fact 0 rfl)) (by decide +kernel) (ra_cons (xVar C 0) ra_nil)) (xVar C 2)) (re_one (xBlt C 1 (cr_all C.calm) c_all (He.free_ok KX G (c.t.d.fact 24 rfl)) (by decide +kernel) (ra_cons (xLc C finOkF [("sign", 3)] [1, 3] [3] [] (by kernel_rfl) (xSrcA (xVar C 0)) (fun XC9 C9 eKC9 => ⟨(tVarS C9 3), rts_nil, (re_cmp op_inA (s_inB false) (xVar C9 3) (xVar C9 1) (by first | exact nobehind _ (by decide) (by decide) | rfl))⟩)) ra_nil)))))))
theorem ca_is_made_of (c : Says w h K) (KX : K.In h) (G : h.Ns mainGlobals mg) : Ca P w K mg base none 1 3 "is_made_of" (m_is_made_of) := by
  obtain ⟨fd, F⟩ := c.t.d.def_ 19 (d := d_is_made_of) rfl
  exact ⟨⟨_, fd, ["text", "signs", "most"], fnm_pure (fnm_of F sc_is_made_of (vi := [0, 1, 2]) (ow := [0, 1, 2]) (gl := ["len", "all"]) (by kernel_rfl) fun X W C => rb_is_made_of c KX G C), (He.glo_ok KX G (c.t.d.fact 33 rfl)), F.kp, F.bindsN fun _ _ _ _ _ _ us hl => match us, hl with | [_, _, _], _ => rfl⟩, pureF_no fnOf_no⟩

theorem rb_is_number (c : Says w h K) (KX : K.In h) (G : h.Ns mainGlobals mg) {X : Cx} {W : WX} (C : Cc P w K mg base ⟨["text"], defScope s_is_number, [0], [0], ["is_made_of", "MOST_FIGURES", "FIGURES"], true⟩ none 1 X W) : RB X W (defBody s_is_number) (b_is_number) :=
  (rb_one (rs_ret ((re_and (xCall C 0 (ca_is_made_of c KX G) (ra_cons (xVar C 0) (ra_cons (xgStrT C 2 [48, 49, 50, 51, 52, 53, 54, 55, 56, 57] (He.str_ok KX G (c.t.d.fact 35 rfl))) (ra_cons (xgInt C 1 (He.int_ok KX G (c.t.d.fact 34 rfl))) ra_nil)))) (re_one ((re_or (re_cmp (op_neN C.units64) s_ne (xIx (xVar C 0) (re_int)) (re_strT [48]) (by first | exact nobehind _ (by decide) (by decide) | rfl)) (re_one (re_cmp (op_eqN C.units64) s_eq (xVar C 0) (re_strT [48]) (by first | exact nobehind _ (by decide) (by decide) | rfl))))))))))
theorem ca_is_number (c : Says w h K) (KX : K.In h) (G : h.Ns mainGlobals mg) : Ca P w K mg base none 2 1 "is_number" (m_is_number) := by
  obtain ⟨fd, F⟩ := c.t.d.def_ 20 (d := d_is_number) rfl
  exact ⟨⟨_, fd, ["text"], fnm_pure (fnm_of F sc_is_number (vi := [0]) (ow := [0]) (gl := ["is_made_of", "MOST_FIGURES", "FIGURES"]) (by kernel_rfl) fun X W C => rb_is_number c KX G C), (He.glo_ok KX G (c.t.d.fact 36 rfl)), F.kp, F.bindsN fun _ _ _ _ _ _ us hl => match us, hl with | [_], _ => rfl⟩, pureF_no fnOf_no⟩

theorem rb_FilesReader_number (c : Says w h K) (KX : K.In h) (G : h.Ns mainGlobals mg) {X : Cx} {W : WX} (C : Cc P w K mg base ⟨["self", "word"], defScope s_FilesReader_number, [0, 1], [0, 1], ["is_number", "NoFiles", "int"], true⟩ none 2 X W) : RB X W (defBody s_FilesReader_number) (b_FilesReader_number) :=
  (rb_cons (sSet C 1 (xMeth0 C (ca_FilesReader_next_word c KX G) (xVar C 0))) (rb_cons (rs_if (rt_not (rt_val (xCall C 0 (ca_is_number c KX G) (ra_cons (xVar C 1) ra_nil)))) (rb_one (rs_raise C 1 (eb c) (He.glo_ok KX G (c.t.d.fact 28 rfl)))) rb_nil) (rb_one (rs_ret (xTyp C 2 call_intA c_int (He.free_ok KX G (c.t.d.fact 19 rfl)) (by decide +kernel) (ra_cons (xVar C 1) ra_nil))))))
theorem ca_FilesReader_number (c : Says w h K) (KX : K.In h) (G : h.Ns mainGlobals mg) : Ma P w K mg base none 3 1 ["FilesReader"] "number" (m_FilesReader_number) := by
  obtain ⟨fd, F⟩ := c.t.d.def_ 21 (d := d_FilesReader_number) rfl
  exact ma_one (c.t.d.fact 29 rfl) (c.t.d.fact 37 rfl) (fnm_of F sc_FilesReader_number (vi := [0, 1]) (ow := [0, 1]) (gl := ["is_number", "NoFiles", "int"]) (by kernel_rfl) fun X W C => rb_FilesReader_number c KX G C) (F.bindsN fun _ _ _ _ _ _ us hl => match us, hl with | [_], _ => rfl) (fnOf_no)

theorem rb_is_name (c : Says w h K) (KX : K.In h) (G : h.Ns mainGlobals mg) {X : Cx} {W : WX} (C : Cc P w K mg base ⟨["text"], defScope s_is_name, [0], [0], ["is_made_of", "MOST_NAME", "SMALL"], true⟩ none 1 X W) : RB X W (defBody s_is_name) (b_is_name) :=
  (rb_one (rs_ret (xCall C 0 (ca_is_made_of c KX G) (ra_cons (xVar C 0) (ra_cons (xgStrT C 2 [97, 98, 99, 100, 101, 102, 103, 104, 105, 106, 107, 108, 109, 110, 111, 112, 113, 114, 115, 116, 117, 118, 119, 120, 121, 122] (He.str_ok KX G (c.t.d.fact 39 rfl))) (ra_cons (xgInt C 1 (He.int_ok KX G (c.t.d.fact 38 rfl))) ra_nil))))))
theorem ca_is_name (c : Says w h K) (KX : K.In h) (G : h.Ns mainGlobals mg) : Ca P w K mg base none 2 1 "is_name" (m_is_name) := by
  obtain ⟨fd, F⟩ := c.t.d.def_ 22 (d := d_is_name) rfl
  exact ⟨⟨_, fd, ["text"], fnm_pure (fnm_of F sc_is_name (vi := [0]) (ow := [0]) (gl := ["is_made_of", "MOST_NAME", "SMALL"]) (by kernel_rfl) fun X W C => rb_is_name c KX G C), (He.glo_ok KX G (c.t.d.fact 40 rfl)), F.kp, F.bindsN fun _ _ _ _ _ _ us hl => match us, hl with | [_], _ => rfl⟩, pureF_no fnOf_no⟩

theorem rb_FilesReader_name (c : Says w h K) (KX : K.In h) (G : h.Ns mainGlobals mg) {X : Cx} {W : WX} (C : Cc P w K mg base ⟨["self", "word"], defScope s_FilesReader_name, [0, 1], [0, 1], ["is_name", "NoFiles"], true⟩ none 2 X W) : RB X W (defBody s_FilesReader_name) (b_FilesReader_name) :=
  (rb_cons (sSet C 1 (xMeth0 C (ca_FilesReader_next_word c KX G) (xVar C 0))) (rb_cons (rs_if (rt_not (rt_val (xCall C 0 (ca_is_name c KX G) (ra_cons (xVar C 1) ra_nil)))) (rb_one (rs_raise C 1 (eb c) (He.glo_ok KX G (c.t.d.fact 28 rfl)))) rb_nil) (rb_one (rs_ret (xVar C 1)))))
theorem ca_FilesReader_name (c : Says w h K) (KX : K.In h) (G : h.Ns mainGlobals mg) : Ma P w K mg base none 3 1 ["FilesReader"] "name" (m_FilesReader_name) := by
  obtain ⟨fd, F⟩ := c.t.d.def_ 23 (d := d_FilesReader_name) rfl
  exact ma_one (c.t.d.fact 29 rfl) (c.t.d.fact 41 rfl) (fnm_of F sc_FilesReader_name (vi := [0, 1]) (ow := [0, 1]) (gl := ["is_name", "NoFiles"]) (by kernel_rfl) fun X W C => rb_FilesReader_name c KX G C) (F.bindsN fun _ _ _ _ _ _ us hl => match us, hl with | [_], _ => rfl) (fnOf_no)

theorem rb_FilesReader_files_told (c : Says w h K) (KX : K.In h) (G : h.Ns mainGlobals mg) {X : Cx} {W : WX} (C : Cc P w K mg base ⟨["self", "k", "place"], defScope s_FilesReader_files_told, [0], [0], ["range"], true⟩ none 3 X W) : RB X W (defBody s_FilesReader_files_told) (b_FilesReader_files_told) :=
  (rb_one (rs_ret (xLcX C C.tkF finOkF [("k", 1)] [0, 1] [1] ["range"] (by kernel_rfl) (xSrcR1 C 0 (He.free_ok KX G (c.t.d.fact 3 rfl)) (ra_cons (xMeth0 C (ca_FilesReader_number c KX G) (xVar C 0)) ra_nil)) (fun XC10 WC10 C10 TC10 eKC10 => ⟨(tVarS C10 1), rts_nil, (re_tup (ra_cons (xMeth0 C10 (ca_FilesReader_name c KX G) (xVar C10 0)) (ra_cons (xLcX C10 TC10 finOkF [("place", 2)] [0, 2] [2] [] (by kernel_rfl) (xSrcR1 C10 0 (He.free_ok KX G (c.t.d.fact 3 rfl)) (ra_cons (xMeth0 C10 (ca_FilesReader_number c KX G) (xVar C10 0)) ra_nil)) (fun XC11 WC11 C11 TC11 eKC11 => ⟨(tVarS C11 2), rts_nil, (xMeth0 C11 (ca_FilesReader_number c KX G) (xVar C11 0))⟩)) ra_nil)))⟩))))
theorem ca_FilesReader_files_told (c : Says w h K) (KX : K.In h) (G : h.Ns mainGlobals mg) : Ma P w K mg base none 4 1 ["FilesReader"] "files_told" (m_FilesReader_files_told) := by
  obtain ⟨fd, F⟩ := c.t.d.def_ 24 (d := d_FilesReader_files_told) rfl
  exact ma_one (c.t.d.fact 29 rfl) (c.t.d.fact 42 rfl) (fnm_of F sc_FilesReader_files_told (vi := [0]) (ow := [0]) (gl := ["range"]) (by kernel_rfl) fun X W C => rb_FilesReader_files_told c KX G C) (F.bindsN fun _ _ _ _ _ _ us hl => match us, hl with | [_], _ => rfl) (fnOf_no)

theorem rb_Files___init__ (c : Says w h K) (KX : K.In h) (G : h.Ns mainGlobals mg) {X : Cx} {W : WX} (C : Cc P w K mg base ⟨["self"], defScope s_Files___init__, [0], [0], [], true⟩ none 0 X W) : RB X W (defBody s_Files___init__) (b_Files___init__) :=
  (rb_cons (xSetFldC C (fk_one (c.t.d.fact 43 rfl) (c.t.d.fact 44 rfl)) (xVar C 0) (re_dic)) (rb_one (xSetFldC C (fk_one (c.t.d.fact 43 rfl) (c.t.d.fact 45 rfl)) (xVar C 0) (re_dic))))
theorem ca_Files___init__ (c : Says w h K) (KX : K.In h) (G : h.Ns mainGlobals mg) : Ka P w K mg base none 1 1 "Files" (m_Files___init__) := by
  obtain ⟨fd, F⟩ := c.t.d.def_ 25 (d := d_Files___init__) rfl
  exact ka_one (c.t.d.fact 46 rfl) (He.glo_ok KX G (c.t.d.fact 47 rfl)) (fnm_of F sc_Files___init__ (vi := [0]) (ow := [0]) (gl := []) (by kernel_rfl) fun X W C => rb_Files___init__ c KX G C) (F.bindsN fun _ _ _ _ _ _ us hl => match us, hl with | [_], _ => rfl) (fnOf_no)

theorem rb_Files_names (c : Says w h K) (KX : K.In h) (G : h.Ns mainGlobals mg) {X : Cx} {W : WX} (C : Cc P w K mg base ⟨["self"], defScope s_Files_names, [0], [0], ["sorted"], true⟩ none 0 X W) : RB X W (defBody s_Files_names) (b_Files_names) :=
  (rb_one (rs_ret (xBlt C 0 (call_srtK C.calm) (c_srtK true) (He.free_ok KX G (c.t.d.fact 15 rfl)) (by decide +kernel) (ra_cons (xFldC C (fk_one (c.t.d.fact 43 rfl) (c.t.d.fact 44 rfl)) (xVar C 0)) ra_nil))))
theorem ca_Files_names (c : Says w h K) (KX : K.In h) (G : h.Ns mainGlobals mg) : Ma P w K mg base none 1 1 ["Files"] "names" (m_Files_names) := by
  obtain ⟨fd, F⟩ := c.t.d.def_ 26 (d := d_Files_names) rfl
  exact ma_one (c.t.d.fact 43 rfl) (c.t.d.fact 48 rfl) (fnm_of F sc_Files_names (vi := [0]) (ow := [0]) (gl := ["sorted"]) (by kernel_rfl) fun X W C => rb_Files_names c KX G C) (F.bindsN fun _ _ _ _ _ _ us hl => match us, hl with | [_], _ => rfl) (fnOf_no)

theorem rb_Files_births_of (c : Says w h K) (KX : K.In h) (G : h.Ns mainGlobals mg) {X : Cx} {W : WX} (C : Cc P w K mg base ⟨["self", "file"], defScope s_Files_births_of, [0, 1], [0, 1], ["NoFile"], true⟩ none 0 X W) : RB X W (defBody s_Files_births_of) (b_Files_births_of) :=
  (rb_cons (rs_if (rt_cmp (op_dnotIn C.units64) (s_din true) (xVar C 1) (xFldC C (fk_one (c.t.d.fact 43 rfl) (c.t.d.fact 44 rfl)) (xVar C 0)) (by first | exact nobehind _ (by decide) (by decide) | rfl)) (rb_one (rs_raise C 0 (eb c) (He.glo_ok KX G (c.t.d.fact 49 rfl)))) rb_nil) (rb_one (rs_ret (xDGet C.units64 (xFldC C (fk_one (c.t.d.fact 43 rfl) (c.t.d.fact 44 rfl)) (xVar C 0)) (xVar C 1)))))
theorem ca_Files_births_of (c : Says w h K) (KX : K.In h) (G : h.Ns mainGlobals mg) : Ma P w K mg base none 1 2 ["Files"] "births_of" (m_Files_births_of) := by
  obtain ⟨fd, F⟩ := c.t.d.def_ 27 (d := d_Files_births_of) rfl
  exact ma_one (c.t.d.fact 43 rfl) (c.t.d.fact 50 rfl) (fnm_of F sc_Files_births_of (vi := [0, 1]) (ow := [0, 1]) (gl := ["NoFile"]) (by kernel_rfl) fun X W C => rb_Files_births_of c KX G C) (F.bindsN fun _ _ _ _ _ _ us hl => match us, hl with | [_, _], _ => rfl) (fnOf_no)

theorem rb_Files_cut (c : Says w h K) (KX : K.In h) (G : h.Ns mainGlobals mg) {X : Cx} {W : WX} (C : Cc P w K mg base ⟨["self", "file", "many", "births"], defScope s_Files_cut, [0, 1, 2, 3], [0, 1, 2, 3], ["len", "NoPlace"], true⟩ none 1 X W) : RB X W (defBody s_Files_cut) (b_Files_cut) :=
  (rb_cons (sSet C 3 (xMeth C (ca_Files_births_of c KX G) (xVar C 0) (ra_cons (xVar C 1) ra_nil))) (rb_cons (rs_if (rt_not (rt_chain op_le s_le op_le s_le (re_int) (xVar C 2) (xBlt C 0 call_len c_len (He.free_ok KX G (c.t.d.fact 0 rfl)) (by decide +kernel) (ra_cons (xVar C 3) ra_nil)))) (rb_one (rs_raise C 1 (eb c) (He.glo_ok KX G (c.t.d.fact 51 rfl)))) rb_nil) (rb_cons (rs_asg (vs := []) (xSlU (xVar C 3) (xVar C 2)) (rg_subD C.units64 (xFldC C (fk_one (c.t.d.fact 43 rfl) (c.t.d.fact 44 rfl)) (xVar C 0)) (xVar C 1))) (rb_one (rs_if (rt_cmp (op_eqN C.units64) s_eq (xVar C 2) (re_int) (by first | exact nobehind _ (by decide) (by decide) | rfl)) (rb_one (rs_do (xBm F.plainAttrs_dict F.slot_dict_pop F.type_dict_pop mt_dpop ms_dpop (xFldC C (fk_one (c.t.d.fact 43 rfl) (c.t.d.fact 44 rfl)) (xVar C 0)) (ra_cons (xVar C 1) ra_nil)))) rb_nil)))))
theorem ca_Files_cut (c : Says w h K) (KX : K.In h) (G : h.Ns mainGlobals mg) : Ma P w K mg base none 2 3 ["Files"] "cut" (m_Files_cut) := by
  obtain ⟨fd, F⟩ := c.t.d.def_ 28 (d := d_Files_cut) rfl
  exact ma_one (c.t.d.fact 43 rfl) (c.t.d.fact 52 rfl) (fnm_of F sc_Files_cut (vi := [0, 1, 2, 3]) (ow := [0, 1, 2, 3]) (gl := ["len", "NoPlace"]) (by kernel_rfl) fun X W C => rb_Files_cut c KX G C) (F.bindsN fun _ _ _ _ _ _ us hl => match us, hl with | [_, _, _], _ => rfl) (fnOf_no)

theorem rb_Files_put (c : Says w h K) (KX : K.In h) (G : h.Ns mainGlobals mg) {X : Cx} {W : WX} (C : Cc P w K mg base ⟨["self", "file", "place", "birth", "births"], defScope s_Files_put, [0, 1, 2, 3, 4], [0, 1, 2, 3, 4], ["len", "NoPlace"], true⟩ none 0 X W) : RB X W (defBody s_Files_put) (b_Files_put) :=
  (rb_cons (sSet C 4 (xBm F.plainAttrs_dict F.slot_dict_get F.type_dict_get (mt_dget2 C.units64) ms_dget2 (xFldC C (fk_one (c.t.d.fact 43 rfl) (c.t.d.fact 44 rfl)) (xVar C 0)) (ra_cons (xVar C 1) (ra_cons (re_lst ra_nil) ra_nil)))) (rb_cons (rs_if (rt_not (rt_chain op_le s_le op_le s_le (re_int) (xVar C 2) (xBlt C 0 call_len c_len (He.free_ok KX G (c.t.d.fact 0 rfl)) (by decide +kernel) (ra_cons (xVar C 4) ra_nil)))) (rb_one (rs_raise C 1 (eb c) (He.glo_ok KX G (c.t.d.fact 51 rfl)))) rb_nil) (rb_one (rs_asg (vs := []) (re_bin op_addAll s_add (re_bin op_addAll s_add (xSlU (xVar C 4) (xVar C 2)) (re_lst (ra_cons (xVar C 3) ra_nil))) (xSlL (xVar C 4) (re_bin op_addAll s_add (xVar C 2) (re_int)))) (rg_subD C.units64 (xFldC C (fk_one (c.t.d.fact 43 rfl) (c.t.d.fact 44 rfl)) (xVar C 0)) (xVar C 1))))))
theorem ca_Files_put (c : Says w h K) (KX : K.In h) (G : h.Ns mainGlobals mg) : Ma P w K mg base none 1 4 ["Files"] "put" (m_Files_put) := by
  obtain ⟨fd, F⟩ := c.t.d.def_ 29 (d := d_Files_put) rfl
  exact ma_one (c.t.d.fact 43 rfl) (c.t.d.fact 54 rfl) (fnm_of F sc_Files_put (vi := [0, 1, 2, 3, 4]) (ow := [0, 1, 2, 3, 4]) (gl := ["len", "NoPlace"]) (by kernel_rfl) fun X W C => rb_Files_put c KX G C) (F.bindsN fun _ _ _ _ _ _ us hl => match us, hl with | [_, _, _, _], _ => rfl) (fnOf_no)

theorem rb_files_with (c : Says w h K) (KX : K.In h) (G : h.Ns mainGlobals mg) {X : Cx} {W : WX} (C : Cc P w K mg base ⟨["found", "told", "file", "births", "place", "birth"], defScope s_files_with, [0, 1, 2, 3, 4, 5], [0, 1, 2, 3, 4, 5], ["enumerate"], true⟩ none 2 X W) : RB X W (defBody s_files_with) (b_files_with) :=
  (rb_cons (sForC C [2] (xSrcA (xMeth0 C (ca_Files_names c KX G) (xVar C 0))) (tVarS C 2) (rb_one (rs_do (xMeth C (ca_Files_cut c KX G) (xVar C 0) (ra_cons (xVar C 2) (ra_cons (re_int) ra_nil)))))) (rb_one (sForC C [2, 3] (xSrcA (xVar C 1)) (tUnp C 2 (rgs_cons (tVarS C 2) (rgs_cons (tVarS C 3) rgs_nil))) (rb_one (sForC C [4, 5] (xSrcEA C 0 (He.free_ok KX G (c.t.d.fact 53 rfl)) (ra_cons (xVar C 3) ra_nil)) (tUnp C 2 (rgs_cons (tVarS C 4) (rgs_cons (tVarS C 5) rgs_nil))) (rb_one (rs_do (xMeth C (ca_Files_put c KX G) (xVar C 0) (ra_cons (xVar C 2) (ra_cons (xVar C 4) (ra_cons (xVar C 5) ra_nil)))))))))))
theorem ca_files_with (c : Says w h K) (KX : K.In h) (G : h.Ns mainGlobals mg) : Ca P w K mg base none 3 2 "files_with" (m_files_with) := by
  obtain ⟨fd, F⟩ := c.t.d.def_ 30 (d := d_files_with) rfl
  exact ⟨⟨_, fd, ["found", "told"], fnm_of F sc_files_with (vi := [0, 1, 2, 3, 4, 5]) (ow := [0, 1, 2, 3, 4, 5]) (gl := ["enumerate"]) (by kernel_rfl) fun X W C => rb_files_with c KX G C, (He.glo_ok KX G (c.t.d.fact 55 rfl)), F.kp, F.bindsN fun _ _ _ _ _ _ us hl => match us, hl with | [_, _], _ => rfl⟩, fnOf_no⟩

theorem rb_Files_held (c : Says w h K) (KX : K.In h) (G : h.Ns mainGlobals mg) {X : Cx} {W : WX} (C : Cc P w K mg base ⟨["self"], defScope s_Files_held, [0], [0], ["sorted"], true⟩ none 0 X W) : RB X W (defBody s_Files_held) (b_Files_held) :=
  (rb_one (rs_ret (xBlt C 0 (call_srtK C.calm) (c_srtK true) (He.free_ok KX G (c.t.d.fact 15 rfl)) (by decide +kernel) (ra_cons (xFldC C (fk_one (c.t.d.fact 43 rfl) (c.t.d.fact 45 rfl)) (xVar C 0)) ra_nil))))
theorem ca_Files_held (c : Says w h K) (KX : K.In h) (G : h.Ns mainGlobals mg) : Ma P w K mg base none 1 1 ["Files"] "held" (m_Files_held) := by
  obtain ⟨fd, F⟩ := c.t.d.def_ 31 (d := d_Files_held) rfl
  exact ma_one (c.t.d.fact 43 rfl) (c.t.d.fact 56 rfl) (fnm_of F sc_Files_held (vi := [0]) (ow := [0]) (gl := ["sorted"]) (by kernel_rfl) fun X W C => rb_Files_held c KX G C) (F.bindsN fun _ _ _ _ _ _ us hl => match us, hl with | [_], _ => rfl) (fnOf_no)

theorem rb_Files_hold (c : Says w h K) (KX : K.In h) (G : h.Ns mainGlobals mg) {X : Cx} {W : WX} (C : Cc P w K mg base ⟨["self", "name"], defScope s_Files_hold, [0, 1], [0, 1], ["HeldAlready", "dict"], true⟩ none 0 X W) : RB X W (defBody s_Files_hold) (b_Files_hold) :=
  (rb_cons (rs_if (rt_cmp (op_din C.units64) (s_din false) (xVar C 1) (xFldC C (fk_one (c.t.d.fact 43 rfl) (c.t.d.fact 45 rfl)) (xVar C 0)) (by first | exact nobehind _ (by decide) (by decide) | rfl)) (rb_one (rs_raise C 0 (eb c) (He.glo_ok KX G (c.t.d.fact 57 rfl)))) rb_nil) (rb_one (rs_asg (vs := []) (xTyp C 1 call_dicO c_dicO (He.free_ok KX G (c.t.d.fact 58 rfl)) (by decide +kernel) (ra_cons (xFldC C (fk_one (c.t.d.fact 43 rfl) (c.t.d.fact 44 rfl)) (xVar C 0)) ra_nil)) (rg_subD C.units64 (xFldC C (fk_one (c.t.d.fact 43 rfl) (c.t.d.fact 45 rfl)) (xVar C 0)) (xVar C 1)))))
theorem ca_Files_hold (c : Says w h K) (KX : K.In h) (G : h.Ns mainGlobals mg) : Ma P w K mg base none 1 2 ["Files"] "hold" (m_Files_hold) := by
  obtain ⟨fd, F⟩ := c.t.d.def_ 32 (d := d_Files_hold) rfl
  exact ma_one (c.t.d.fact 43 rfl) (c.t.d.fact 59 rfl) (fnm_of F sc_Files_hold (vi := [0, 1]) (ow := [0, 1]) (gl := ["HeldAlready", "dict"]) (by kernel_rfl) fun X W C => rb_Files_hold c KX G C) (F.bindsN fun _ _ _ _ _ _ us hl => match us, hl with | [_, _], _ => rfl) (fnOf_no)

theorem rb_files_read (c : Says w h K) (KX : K.In h) (G : h.Ns mainGlobals mg) {X : Cx} {W : WX} (C : Cc P w K mg base ⟨["reader", "own", "held", "found", "name", "told", "k"], defScope s_files_read, [0, 1, 2, 3, 4, 5], [0, 1, 2, 3, 4, 5], ["range", "Files", "files_with", "NoFiles"], true⟩ none 4 X W) : RB X W (defBody s_files_read) (b_files_read) :=
  (rb_cons (sSet C 1 (xMeth0 C (ca_FilesReader_files_told c KX G) (xVar C 0))) (rb_cons (xSetLcX C C.tkF 2 finOkF [("k", 6)] [0, 6] [6] [] (by kernel_rfl) (xSrcR1 C 0 (He.free_ok KX G (c.t.d.fact 3 rfl)) (ra_cons (xMeth0 C (ca_FilesReader_number c KX G) (xVar C 0)) ra_nil)) (fun XC12 WC12 C12 TC12 eKC12 => ⟨(tVarS C12 6), rts_nil, (re_tup (ra_cons (xMeth0 C12 (ca_FilesReader_name c KX G) (xVar C12 0)) (ra_cons (xMeth0 C12 (ca_FilesReader_files_told c KX G) (xVar C12 0)) ra_nil)))⟩)) (rb_cons (sSet C 3 (xMake0 C 1 (ca_Files___init__ c KX G))) (rb_cons (sForC C [4, 5] (xSrcA (xVar C 2)) (tUnp C 2 (rgs_cons (tVarS C 4) (rgs_cons (tVarS C 5) rgs_nil))) (rb_cons (rs_do (xCall C 2 (ca_files_with c KX G) (ra_cons (xVar C 3) (ra_cons (xVar C 5) ra_nil)))) (rb_cons (rs_if (rt_cmp op_inA (s_inB false) (xVar C 4) (xMeth0 C (ca_Files_held c KX G) (xVar C 3)) (by first | exact nobehind _ (by decide) (by decide) | rfl)) (rb_one (rs_raise C 3 (eb c) (He.glo_ok KX G (c.t.d.fact 28 rfl)))) rb_nil) (rb_one (rs_do (xMeth C (ca_Files_hold c KX G) (xVar C 3) (ra_cons (xVar C 4) ra_nil))))))) (rb_cons (rs_do (xCall C 2 (ca_files_with c KX G) (ra_cons (xVar C 3) (ra_cons (xVar C 1) ra_nil)))) (rb_one (rs_ret (xVar C 3))))))))
theorem ca_files_read (c : Says w h K) (KX : K.In h) (G : h.Ns mainGlobals mg) : Ca P w K mg base none 5 1 "files_read" (m_files_read) := by
  obtain ⟨fd, F⟩ := c.t.d.def_ 33 (d := d_files_read) rfl
  exact ⟨⟨_, fd, ["reader"], fnm_of F sc_files_read (vi := [0, 1, 2, 3, 4, 5]) (ow := [0, 1, 2, 3, 4, 5]) (gl := ["range", "Files", "files_with", "NoFiles"]) (by kernel_rfl) fun X W C => rb_files_read c KX G C, (He.glo_ok KX G (c.t.d.fact 60 rfl)), F.kp, F.bindsN fun _ _ _ _ _ _ us hl => match us, hl with | [_], _ => rfl⟩, fnOf_no⟩

theorem rb_FilesReader___init__ (c : Says w h K) (KX : K.In h) (G : h.Ns mainGlobals mg) {X : Cx} {W : WX} (C : Cc P w K mg base ⟨["self", "words"], defScope s_FilesReader___init__, [0, 1], [0, 1], [], true⟩ none 0 X W) : RB X W (defBody s_FilesReader___init__) (b_FilesReader___init__) :=
  (rb_cons (xSetFldC C (fk_one (c.t.d.fact 29 rfl) (c.t.d.fact 31 rfl)) (xVar C 0) (xVar C 1)) (rb_one (xSetFldC C (fk_one (c.t.d.fact 29 rfl) (c.t.d.fact 30 rfl)) (xVar C 0) (re_int))))
theorem ca_FilesReader___init__ (c : Says w h K) (KX : K.In h) (G : h.Ns mainGlobals mg) : Ka P w K mg base none 1 2 "FilesReader" (m_FilesReader___init__) := by
  obtain ⟨fd, F⟩ := c.t.d.def_ 34 (d := d_FilesReader___init__) rfl
  exact ka_one (c.t.d.fact 61 rfl) (He.glo_ok KX G (c.t.d.fact 62 rfl)) (fnm_of F sc_FilesReader___init__ (vi := [0, 1]) (ow := [0, 1]) (gl := []) (by kernel_rfl) fun X W C => rb_FilesReader___init__ c KX G C) (F.bindsN fun _ _ _ _ _ _ us hl => match us, hl with | [_, _], _ => rfl) (fnOf_no)

theorem rb_Files_many (c : Says w h K) (KX : K.In h) (G : h.Ns mainGlobals mg) {X : Cx} {W : WX} (C : Cc P w K mg base ⟨["self", "file"], defScope s_Files_many, [0, 1], [0, 1], ["len"], true⟩ none 0 X W) : RB X W (defBody s_Files_many) (b_Files_many) :=
  (rb_one (rs_ret (xBlt C 0 call_len c_len (He.free_ok KX G (c.t.d.fact 0 rfl)) (by decide +kernel) (ra_cons (xBm F.plainAttrs_dict F.slot_dict_get F.type_dict_get (mt_dget2 C.units64) ms_dget2 (xFldC C (fk_one (c.t.d.fact 43 rfl) (c.t.d.fact 44 rfl)) (xVar C 0)) (ra_cons (xVar C 1) (ra_cons (re_lst ra_nil) ra_nil))) ra_nil))))
theorem ca_Files_many (c : Says w h K) (KX : K.In h) (G : h.Ns mainGlobals mg) : Ma P w K mg base none 1 2 ["Files"] "many" (m_Files_many) := by
  obtain ⟨fd, F⟩ := c.t.d.def_ 35 (d := d_Files_many) rfl
  exact ma_one (c.t.d.fact 43 rfl) (c.t.d.fact 63 rfl) (fnm_of F sc_Files_many (vi := [0, 1]) (ow := [0, 1]) (gl := ["len"]) (by kernel_rfl) fun X W C => rb_Files_many c KX G C) (F.bindsN fun _ _ _ _ _ _ us hl => match us, hl with | [_, _], _ => rfl) (fnOf_no)

theorem rb_Files_birth (c : Says w h K) (KX : K.In h) (G : h.Ns mainGlobals mg) {X : Cx} {W : WX} (C : Cc P w K mg base ⟨["self", "file", "place", "births"], defScope s_Files_birth, [0, 1, 2, 3], [0, 1, 2, 3], ["len", "NoPlace"], true⟩ none 1 X W) : RB X W (defBody s_Files_birth) (b_Files_birth) :=
  (rb_cons (sSet C 3 (xMeth C (ca_Files_births_of c KX G) (xVar C 0) (ra_cons (xVar C 1) ra_nil))) (rb_cons (rs_if (rt_not (rt_chain op_le s_le op_lt s_lt (re_int) (xVar C 2) (xBlt C 0 call_len c_len (He.free_ok KX G (c.t.d.fact 0 rfl)) (by decide +kernel) (ra_cons (xVar C 3) ra_nil)))) (rb_one (rs_raise C 1 (eb c) (He.glo_ok KX G (c.t.d.fact 51 rfl)))) rb_nil) (rb_one (rs_ret (xIx (xVar C 3) (xVar C 2))))))
theorem ca_Files_birth (c : Says w h K) (KX : K.In h) (G : h.Ns mainGlobals mg) : Ma P w K mg base none 2 3 ["Files"] "birth" (m_Files_birth) := by
  obtain ⟨fd, F⟩ := c.t.d.def_ 36 (d := d_Files_birth) rfl
  exact ma_one (c.t.d.fact 43 rfl) (c.t.d.fact 64 rfl) (fnm_of F sc_Files_birth (vi := [0, 1, 2, 3]) (ow := [0, 1, 2, 3]) (gl := ["len", "NoPlace"]) (by kernel_rfl) fun X W C => rb_Files_birth c KX G C) (F.bindsN fun _ _ _ _ _ _ us hl => match us, hl with | [_, _, _], _ => rfl) (fnOf_no)

theorem rb_files_words (c : Says w h K) (KX : K.In h) (G : h.Ns mainGlobals mg) {X : Cx} {W : WX} (C : Cc P w K mg base ⟨["files", "found", "file", "births", "place", "birth"], defScope s_files_words, [0, 1, 2, 3], [0, 1, 2, 3], ["len", "str", "range"], true⟩ none 2 X W) : RB X W (defBody s_files_words) (b_files_words) :=
  (rb_cons (sSet C 1 (re_cel (ra_cons (xTyp C 1 call_strA c_str (He.free_ok KX G (c.t.d.fact 14 rfl)) (by decide +kernel) (ra_cons (xBlt C 0 call_len c_len (He.free_ok KX G (c.t.d.fact 0 rfl)) (by decide +kernel) (ra_cons (xMeth0 C (ca_Files_names c KX G) (xVar C 0)) ra_nil)) ra_nil)) ra_nil))) (rb_cons (sForC C [2] (xSrcA (xMeth0 C (ca_Files_names c KX G) (xVar C 0))) (tVarS C 2) (rb_cons (xSetLc2 C 3 finOkF [("place", 4)] [0, 2, 4] [4] [] (by kernel_rfl) (xSrcR1 C 2 (He.free_ok KX G (c.t.d.fact 3 rfl)) (ra_cons (xMeth C (ca_Files_many c KX G) (xVar C 0) (ra_cons (xVar C 2) ra_nil)) ra_nil)) (fun XC13 C13 eKC13 => ⟨(tVarS C13 4), rts_nil, (xMeth C13 (ca_Files_birth c KX G) (xVar C13 0) (ra_cons (xVar C13 2) (ra_cons (xVar C13 4) ra_nil)))⟩)) (rb_one (rs_do (xBm F.plainAttrs_list F.slot_list_extend F.type_list_extend mt_ext ms_extend (xVar C 1) (ra_cons (re_bin op_addAll s_add (re_lst (ra_cons (xVar C 2) (ra_cons (xTyp C 1 call_strA c_str (He.free_ok KX G (c.t.d.fact 14 rfl)) (by decide +kernel) (ra_cons (xBlt C 0 call_len c_len (He.free_ok KX G (c.t.d.fact 0 rfl)) (by decide +kernel) (ra_cons (xVar C 3) ra_nil)) ra_nil)) ra_nil))) (xLc C finOkF [("birth", 5)] [5] [5] ["str"] (by kernel_rfl) (xSrcA (xVar C 3)) (fun XC14 C14 eKC14 => ⟨(tVarS C14 5), rts_nil, (xTyp C14 0 call_strA c_str (He.free_ok KX G (c.t.d.fact 14 rfl)) (by decide +kernel) (ra_cons (xVar C14 5) ra_nil))⟩))) ra_nil)))))) (rb_one (rs_ret (re_frz (xVar C 1))))))
theorem ca_files_words (c : Says w h K) (KX : K.In h) (G : h.Ns mainGlobals mg) : Ca P w K mg base none 3 1 "files_words" (m_files_words) := by
  obtain ⟨fd, F⟩ := c.t.d.def_ 37 (d := d_files_words) rfl
  exact ⟨⟨_, fd, ["files"], fnm_pure (fnm_of F sc_files_words (vi := [0, 1, 2, 3]) (ow := [0, 1, 2, 3]) (gl := ["len", "str", "range"]) (by kernel_rfl) fun X W C => rb_files_words c KX G C), (He.glo_ok KX G (c.t.d.fact 65 rfl)), F.kp, F.bindsN fun _ _ _ _ _ _ us hl => match us, hl with | [_], _ => rfl⟩, pureF_no fnOf_no⟩

theorem rb_Files_want_held (c : Says w h K) (KX : K.In h) (G : h.Ns mainGlobals mg) {X : Cx} {W : WX} (C : Cc P w K mg base ⟨["self", "name"], defScope s_Files_want_held, [0, 1], [0, 1], ["NotHeld"], true⟩ none 0 X W) : RB X W (defBody s_Files_want_held) (b_Files_want_held) :=
  (rb_one (rs_if (rt_cmp (op_dnotIn C.units64) (s_din true) (xVar C 1) (xFldC C (fk_one (c.t.d.fact 43 rfl) (c.t.d.fact 45 rfl)) (xVar C 0)) (by first | exact nobehind _ (by decide) (by decide) | rfl)) (rb_one (rs_raise C 0 (eb c) (He.glo_ok KX G (c.t.d.fact 66 rfl)))) rb_nil))
theorem ca_Files_want_held (c : Says w h K) (KX : K.In h) (G : h.Ns mainGlobals mg) : Ma P w K mg base none 1 2 ["Files"] "want_held" (m_Files_want_held) := by
  obtain ⟨fd, F⟩ := c.t.d.def_ 38 (d := d_Files_want_held) rfl
  exact ma_one (c.t.d.fact 43 rfl) (c.t.d.fact 67 rfl) (fnm_of F sc_Files_want_held (vi := [0, 1]) (ow := [0, 1]) (gl := ["NotHeld"]) (by kernel_rfl) fun X W C => rb_Files_want_held c KX G C) (F.bindsN fun _ _ _ _ _ _ us hl => match us, hl with | [_, _], _ => rfl) (fnOf_no)

theorem rb_Files_of_held (c : Says w h K) (KX : K.In h) (G : h.Ns mainGlobals mg) {X : Cx} {W : WX} (C : Cc P w K mg base ⟨["self", "name", "found", "file", "births", "place", "birth"], defScope s_Files_of_held, [0, 1, 2, 3, 4, 5, 6], [0, 1, 2, 3, 4, 5, 6], ["Files", "enumerate"], true⟩ none 2 X W) : RB X W (defBody s_Files_of_held) (b_Files_of_held) :=
  (rb_cons (rs_do (xMeth C (ca_Files_want_held c KX G) (xVar C 0) (ra_cons (xVar C 1) ra_nil))) (rb_cons (sSet C 2 (xMake0 C 0 (ca_Files___init__ c KX G))) (rb_cons (rs_forItems C [3, 4] (xDGet C.units64 (xFldC C (fk_one (c.t.d.fact 43 rfl) (c.t.d.fact 45 rfl)) (xVar C 0)) (xVar C 1)) (tUnp C 2 (rgs_cons (tVarS C 3) (rgs_cons (tVarS C 4) rgs_nil))) (rb_one (sForC C [5, 6] (xSrcEA C 1 (He.free_ok KX G (c.t.d.fact 53 rfl)) (ra_cons (xVar C 4) ra_nil)) (tUnp C 2 (rgs_cons (tVarS C 5) (rgs_cons (tVarS C 6) rgs_nil))) (rb_one (rs_do (xMeth C (ca_Files_put c KX G) (xVar C 2) (ra_cons (xVar C 3) (ra_cons (xVar C 5) (ra_cons (xVar C 6) ra_nil))))))))) (rb_one (rs_ret (xVar C 2))))))
theorem ca_Files_of_held (c : Says w h K) (KX : K.In h) (G : h.Ns mainGlobals mg) : Ma P w K mg base none 3 2 ["Files"] "of_held" (m_Files_of_held) := by
  obtain ⟨fd, F⟩ := c.t.d.def_ 39 (d := d_Files_of_held) rfl
  exact ma_one (c.t.d.fact 43 rfl) (c.t.d.fact 68 rfl) (fnm_of F sc_Files_of_held (vi := [0, 1, 2, 3, 4, 5, 6]) (ow := [0, 1, 2, 3, 4, 5, 6]) (gl := ["Files", "enumerate"]) (by kernel_rfl) fun X W C => rb_Files_of_held c KX G C) (F.bindsN fun _ _ _ _ _ _ us hl => match us, hl with | [_, _], _ => rfl) (fnOf_no)

theorem rb_files_text (c : Says w h K) (KX : K.In h) (G : h.Ns mainGlobals mg) {X : Cx} {W : WX} (C : Cc P w K mg base ⟨["files", "words", "name"], defScope s_files_text, [0, 1, 2], [0, 1, 2], ["files_words", "len", "str"], true⟩ none 3 X W) : RB X W (defBody s_files_text) (b_files_text) :=
  (rb_cons (sSet C 1 (re_bin op_addAll s_addC (xCall C 0 (ca_files_words c KX G) (ra_cons (xVar C 0) ra_nil)) (re_lst (ra_cons (xTyp C 2 call_strA c_str (He.free_ok KX G (c.t.d.fact 14 rfl)) (by decide +kernel) (ra_cons (xBlt C 1 call_len c_len (He.free_ok KX G (c.t.d.fact 0 rfl)) (by decide +kernel) (ra_cons (xMeth0 C (ca_Files_held c KX G) (xVar C 0)) ra_nil)) ra_nil)) ra_nil)))) (rb_cons (sForC C [2] (xSrcA (xMeth0 C (ca_Files_held c KX G) (xVar C 0))) (tVarS C 2) (rb_cons (rs_do (xBm F.plainAttrs_list F.slot_list_append F.type_list_append mt_app ms_append (xVar C 1) (ra_cons (xVar C 2) ra_nil))) (rb_one (rs_do (xBm F.plainAttrs_list F.slot_list_extend F.type_list_extend mt_ext ms_extend (xVar C 1) (ra_cons (xCall C 0 (ca_files_words c KX G) (ra_cons (xMeth C (ca_Files_of_held c KX G) (xVar C 0) (ra_cons (xVar C 2) ra_nil)) ra_nil)) ra_nil)))))) (rb_one (rs_ret (xBm F.plainAttrs_str F.slot_str_join F.type_str_join mt_join ms_join (re_strT [32]) (ra_cons (xVar C 1) ra_nil))))))
theorem ca_files_text (c : Says w h K) (KX : K.In h) (G : h.Ns mainGlobals mg) : Ca P w K mg base none 4 1 "files_text" (m_files_text) := by
  obtain ⟨fd, F⟩ := c.t.d.def_ 40 (d := d_files_text) rfl
  exact ⟨⟨_, fd, ["files"], fnm_pure (fnm_of F sc_files_text (vi := [0, 1, 2]) (ow := [0, 1, 2]) (gl := ["files_words", "len", "str"]) (by kernel_rfl) fun X W C => rb_files_text c KX G C), (He.glo_ok KX G (c.t.d.fact 69 rfl)), F.kp, F.bindsN fun _ _ _ _ _ _ us hl => match us, hl with | [_], _ => rfl⟩, pureF_no fnOf_no⟩

theorem rb_read_files (c : Says w h K) (KX : K.In h) (G : h.Ns mainGlobals mg) {X : Cx} {W : WX} (C : Cc P w K mg base ⟨["text", "found"], defScope s_read_files, [0, 1], [0, 1], ["isinstance", "str", "NoFiles", "files_read", "FilesReader", "files_text"], true⟩ none 5 X W) : RB X W (defBody s_read_files) (b_read_files) :=
  (rb_cons (rs_if (rt_not (rt_val (xIsT C 0 1 "str" (He.free_ok KX G (c.t.d.fact 22 rfl)) (He.free_ok KX G (c.t.d.fact 14 rfl)) (by decide +kernel) (xVar C 0)))) (rb_one (rs_raise C 2 (eb c) (He.glo_ok KX G (c.t.d.fact 28 rfl)))) rb_nil) (rb_cons (sSet C 1 (xCall C 3 (ca_files_read c KX G) (ra_cons (xMake C 4 (ca_FilesReader___init__ c KX G) (ra_cons (xBm F.plainAttrs_str F.slot_str_split F.type_str_split mt_split ms_split (xVar C 0) (ra_cons (re_strT [32]) ra_nil)) ra_nil)) ra_nil))) (rb_cons (rs_if (rt_cmp (op_neN C.units64) s_ne (xCall C 5 (ca_files_text c KX G) (ra_cons (xVar C 1) ra_nil)) (xVar C 0) (by first | exact nobehind _ (by decide) (by decide) | rfl)) (rb_one (rs_raise C 2 (eb c) (He.glo_ok KX G (c.t.d.fact 28 rfl)))) rb_nil) (rb_one (rs_ret (xVar C 1))))))
theorem ca_read_files (c : Says w h K) (KX : K.In h) (G : h.Ns mainGlobals mg) : Ca P w K mg base none 6 1 "read_files" (m_read_files) := by
  obtain ⟨fd, F⟩ := c.t.d.def_ 41 (d := d_read_files) rfl
  exact ⟨⟨_, fd, ["text"], fnm_of F sc_read_files (vi := [0, 1]) (ow := [0, 1]) (gl := ["isinstance", "str", "NoFiles", "files_read", "FilesReader", "files_text"]) (by kernel_rfl) fun X W C => rb_read_files c KX G C, (He.glo_ok KX G (c.t.d.fact 70 rfl)), F.kp, F.bindsN fun _ _ _ _ _ _ us hl => match us, hl with | [_], _ => rfl⟩, fnOf_no⟩

theorem rb__law_rows (c : Says w h K) (KX : K.In h) (G : h.Ns mainGlobals mg) {X : Cx} {W : WX} (C : Cc P w K mg base ⟨["_law_files", "_law_found", "_law_name_here", "_law_place"], defScope s__law_rows, [0, 1, 2], [0, 1, 2], ["range"], true⟩ none 2 X W) : RB X W (defBody s__law_rows) (b__law_rows) :=
  (rb_cons (sSet C 1 (re_dic)) (rb_cons (sForC C [2] (xSrcA (xMeth0 C (ca_Files_names c KX G) (xVar C 0))) (tVarS C 2) (rb_one (rs_asg (vs := []) (xLc C finOkF [("_law_place", 3)] [0, 2, 3] [3] [] (by kernel_rfl) (xSrcR1 C 0 (He.free_ok KX G (c.t.d.fact 3 rfl)) (ra_cons (xMeth C (ca_Files_many c KX G) (xVar C 0) (ra_cons (xVar C 2) ra_nil)) ra_nil)) (fun XC16 C16 eKC16 => ⟨(tVarS C16 3), rts_nil, (xMeth C16 (ca_Files_birth c KX G) (xVar C16 0) (ra_cons (xVar C16 2) (ra_cons (xVar C16 3) ra_nil)))⟩)) (rg_subD C.units64 (xVar C 1) (xVar C 2))))) (rb_one (rs_ret (xVar C 1)))))
theorem ca__law_rows (c : Says w h K) (KX : K.In h) (G : h.Ns mainGlobals mg) : Ca P w K mg base none 3 1 "_law_rows" (m__law_rows) := by
  obtain ⟨fd, F⟩ := c.t.d.def_ 42 (d := d__law_rows) rfl
  exact ⟨⟨_, fd, ["_law_files"], fnm_of F sc__law_rows (vi := [0, 1, 2]) (ow := [0, 1, 2]) (gl := ["range"]) (by kernel_rfl) fun X W C => rb__law_rows c KX G C, (He.glo_ok KX G (c.t.d.fact 71 rfl)), F.kp, F.bindsN fun _ _ _ _ _ _ us hl => match us, hl with | [_], _ => rfl⟩, fnOf_no⟩

theorem rb__law_refusalH (ac : Nat × Str) (c : Says w h K) (KX : K.In h) (G : h.Ns mainGlobals mg) {X : Cx} {W : WX} (C : Cc P w K mg base ⟨["_law_e", "_law_some", "_law_names_here"], defScope s__law_refusal, [0, 1, 2], [0, 1, 2], ["isinstance", "NoDeed", "HeldAlready", "Gone", "Full", "NoHouse", "NoFiles", "NoFile", "NoDisk", "NoRow", "NoRoom", "NoPlace", "NoMark", "Stopped", "NotHeld", "NotClosed", "NotBlank", "ValueError"], true⟩ (some ac) 0 X W) : RB X W (defBody s__law_refusal) (b__law_refusalH ac) :=
  (rb_cons (sSet C 1 (re_lst (ra_cons (xIsEo C 0 4 (eb c) (He.free_ok KX G (c.t.d.fact 22 rfl)) (He.glo_ok KX G (c.t.d.fact 74 rfl)) (xVar C 0)) (ra_cons (xIsEo C 0 3 (eb c) (He.free_ok KX G (c.t.d.fact 22 rfl)) (He.glo_ok KX G (c.t.d.fact 73 rfl)) (xVar C 0)) (ra_cons (xIsEo C 0 2 (eb c) (He.free_ok KX G (c.t.d.fact 22 rfl)) (He.glo_ok KX G (c.t.d.fact 57 rfl)) (xVar C 0)) (ra_cons (xIsEo C 0 1 (eb c) (He.free_ok KX G (c.t.d.fact 22 rfl)) (He.glo_ok KX G (c.t.d.fact 72 rfl)) (xVar C 0)) ra_nil)))))) (rb_cons (sSet C 1 (re_bin op_addAll s_add (xVar C 1) (re_lst (ra_cons (xIsEo C 0 8 (eb c) (He.free_ok KX G (c.t.d.fact 22 rfl)) (He.glo_ok KX G (c.t.d.fact 76 rfl)) (xVar C 0)) (ra_cons (xIsEo C 0 7 (eb c) (He.free_ok KX G (c.t.d.fact 22 rfl)) (He.glo_ok KX G (c.t.d.fact 49 rfl)) (xVar C 0)) (ra_cons (xIsEo C 0 6 (eb c) (He.free_ok KX G (c.t.d.fact 22 rfl)) (He.glo_ok KX G (c.t.d.fact 28 rfl)) (xVar C 0)) (ra_cons (xIsEo C 0 5 (eb c) (He.free_ok KX G (c.t.d.fact 22 rfl)) (He.glo_ok KX G (c.t.d.fact 75 rfl)) (xVar C 0)) ra_nil))))))) (rb_cons (sSet C 1 (re_bin op_addAll s_add (xVar C 1) (re_lst (ra_cons (xIsEo C 0 12 (eb c) (He.free_ok KX G (c.t.d.fact 22 rfl)) (He.glo_ok KX G (c.t.d.fact 79 rfl)) (xVar C 0)) (ra_cons (xIsEo C 0 11 (eb c) (He.free_ok KX G (c.t.d.fact 22 rfl)) (He.glo_ok KX G (c.t.d.fact 51 rfl)) (xVar C 0)) (ra_cons (xIsEo C 0 10 (eb c) (He.free_ok KX G (c.t.d.fact 22 rfl)) (He.glo_ok KX G (c.t.d.fact 78 rfl)) (xVar C 0)) (ra_cons (xIsEo C 0 9 (eb c) (He.free_ok KX G (c.t.d.fact 22 rfl)) (He.glo_ok KX G (c.t.d.fact 77 rfl)) (xVar C 0)) ra_nil))))))) (rb_cons (sSet C 1 (re_bin op_addAll s_add (xVar C 1) (re_lst (ra_cons (xIsEo C 0 16 (eb c) (He.free_ok KX G (c.t.d.fact 22 rfl)) (He.glo_ok KX G (c.t.d.fact 82 rfl)) (xVar C 0)) (ra_cons (xIsEo C 0 15 (eb c) (He.free_ok KX G (c.t.d.fact 22 rfl)) (He.glo_ok KX G (c.t.d.fact 81 rfl)) (xVar C 0)) (ra_cons (xIsEo C 0 14 (eb c) (He.free_ok KX G (c.t.d.fact 22 rfl)) (He.glo_ok KX G (c.t.d.fact 66 rfl)) (xVar C 0)) (ra_cons (xIsEo C 0 13 (eb c) (He.free_ok KX G (c.t.d.fact 22 rfl)) (He.glo_ok KX G (c.t.d.fact 80 rfl)) (xVar C 0)) ra_nil))))))) (rb_cons (sSet C 2 (re_lst (ra_cons (re_strT [70, 117, 108, 108]) (ra_cons (re_strT [71, 111, 110, 101]) (ra_cons (re_strT [72, 101, 108, 100, 65, 108, 114, 101, 97, 100, 121]) (ra_cons (re_strT [78, 111, 68, 101, 101, 100]) (ra_cons (re_strT [78, 111, 68, 105, 115, 107]) (ra_cons (re_strT [78, 111, 70, 105, 108, 101]) (ra_cons (re_strT [78, 111, 70, 105, 108, 101, 115]) (ra_cons (re_strT [78, 111, 72, 111, 117, 115, 101]) (ra_cons (re_strT [78, 111, 77, 97, 114, 107]) (ra_cons (re_strT [78, 111, 80, 108, 97, 99, 101]) ra_nil)))))))))))) (rb_cons (sSet C 2 (re_bin op_addAll s_add (xVar C 2) (re_lst (ra_cons (re_strT [78, 111, 82, 111, 111, 109]) (ra_cons (re_strT [78, 111, 82, 111, 119]) (ra_cons (re_strT [78, 111, 116, 66, 108, 97, 110, 107]) (ra_cons (re_strT [78, 111, 116, 67, 108, 111, 115, 101, 100]) (ra_cons (re_strT [78, 111, 116, 72, 101, 108, 100]) (ra_cons (re_strT [83, 116, 111, 112, 112, 101, 100]) ra_nil))))))))) (rb_cons (rs_if (rt_bool (rw_or (rt_not (rt_val (xIsEv C 0 17 (eb c) (He.free_ok KX G (c.t.d.fact 22 rfl)) (He.free_ok KX G (c.t.d.fact 83 rfl)) (xVar C 0)))) (rw_or1 (rt_cmp (op_neN C.units64) s_ne (xBm F.plainAttrs_list F.slot_list_count F.type_list_count mt_cntB ms_cntB (xVar C 1) (ra_cons (re_bl) ra_nil)) (re_int) (by first | exact nobehind _ (by decide) (by decide) | rfl))))) (rb_one (rs_ret (re_strT [111, 116, 104, 101, 114]))) rb_nil) (rb_one (rs_ret (xIx (xVar C 2) (xBm F.plainAttrs_list F.slot_list_index F.type_list_index mt_ixB ms_ixB (xVar C 1) (ra_cons (re_bl) ra_nil))))))))))))
theorem ca__law_refusalH (ac : Nat × Str) (c : Says w h K) (KX : K.In h) (G : h.Ns mainGlobals mg) : Ca P w K mg base (some ac) 1 1 "_law_refusal" (m__law_refusalH ac) := by
  obtain ⟨fd, F⟩ := c.t.d.def_ 43 (d := d__law_refusal) rfl
  exact ⟨⟨_, fd, ["_law_e"], fnm_pure (fnm_of F sc__law_refusal (vi := [0, 1, 2]) (ow := [0, 1, 2]) (gl := ["isinstance", "NoDeed", "HeldAlready", "Gone", "Full", "NoHouse", "NoFiles", "NoFile", "NoDisk", "NoRow", "NoRoom", "NoPlace", "NoMark", "Stopped", "NotHeld", "NotClosed", "NotBlank", "ValueError"]) (by kernel_rfl) fun X W C => rb__law_refusalH ac c KX G C), (He.glo_ok KX G (c.t.d.fact 84 rfl)), F.kp, F.bindsN fun _ _ _ _ _ _ us hl => match us, hl with | [_], _ => rfl⟩, pureF_no fnOf_no⟩

theorem rb__law_told (c : Says w h K) (KX : K.In h) (G : h.Ns mainGlobals mg) {X : Cx} {W : WX} (C : Cc P w K mg base ⟨["_law_text_here", "_law_told_here", "_law_files", "_law_e", "_law_name_here"], defScope s__law_told, [0, 1, 2, 3], [0, 1, 2, 3], ["read_files", "dict", "_law_rows", "_law_refusal", "CleanError"], true⟩ none 6 X W) : RB X W (defBody s__law_told) (b__law_told) :=
  (rb_cons (sSet C 1 (re_non)) (rb_cons (rs_tryAs C 3 4 (eb c) (He.glo_ok KX G (c.t.d.fact 85 rfl)) (fun X7 W7 CT7 => (rb_cons (sSet CT7 2 (xCall CT7 0 (ca_read_files c KX G) (ra_cons (xVar CT7 0) ra_nil))) (rb_one (sSet CT7 1 (re_tup (ra_cons (xCall CT7 2 (ca__law_rows c KX G) (ra_cons (xVar CT7 2) ra_nil)) (ra_cons (xTyp CT7 1 (call_dicP CT7.calm) c_dicP (He.free_ok KX G (c.t.d.fact 58 rfl)) (by decide +kernel) (ra_cons (xLc CT7 finOkF [("_law_name_here", 4)] [2, 4] [4] ["_law_rows"] (by kernel_rfl) (xSrcA (xMeth0 CT7 (ca_Files_held c KX G) (xVar CT7 2))) (fun XC15 C15 eKC15 => ⟨(tVarS C15 4), rts_nil, (re_tup (ra_cons (xVar C15 4) (ra_cons (xCall C15 0 (ca__law_rows c KX G) (ra_cons (xMeth C15 (ca_Files_of_held c KX G) (xVar C15 2) (ra_cons (xVar C15 4) ra_nil)) ra_nil)) ra_nil)))⟩)) ra_nil)) ra_nil))))))) (fun X7 ac7_0 CS7_0 => (rb_one (sSet CS7_0 1 (re_ifx (rt_cmp (op_eqN CS7_0.units64) s_eq (xCall CS7_0 3 (ca__law_refusalH ac7_0 c KX G) (ra_cons (xVar CS7_0 3) ra_nil)) (re_strT [78, 111, 70, 105, 108, 101, 115]) (by first | exact nobehind _ (by decide) (by decide) | rfl)) (re_non) (re_strT [111, 116, 104, 101, 114])))))) (rb_one (rs_ret (xVar C 1)))))
theorem ca__law_told (c : Says w h K) (KX : K.In h) (G : h.Ns mainGlobals mg) : Ca P w K mg base none 7 1 "_law_told" (m__law_told) := by
  obtain ⟨fd, F⟩ := c.t.d.def_ 44 (d := d__law_told) rfl
  exact ⟨⟨_, fd, ["_law_text_here"], fnm_of F sc__law_told (vi := [0, 1, 2, 3]) (ow := [0, 1, 2, 3]) (gl := ["read_files", "dict", "_law_rows", "_law_refusal", "CleanError"]) (by kernel_rfl) fun X W C => rb__law_told c KX G C, (He.glo_ok KX G (c.t.d.fact 86 rfl)), F.kp, F.bindsN fun _ _ _ _ _ _ us hl => match us, hl with | [_], _ => rfl⟩, fnOf_no⟩

theorem rb_law (c : Says w h K) (KX : K.In h) (G : h.Ns mainGlobals mg) {X : Cx} {W : WX} (C : Cc P w K mg base ⟨["_law_script", "_law_k", "_law_pot_here", "_law_model_here", "_law_kept", "_law_right", "_law_text_here", "_law_turn", "_law_due_here"], defScope s_law, [0, 1, 2, 3, 4, 5, 6, 7, 8], [0, 1, 2, 3, 4, 5, 6, 7, 8], ["range", "len", "min", "max", "_law_pot", "_law_models", "_law_text", "_law_take", "_law_spoilt", "_law_drawn", "_law_due", "_law_told"], true⟩ none 7 X W) : RB X W (defBody s_law) (b_law) :=
  (rb_cons (sForC C [1] (xSrcR1 C 0 (He.free_ok KX G (c.t.d.fact 3 rfl)) (ra_cons (xBlt C 3 (call_max2 C.calm) c_max2 (He.free_ok KX G (c.t.d.fact 2 rfl)) (by decide +kernel) (ra_cons (re_int) (ra_cons (xBlt C 2 (call_min2 C.calm) c_min2 (He.free_ok KX G (c.t.d.fact 1 rfl)) (by decide +kernel) (ra_cons (xBlt C 1 call_len c_len (He.free_ok KX G (c.t.d.fact 0 rfl)) (by decide +kernel) (ra_cons (xVar C 0) ra_nil)) (ra_cons (re_int) ra_nil))) ra_nil))) ra_nil)) (tVarS C 1) (rb_cons (sSet C 2 (xCall C 4 (ca__law_pot c KX G) (ra_cons (xVar C 0) (ra_cons (xVar C 1) ra_nil)))) (rb_cons (rs_asg (vs := [3, 4]) (xCall C 5 (ca__law_models c KX G) (ra_cons (xVar C 2) ra_nil)) (tUnp C 2 (rgs_cons (tVarS C 3) (rgs_cons (tVarS C 4) rgs_nil)))) (rb_cons (sSet C 5 (xCall C 6 (ca__law_text c KX G) (ra_cons (xVar C 3) (ra_cons (xVar C 4) ra_nil)))) (rb_cons (sSet C 6 (xVar C 5)) (rb_cons (sForC C [7] (xSrcR1 C 0 (He.free_ok KX G (c.t.d.fact 3 rfl)) (ra_cons (xCall C 7 (ca__law_take c KX G) (ra_cons (xVar C 2) (ra_cons (re_int) ra_nil))) ra_nil)) (tVarS C 7) (rb_one (sSet C 6 (xCall C 8 (ca__law_spoilt c KX G) (ra_cons (xVar C 2) (ra_cons (xVar C 6) ra_nil)))))) (rb_cons (rs_if (rt_cmp (op_eqN C.units64) s_eq (xCall C 7 (ca__law_take c KX G) (ra_cons (xVar C 2) (ra_cons (re_int) ra_nil))) (re_int) (by first | exact nobehind _ (by decide) (by decide) | rfl)) (rb_one (sSet C 6 (xCall C 9 (ca__law_drawn c KX G) (ra_cons (xVar C 2) (ra_cons (re_lst (ra_cons (re_non) (ra_cons (re_int) (ra_cons (re_bl) (ra_cons (re_lst ra_nil) (ra_cons (re_tup (ra_cons (xVar C 5) ra_nil)) (ra_cons (re_dic) (ra_cons (re_lst (ra_cons (xVar C 5) ra_nil)) ra_nil)))))))) ra_nil))))) rb_nil) (rb_cons (sSet C 8 (xCall C 10 (ca__law_due c KX G) (ra_cons (xVar C 6) ra_nil))) (rb_cons (rs_if (rt_bool (rw_and (rt_cmp op_notN s_notN (xVar C 8) re_non (by first | exact nobehind _ (by decide) (by decide) | rfl)) (rw_and1 (rt_cmp op_gt s_gt (xBlt C 1 call_lenR c_lenD (He.free_ok KX G (c.t.d.fact 0 rfl)) (by decide +kernel) (ra_cons (xIx (xVar C 8) (re_int)) ra_nil)) (re_int) (by first | exact nobehind _ (by decide) (by decide) | rfl))))) (rb_one (rs_par C 6 8 (ra_cons (xVar C 5) (ra_cons (re_tup (ra_cons (xVar C 3) (ra_cons (xVar C 4) ra_nil))) ra_nil)))) rb_nil) (rb_one (rs_if (rt_bool (rw_or (rt_cmp (op_neT C.units64) s_neT (xCall C 11 (ca__law_told c KX G) (ra_cons (xVar C 6) ra_nil)) (xVar C 8) (by first | exact nobehind _ (by decide) (by decide) | rfl)) (rw_or (rt_cmp (op_neT C.units64) s_neT (xCall C 11 (ca__law_told c KX G) (ra_cons (xVar C 5) ra_nil)) (re_tup (ra_cons (xVar C 3) (ra_cons (xVar C 4) ra_nil))) (by first | exact nobehind _ (by decide) (by decide) | rfl)) (rw_or1 (rt_cmp (op_neT C.units64) s_neT (xCall C 11 (ca__law_told c KX G) (ra_cons (xVar C 6) ra_nil)) (xVar C 8) (by first | exact nobehind _ (by decide) (by decide) | rfl)))))) (rb_one (rs_ret (re_bl))) rb_nil))))))))))) (rb_one (rs_ret (re_bl))))
end
end Ww

set_option maxRecDepth 100000
set_option maxHeartbeats 4000000
local macro_rules
  | `(tactic| simp! [$xs,*]) => `(tactic| simp -implicitDefEqProofs (disch := (first | exact Fw.tyL_snoc _ | omega | assumption | ((try simp only [List.length_append, List.length_cons, List.length_nil, List.length_map, List.length_take, List.length_drop, List.length_range, List.length_replicate, Fw.tyL_snoc]); first | done | omega))) only [Fw.v_c, Fw.v_bin, Fw.v_un, Fw.v_and, Fw.v_or, Fw.v_not, Fw.v_ife, Fw.v_args, Fw.v_nil, Fw.v_cons, Fw.v_bm, Fw.v_frz, Fw.v_chain, Fw.v_slLU, Fw.v_slL, Fw.v_slU, Fw.v_lc, Fw.v_seq, Fw.v_snil, Fw.v_ret, Fw.v_retN, Fw.v_brk, Fw.v_cnt, Fw.v_do, Fw.v_asg, Fw.v_if, Fw.v_for, Fw.v_srcOf, Fw.v_srcA, Fw.v_fn, Fw.w_binL, Fw.w_binR, Fw.w_un, Fw.w_andT, Fw.w_andF, Fw.w_orT, Fw.w_orF, Fw.w_not, Fw.w_ifT, Fw.w_ifF, Fw.w_arg, Fw.w_consL, Fw.w_consR, Fw.w_bmA, Fw.w_bmS, Fw.w_bm, Fw.w_frz, Fw.w_ch0, Fw.w_ch1, Fw.w_ch2T, Fw.w_ch2F, Fw.w_sl1, Fw.w_sl2, Fw.w_sl3, Fw.w_slL1, Fw.w_slL2, Fw.w_slU1, Fw.w_slU2, Fw.w_seq, Fw.w_seqR, Fw.w_seqB, Fw.w_seqC, Fw.w_seqE, Fw.w_ret, Fw.w_do, Fw.w_asg, Fw.w_tg, Fw.w_sifT, Fw.w_sifF, Fw.w_gs, Fw.w_gsnil, Fw.w_gscons, Fw.w_for, Fw.w_src, Fw.w_srcA, Fw.w_src2, Fw.w_lc, Fw.w_endN, Fw.w_endR, Fw.w_endE, Fw.e_binL, Fw.e_binR, Fw.e_un, Fw.e_and, Fw.e_or, Fw.e_not, Fw.e_ife, Fw.e_arg, Fw.e_consL, Fw.e_consR, Fw.e_bmA, Fw.e_bm, Fw.e_ret, Fw.e_do, Fw.e_asg, Fw.e_if, Fw.e_for, Fw.e_src, Fw.e_srcA, Fw.v_x0, Fw.v_s0, Fw.v_x1, Fw.v_s1, Fw.v_x2, Fw.v_s2, Fw.v_x3, Fw.v_s3, Fw.v_x4, Fw.v_s4, Fw.v_x5, Fw.v_s5, Fw.v_x6, Fw.v_s6, Fw.v_x7, Fw.v_s7, Fw.v_x8, Fw.v_s8, Fw.v_x9, Fw.v_s9, Fw.v_x10, Fw.v_s10, Fw.v_x11, Fw.v_s11, Fw.v_x12, Fw.v_s12, Fw.v_x13, Fw.v_s13, Fw.v_x14, Fw.v_s14, Fw.v_x15, Fw.v_s15, Fw.v_x16, Fw.v_s16, Fw.v_x17, Fw.v_s17, Fw.v_x18, Fw.v_s18, Fw.v_x19, Fw.v_s19, Fw.v_x20, Fw.v_s20, Fw.v_x21, Fw.v_s21, Fw.v_x22, Fw.v_s22, Fw.v_x23, Fw.v_s23, Fw.v_x24, Fw.v_s24, Fw.v_x25, Fw.v_s25, Fw.v_unp1, Fw.v_unpL1, Fw.v_unp2, Fw.v_unpL2, Fw.v_unp3, Fw.v_unpL3, Fw.v_unp4, Fw.v_unpL4, Fw.v_unp5, Fw.v_unpL5, Fw.v_unp6, Fw.v_unpL6, Fw.v_unp7, Fw.v_unpL7, Fw.v_unp8, Fw.v_unpL8, Fw.v_addC, Fw.v_dic, Fw.v_zipL, Fw.v_addCS, Fw.v_strBB, Fw.v_strBN, Fw.v_strBS, Fw.v_joinC, Fw.v_fld, Fw.w_fld, Fw.v_sfld, Fw.w_sfld1, Fw.w_sfld2, Fw.v_meth, Fw.w_meth, Fw.w_argD, Fw.v_make, Fw.w_make, Fw.w_madeN, Fw.w_madeE, Fw.e_doE, Fw.w_setAt, Fw.v_flda, Fw.w_flda1, Fw.v_subL, Fw.w_subL1, Fw.w_subL2, Fw.v_rev, Fw.w_rev, Fw.v_notN0, Fw.v_notNI, Fw.v_isN0, Fw.v_isNI, Fw.v_enL, Fw.v_subD, Fw.w_subD1, Fw.w_subD2, Fw.v_lv, Fw.w_lv, Fw.v_dm, Fw.v_slUC, Fw.w_slUC1, Fw.w_slUC2, Fw.v_dic1, Fw.w_dc1, Fw.w_dc2, Fw.v_abs, Fw.v_lr, Fw.w_bindO, Fw.w_bindE, Fw.v_sumL, Fw.v_raise, Fw.v_tryAs, Fw.v_tryMany, Fw.w_tryN, Fw.w_tryR, Fw.w_tryC, Fw.w_tryE, Fw.w_trmN, Fw.w_trmR, Fw.w_trmC, Fw.w_trmE, Fw.w_hdY, Fw.w_hdN, Fw.w_all, Fw.w_unN, Fw.w_unC, Fw.w_unR, Fw.w_unN0, Fw.w_unC0, Fw.w_isE, Fw.w_tabN, Fw.w_goN, Fw.w_goC, Fw.w_turn, Fw.v_lenli, Fw.v_ixli, Fw.v_lenT, Fw.v_addT, Fw.v_eqT, Fw.v_neT, Fw.v_eqI, Fw.v_neI, Fw.v_strN, Fw.v_strS, Fw.v_ord, Fw.v_appC, Fw.v_pow18, Fw.v_ixT, Fw.v_lst, Fw.v_tup, Fw.v_cel, Fw.v_appT, Fw.v_appL, Fw.v_rng1, Fw.v_enT, Fw.v_iT, Fw.v_iL, Fw.v_iTp, Fw.v_cutLTo, Fw.v_cutLFrom, Fw.v_wipe0, Fw.v_wipe1, Fw.w_te, Fw.v_cutTo, Fw.v_cutFrom, Fw.v_cutLast, Fw.v_splT, Fw.v_rsplT, Fw.v_rfindT, Fw.v_endsT, Fw.v_inT, Fw.v_notInT, Fw.v_joinT, Fw.v_tab, Fw.w_tabL, Fw.w_tabR, Fw.v_lstT, Fw.v_lstL, Fw.v_tupT, Fw.v_tupL, Fw.v_isBt, Fw.v_isBf, Fw.v_isBi, Fw.v_isBs, Fw.v_ixL0, Fw.v_ixL1, Fw.v_isTs, Fw.v_isTsI, Fw.v_isTsB, Fw.v_allB, Fw.v_all0, Fw.v_all1, Fw.v_all2, Fw.v_all3, Fw.v_all4, Fw.v_all5, Fw.v_all6, Fw.v_all7, Fw.v_all8, Fw.v_appT2, Fw.v_lz, Fw.v_castN, Fw.v_zpN, Fw.v_zpN2, Fw.v_zpC, Fw.v_intT, Fw.v_in2, Fw.v_lcNil, Fw.v_lcCons, Fw.w_lcT, Fw.w_lcCt, Fw.w_lcCf, Fw.w_lcE, Fw.v_yes, Fw.v_finF, Fw.v_loopNil, Fw.v_loopCons, Fw.w_restN, Fw.w_restC, Fw.w_restB, Fw.w_restR, Fw.o_lt, Fw.o_le, Fw.o_gt, Fw.o_ge, Fw.o_addI, Fw.o_sub, Fw.o_neg, Fw.o_mul, Fw.o_mod, Fw.o_div, Fw.f_intI, Fw.f_intB, Fw.f_max, Fw.f_min, Fw.f_lenL, Fw.f_lenT, decide_true, decide_false, Bool.not_true, Bool.not_false, List.map_cons, List.map_nil, List.set_cons_zero, List.set_cons_succ, List.drop_succ_cons, List.drop_zero, List.take_succ_cons, List.take_zero, List.replicate_succ, List.replicate_zero, List.cons_append, List.nil_append, List.append_nil, ne_eq, not_false_eq_true, not_true_eq_false, and_self, eq_self, and_true, and_false, false_and, true_and, reduceIte, if_true, if_false, reduceCtorEq, List.length_cons, List.length_nil, List.length_map, Fw.snoc_at, Fw.snoc_set, Fw.tyL_snoc, decide_eq_true_eq, Bool.and_true, Bool.true_and, Bool.and_false, Bool.false_and, Nat.reduceSub, Nat.reduceAdd, Int.reduceAdd, Int.reduceSub, Int.reduceMul, Int.reduceNeg, Int.reduceLT, Int.reduceLE, Int.reduceEq, Int.reduceMod, Int.reduceDiv, Int.reduceToNat, Nat.reduceEqDiff, $xs,*])
namespace Ww
open PySem PySem.Spec PyProof.Rows Fw
structure Upd (G G' : Gr) (a b : Nat) : Prop where
  le : G.length ≤ G'.length
  eq : ∀ m, m < G.length → (m < a ∨ b ≤ m) → G'[m]? = G[m]?
theorem Upd.refl (G : Gr) (a b : Nat) : Upd G G a b := ⟨Nat.le_refl _, fun _ _ _ => rfl⟩
theorem Upd.trans {G G' G2 : Gr} {a b : Nat} (h : Upd G G' a b) (k : Upd G' G2 a b) : Upd G G2 a b :=
  ⟨Nat.le_trans h.le k.le, fun m hm hn => (k.eq m (Nat.lt_of_lt_of_le hm h.le) hn).trans (h.eq m hm hn)⟩
theorem Upd.set {G : Gr} {a b j : Nat} {c : Cl} (h : a ≤ j ∧ j < b) : Upd G (G.set j c) a b :=
  ⟨by simp, fun m _ hn => by rw [List.getElem?_set_ne (by omega)]⟩
theorem Upd.app {G x : Gr} {a b : Nat} : Upd G (G ++ x) a b :=
  ⟨by simp, fun m hm _ => by rw [List.getElem?_append_left hm]⟩
theorem Upd.wide {G G' : Gr} {a b p q : Nat} (u : Upd G G' a b) (h1 : p ≤ a) (h2 : b ≤ q) : Upd G G' p q := ⟨u.le, fun m hm hn => u.eq m hm (by omega)⟩
theorem Upd.at {G G' : Gr} {a b m : Nat} {c : Cl} (u : Upd G G' a b) (h : G[m]? = some c) (hn : m < a ∨ b ≤ m) : G'[m]? = some c := (u.eq m (List.getElem?_eq_some_iff.mp h).1 hn).trans h
theorem Upd.pre {g G G' : Gr} {a b : Nat} (u : Upd G G' a b) (h : g.length ≤ a) (e : ∃ z, G = g ++ z) : ∃ z, G' = g ++ z := by
  obtain ⟨z, rfl⟩ := e
  refine ⟨G'.drop g.length, ?_⟩
  have hl : g.length ≤ G'.length := Nat.le_trans (by simp) u.le
  apply List.ext_getElem?
  intro m
  by_cases hm : m < g.length
  · rw [List.getElem?_append_left hm, u.eq m (by simp; omega) (by omega), List.getElem?_append_left hm]
  · rw [List.getElem?_append_right (by omega), List.getElem?_drop]
    congr 1; omega
theorem set_at {G : Gr} {l : Nat} {c d : Cl} (h : G[l]? = some d) : (G.set l c)[l]? = some c := List.getElem?_set_self (List.getElem?_eq_some_iff.mp h).1
theorem law_at (ns : List Int) (k : Int) (hk : 0 ≤ k) (g : Gr) : m__law_at [li ns, .int k] g = .ok (.int (at_ ns k)) g := by
  refine pure_ret0 rfl ?_ rfl
  by_cases h : k < (ns.length : Int)
  · simp! [b__law_at, h]
  · simp! [b__law_at, h]
    unfold at_
    rw [List.getD_eq_getElem?_getD, List.getElem?_eq_none (by omega)]
    rfl
def PotAt (G : Gr) (l : Nat) : Prop := ∃ a b : Int, 0 ≤ a ∧ (0 ≤ b ∧ b < 2147483629) ∧ G[l]? = some (Cl.lst [.int a, .int b])
theorem PotAt.frame {G G' : Gr} {l a b : Nat} (h : PotAt G l) (u : Upd G G' a b) (hn : l < a ∨ b ≤ l) : PotAt G' l := by
  obtain ⟨x, y, h1, h2, h3⟩ := h
  exact ⟨x, y, h1, h2, u.at h3 hn⟩
theorem pot_ok (ns : List Int) (k : Nat) (g : Gr) : ∃ z, m__law_pot [li ns, .int (k : Int)] g = .ok (.obj g.length) (g ++ [z]) ∧ PotAt (g ++ [z]) g.length := by
  have at0 := law_at ns k (by omega) g
  have hz : ∀ z : Cl, (g ++ [z])[g.length]? = some z := fun z => by simp
  refine ⟨Cl.lst [.int (if at_ ns k - E18 > 0 then at_ ns k - E18 else 0), .int ((at_ ns k % 2147483629 + 48271 * ((k : Int) + 1)) % 2147483629)], fn_ret rfl ?_, ?_⟩
  · simp! [b__law_pot, at0]
  · refine ⟨_, _, ?_, ⟨Int.emod_nonneg _ (by decide), Int.emod_lt_of_pos _ (by decide)⟩, hz _⟩
    split <;> omega
theorem take_ok {G : Gr} {l : Nat} (h : PotAt G l) (m : Nat) (hm : 1 ≤ m ∧ m ≤ 1000000000000000000) : ∃ (k : Nat) (G' : Gr), k < m ∧ m__law_take [.obj l, .int (m : Int)] G = .ok (.int (k : Int)) G' ∧ PotAt G' l ∧ Upd G G' l (l + 1) := by
  obtain ⟨a, b, ha, hb, hG⟩ := h
  have i0 : opIx (.obj l) (.int 0) G = .ok (.int a) G := ix_at (k := 0) hG rfl
  have i1 : opIx (.obj l) (.int 1) G = .ok (.int b) G := ix_at (k := 1) hG rfl
  by_cases hp : 0 < a
  · have s0 : ∀ ρ, subD (.int (a / (m : Int))) (.obj l) (.int 0) ρ G = some (ρ, G.set l (.lst [.int (a / (m : Int)), .int b])) := fun ρ => sub_of (k := 0) hG (by show 0 < 2; decide)
    have hk : 0 ≤ a % (m : Int) ∧ a % (m : Int) < m := ⟨Int.emod_nonneg _ (by omega), Int.emod_lt_of_pos _ (by omega)⟩
    have ek : (((a % (m : Int)).toNat : Nat) : Int) = a % (m : Int) := Int.toNat_of_nonneg hk.1
    have hq : 0 ≤ a / (m : Int) := Int.ediv_nonneg ha (by omega)
    have dm := fun g => v_dm (g := g) (i := a) (j := (m : Int)) (by omega)
    refine ⟨(a % (m : Int)).toNat, _, by omega, fn_ret rfl ?_, ⟨a / (m : Int), b, hq, hb, set_at hG⟩, Upd.set (by omega)⟩
    rw [ek]
    simp! [b__law_take, i0, dm, hp, s0]
  · have s1 : ∀ ρ, subD (.int ((b * 39373 + 7919) % 2147483629)) (.obj l) (.int 1) ρ G = some (ρ, G.set l (.lst [.int a, .int ((b * 39373 + 7919) % 2147483629)])) := fun ρ => sub_of (k := 1) hG (by show 1 < 2; decide)
    have hc : 0 ≤ (b * 39373 + 7919) % 2147483629 ∧ (b * 39373 + 7919) % 2147483629 < 2147483629 := ⟨Int.emod_nonneg _ (by decide), Int.emod_lt_of_pos _ (by decide)⟩
    generalize hce : (b * 39373 + 7919) % 2147483629 = c at *
    have i1' : opIx (.obj l) (.int 1) (G.set l (.lst [.int a, .int c])) = .ok (.int c) (G.set l (.lst [.int a, .int c])) := ix_at (k := 1) (set_at hG) rfl
    have hk : 0 ≤ c * c % 2147483563 / 11 % (m : Int) ∧ c * c % 2147483563 / 11 % (m : Int) < m := ⟨Int.emod_nonneg _ (by omega), Int.emod_lt_of_pos _ (by omega)⟩
    have ek : (((c * c % 2147483563 / 11 % (m : Int)).toNat : Nat) : Int) = c * c % 2147483563 / 11 % (m : Int) := Int.toNat_of_nonneg hk.1
    have em : opMul (.int c) (.int c) (G.set l (.lst [.int a, .int c])) = .ok (.int (c * c)) (G.set l (.lst [.int a, .int c])) := Fw.o_mul (by omega)
    refine ⟨(c * c % 2147483563 / 11 % (m : Int)).toNat, _, by omega, fn_ret rfl ?_, ⟨a, c, ha, hc, set_at hG⟩, Upd.set (by omega)⟩
    rw [ek]
    simp! [b__law_take, i0, i1, hp, hce, s1, i1', em]
theorem drawn_ok {G : Gr} {l : Nat} (h : PotAt G l) (ds : List D) (hd : 1 ≤ ds.length ∧ ds.length ≤ 1000) : ∃ (d : D) (G' : Gr), d ∈ ds ∧ m__law_drawn [.obj l, .lst ds] G = .ok d G' ∧ PotAt G' l ∧ Upd G G' l (l + 1) := by
  obtain ⟨k, G', hk, e, p, u⟩ := take_ok h ds.length (by omega)
  refine ⟨ds[k], G', List.getElem_mem hk, fn_ret rfl ?_, p, u⟩
  have ix : opIx (.lst ds) (.int (k : Int)) G' = .ok ds[k] G' := o_ixL (List.getElem?_eq_getElem hk)
  simp! [b__law_drawn, e, ix]
theorem drawnT_ok {G : Gr} {l : Nat} (h : PotAt G l) (t : List Nat) (hd : 1 ≤ t.length ∧ t.length ≤ 1000) : ∃ (c : Nat) (G' : Gr), c ∈ t ∧ m__law_drawn [.obj l, .str (tx t)] G = .ok (.str (tx [c])) G' ∧ PotAt G' l ∧ Upd G G' l (l + 1) := by
  obtain ⟨k, G', hk, e, p, u⟩ := take_ok h t.length (by omega)
  refine ⟨t.getD k 0, G', by rw [List.getD_eq_getElem?_getD, List.getElem?_eq_getElem hk]; exact List.getElem_mem hk, fn_ret rfl ?_, p, u⟩
  have ix := Fw.v_ixT (a := t) (k := (k : Int)) (g := G') (by omega) (by omega)
  rw [Int.toNat_natCast] at ix
  simp! [b__law_drawn, e, ix]
theorem lc_letters {l i : Nat} {t : List Nat} (ht : 1 ≤ t.length ∧ t.length ≤ 1000) {E : Exp} {ρ : En} (hE : ∀ x g, E (ρ.set i (some x)) g = m__law_drawn [.obj l, .str (tx t)] g) :
    ∀ (ds acc : List D) (ls : List (List Nat)) (G : Gr), PotAt G l → acc = ls.map (fun p => .str (tx p)) → acc.length + ds.length ≤ 1000 → (∀ p ∈ ls, p.length = 1 ∧ ∀ c ∈ p, c ∈ t) →
    ∃ (ls' : List (List Nat)) (G' : Gr), lcLoop kpT (gVar i) eYes E ρ finF ds acc G = .ok (.lst (ls'.map fun p => .str (tx p))) G' ∧ ls'.length = ls.length + ds.length ∧ (∀ p ∈ ls', p.length = 1 ∧ ∀ c ∈ p, c ∈ t) ∧ PotAt G' l ∧ Upd G G' l (l + 1)
  | [], acc, ls, G, hp, ha, hz, hl => ⟨ls, G, by rw [Fw.v_lcNil, ha]; rfl, by simp, hl, hp, Upd.refl ..⟩
  | d :: ds, acc, ls, G, hp, ha, hz, hl => by
    obtain ⟨c, G1, hct, e1, p1, u1⟩ := drawnT_ok hp t ht
    simp only [List.length_cons] at hz
    obtain ⟨ls', G', e2, h1, h2, p2, u2⟩ := lc_letters ht hE ds (acc ++ [.str (tx [c])]) (ls ++ [[c]]) G1 p1 (by rw [ha]; simp) (by simp; omega) (by
      intro p hp
      rcases List.mem_append.mp hp with hp | hp
      · exact hl p hp
      · rw [List.mem_singleton.mp hp]; exact ⟨rfl, fun c' h => by rw [List.mem_singleton.mp h]; exact hct⟩)
    refine ⟨ls', G', ?_, by rw [h1]; simp; omega, h2, p2, u1.trans u2⟩
    rw [Fw.v_lcCons (by omega)]
    show fLcE kpT (gVar i) eYes E ρ finF ds acc (E (ρ.set i (some d)) G) = _
    rw [hE, e1]
    exact e2
theorem sum_ones : ∀ ls : List (List Nat), (∀ p ∈ ls, p.length = 1) → (ls.map List.length).sum = ls.length
  | [], _ => rfl
  | p :: ls, h => by
    rw [List.map_cons, List.sum_cons, h p List.mem_cons_self, sum_ones ls fun q hq => h q (List.mem_cons_of_mem _ hq), List.length_cons]; omega
theorem name_ok {G : Gr} {l : Nat} (h : PotAt G l) : ∃ (t : List Nat) (G' : Gr), (1 ≤ t.length ∧ t.length ≤ 6 ∧ ∀ c ∈ t, c ∈ List.range' 97 26) ∧ m__law_name [.obj l] G = .ok (.str (tx t)) G' ∧ PotAt G' l ∧ Upd G G' l (l + 1) := by
  obtain ⟨k, G1, hk, e1, p1, u1⟩ := take_ok h 3 (by decide)
  have e1' : m__law_take [.obj l, .int 3] G = .ok (.int (k : Int)) G1 := e1
  by_cases h2 : k < 2
  · have c : (k : Int) < 2 := by omega
    obtain ⟨d, G2, hd, e2, p2, u2⟩ := drawn_ok p1 [.str (tx [97]), .str (tx [98]), .str (tx [99]), .str (tx [97, 98])] (by simp)
    obtain ⟨t, rfl, ht⟩ : ∃ t : List Nat, d = .str (tx t) ∧ 1 ≤ t.length ∧ t.length ≤ 6 ∧ ∀ c ∈ t, c ∈ List.range' 97 26 := by
      simp only [List.mem_cons, List.not_mem_nil, or_false] at hd
      rcases hd with rfl | rfl | rfl | rfl <;> exact ⟨_, rfl, by decide⟩
    refine ⟨t, G2, ht, fn_ret rfl ?_, p2, u1.trans u2⟩
    simp! [b__law_name, e1', c, e2]
  · have c : ¬ (k : Int) < 2 := by omega
    obtain ⟨n, G2, hn, e2, p2, u2⟩ := take_ok p1 6 (by decide)
    have e2' : m__law_take [.obj l, .int 6] G1 = .ok (.int (n : Int)) G2 := e2
    have rg := fun g => Fw.v_rng1 (g := g) (i := 1 + (n : Int)) (by omega)
    have hn1 : (1 + (n : Int)).toNat = n + 1 := by omega
    rw [hn1] at rg
    obtain ⟨ls, G3, e3, h1, h3, p3, u3⟩ := lc_letters (l := l) (i := 2) (t := [97, 98, 99, 100, 101, 102, 103, 104, 105, 106, 107, 108, 109, 110, 111, 112, 113, 114, 115, 116, 117, 118, 119, 120, 121, 122]) (by decide) (E := eArgs m__law_drawn (aCons (eVar 0) (aCons (eVar 1) aNil))) (ρ := [some (.obj l), some (.str (tx [97, 98, 99, 100, 101, 102, 103, 104, 105, 106, 107, 108, 109, 110, 111, 112, 113, 114, 115, 116, 117, 118, 119, 120, 121, 122])), none]) (fun x g => rfl) (rangeD 0 (n + 1)) [] [] G2 p2 rfl (by rw [rangeD_len]; simp; omega) (by simp)
    rw [rangeD_len] at h1
    have h3' : ∀ p ∈ ls, p.length = 1 := fun p hp => (h3 p hp).1
    have jn := fun g => Fw.v_joinT (g := g) (ls := ls) (by rw [sum_ones ls h3']; simp at h1; omega)
    have fl : ls.flatten.length = ls.length := by rw [List.length_flatten, sum_ones ls h3']
    refine ⟨ls.flatten, G3, ⟨by rw [fl, h1]; simp, by rw [fl, h1]; simp; omega, fun c hc => by
      obtain ⟨p, hp, hcp⟩ := List.mem_flatten.mp hc
      exact (h3 p hp).2 c hcp⟩, fn_ret rfl ?_, p3, (u1.trans u2).trans u3⟩
    simp! [b__law_name, e1', c, e2', rg, e3, jn]
theorem birth_ok {G : Gr} {l : Nat} (h : PotAt G l) : ∃ (n : Nat) (G' : Gr), n < 1000000000000000000 ∧ m__law_birth [.obj l] G = .ok (.int (n : Int)) G' ∧ PotAt G' l ∧ Upd G G' l (l + 1) := by
  obtain ⟨d, G1, hd, e1, p1, u1⟩ := drawn_ok h [.int 12, .int 12, .int 1000, .int E18] (by simp)
  obtain ⟨m, rfl, hm⟩ : ∃ m : Nat, d = .int (m : Int) ∧ 1 ≤ m ∧ m ≤ 1000000000000000000 := by
    simp only [List.mem_cons, List.not_mem_nil, or_false] at hd
    rcases hd with rfl | rfl | rfl | rfl
    · exact ⟨12, rfl, by decide⟩
    · exact ⟨12, rfl, by decide⟩
    · exact ⟨1000, rfl, by decide⟩
    · exact ⟨1000000000000000000, by rw [E18_eq]; rfl, by decide⟩
  obtain ⟨k, G2, hk, e2, p2, u2⟩ := take_ok p1 m hm
  refine ⟨k, G2, by omega, fn_ret rfl ?_, p2, u1.trans u2⟩
  simp! [b__law_birth, e1, e2]
end Ww

set_option maxRecDepth 100000
set_option maxHeartbeats 4000000
namespace Ww
open PySem PySem.Spec PyProof.Rows Fw
theorem tx_inj {a b : List Nat} (h : tx a = tx b) : a = b := by
  have := Fw.v_eqT (a := a) (b := b) (g := [])
  rw [h] at this
  have t2 := Fw.v_eqT (a := b) (b := b) (g := [])
  rw [this] at t2
  simpa using t2
theorem frz_of {g : Gr} {l : Nat} {ds : List D} (h : g[l]? = some (Cl.lst ds)) : frzD g (.obj l) = .ok (.lst ds) (g.set l .dead) := by
  show (match g[l]? with | some (.lst ds) => R.ok (.lst ds) (g.set l .dead) | _ => .no) = _
  rw [h]
theorem notIn_of {g : Gr} {l : Nat} {zs : List (List Nat)} (h : g[l]? = some (Cl.lst (zs.map fun p => .str (tx p)))) (t : List Nat) : opNotIn (.str (tx t)) (.obj l) g = .ok (.bl (!decide (t ∈ zs))) g := by
  have e := viewL_of h
  have fl : (zs.map fun p => D.str (tx p)).all D.fl = true := by rw [List.all_map]; exact List.all_eq_true.mpr fun _ _ => rfl
  have ein : inD (.str (tx t)) (zs.map fun p => .str (tx p)) = decide (t ∈ zs) := by
    unfold inD
    rw [List.any_map]
    by_cases hm : t ∈ zs
    · rw [decide_eq_true hm]
      exact List.any_eq_true.mpr ⟨t, hm, by show (tx t == tx t) = true; exact beq_self_eq_true _⟩
    · rw [decide_eq_false hm]
      refine List.any_eq_false.mpr fun z hz => ?_
      show ¬ (tx z == tx t) = true
      rw [beq_iff_eq]
      exact fun h => hm (tx_inj h ▸ hz)
  show (match viewA g (.obj l) with | some ds => if (D.str (tx t)).fl = true ∧ ds.all D.fl = true then R.ok (.bl (!inD (.str (tx t)) ds)) g else .no | none => .no) = _
  rw [show viewA g (.obj l) = some _ from e]
  simp only [fl, ein]
  rfl
theorem names_ok {G : Gr} {l : Nat} (h : PotAt G l) : ∃ (zs : List (List Nat)) (G' : Gr), (1 ≤ zs.length ∧ zs.length ≤ 4) ∧ (zs.Nodup ∧ ∀ z ∈ zs, 1 ≤ z.length ∧ z.length ≤ 6 ∧ ∀ c ∈ z, c ∈ List.range' 97 26) ∧ m__law_names [.obj l] G = .ok (.lst (zs.map fun p => .str (tx p))) G' ∧ PotAt G' l ∧ Upd G G' l (l + 1) := by
  have hl : l < G.length := by obtain ⟨a, b, _, _, h⟩ := h; exact (List.getElem?_eq_some_iff.mp h).1
  have h0 := h.frame (Upd.app (x := [Cl.lst []]) (a := G.length) (b := G.length)) (.inl hl)
  obtain ⟨n, G1, hn, e1, p1, u1⟩ := take_ok h0 4 (by decide)
  have e1' : m__law_take [.obj l, .int 4] (G ++ [Cl.lst []]) = .ok (.int (n : Int)) G1 := e1
  have c1 : G1[G.length]? = some (Cl.lst []) := u1.at (by simp) (.inr hl)
  have rg := fun g => Fw.v_rng1 (g := g) (i := 1 + (n : Int)) (by omega)
  have hn1 : (1 + (n : Int)).toNat = n + 1 := by omega
  rw [hn1] at rg
  suffices key : ∃ (zs : List (List Nat)) (G' : Gr), (1 ≤ zs.length ∧ zs.length ≤ 4) ∧ (zs.Nodup ∧ ∀ z ∈ zs, 1 ≤ z.length ∧ z.length ≤ 6 ∧ ∀ c ∈ z, c ∈ List.range' 97 26) ∧ b__law_names (([.obj l] : List D).map some ++ List.replicate (4 - 1) none) G = .ret (.lst (zs.map fun p => .str (tx p))) G' ∧ PotAt G' l ∧ Upd G G' l (l + 1) by
    obtain ⟨zs, G', h1, h2, h3, h4⟩ := key
    exact ⟨zs, G', h1, h2, fn_ret rfl h3, h4⟩
  simp! [b__law_names, e1', rg]
  refine rng_then (K := fun z => ∃ (zs : List (List Nat)) (G' : Gr), (1 ≤ zs.length ∧ zs.length ≤ 4) ∧ (zs.Nodup ∧ ∀ z ∈ zs, 1 ≤ z.length ∧ z.length ≤ 6 ∧ ∀ c ∈ z, c ∈ List.range' 97 26) ∧ fSeq _ z = .ret (.lst (zs.map fun p => .str (tx p))) G' ∧ PotAt G' l ∧ Upd G G' l (l + 1)) (fun i ρ g' => ∃ (t2 t3 : Option D) (zs : List (List Nat)), ρ = [some (.obj l), some (.obj G.length), t2, t3] ∧ g'[G.length]? = some (Cl.lst (zs.map fun p => .str (tx p))) ∧ (zs.Nodup ∧ ∀ z ∈ zs, 1 ≤ z.length ∧ z.length ≤ 6 ∧ ∀ c ∈ z, c ∈ List.range' 97 26) ∧ zs.length ≤ i ∧ (0 < i → 1 ≤ zs.length) ∧ PotAt g' l ∧ Upd G g' l (l + 1)) ⟨none, none, [], rfl, c1, ⟨.nil, fun z h => by cases h⟩, Nat.le_refl _, fun h => absurd h (Nat.lt_irrefl _), p1, (Upd.app (x := [Cl.lst []]) (a := l) (b := l + 1)).trans u1⟩ ?_ ?_
  · rintro i ρ g' hi ⟨t2, t3, zs, rfl, hc, nd, hz, h1, p, u⟩
    obtain ⟨t, G2, ht, e2, p2, u2⟩ := name_ok p
    have hc2 := u2.at hc (.inr hl)
    have ni := notIn_of hc2 t
    by_cases hm : t ∈ zs
    · have hd : decide (t ∈ zs) = true := decide_eq_true hm
      simp! [e2, ni, hd]
      exact ⟨_, _, zs, rfl, hc2, nd, by omega, fun _ => List.length_pos_of_mem hm, p2, u.trans u2⟩
    · have hd : decide (t ∈ zs) = false := decide_eq_false hm
      have ty := tyL_of hc2
      have ap := app_of (e := .str (tx t)) hc2 (by rw [List.length_map]; omega)
      have em : zs.map (fun p => D.str (tx p)) ++ [.str (tx t)] = (zs ++ [t]).map fun p => .str (tx p) := by simp
      rw [em] at ap
      simp! [e2, ni, hd, ap]
      have us : Upd G2 (G2.set G.length (.lst ((zs ++ [t]).map fun p => .str (tx p)))) G.length (G.length + 1) := Upd.set (by omega)
      refine ⟨_, _, zs ++ [t], rfl, set_at hc2, ?_, by simp; omega, fun _ => by simp, p2.frame us (.inl hl), ⟨Nat.le_trans (u.trans u2).le us.le, fun m hm hn => (us.eq m (Nat.lt_of_lt_of_le hm (u.trans u2).le) (.inl hm)).trans ((u.trans u2).eq m hm hn)⟩⟩
      refine ⟨?_, fun z hz => ?_⟩
      · rw [List.nodup_append]
        exact ⟨nd.1, by simp, fun a ha b hb => by rw [List.mem_singleton.mp hb]; exact fun e => hm (e ▸ ha)⟩
      · rcases List.mem_append.mp hz with hz | hz
        · exact nd.2 z hz
        · rw [List.mem_singleton.mp hz]; exact ht
  · rintro ρ' g' ⟨t2, t3, zs, rfl, hc, nd, hz, h1, p, u⟩
    have fz := frz_of hc
    refine ⟨zs, g'.set G.length .dead, ⟨h1 (by omega), by omega⟩, nd, ?_, p.frame (a := G.length) (b := G.length + 1) (Upd.set (by omega)) (.inl hl), ⟨Nat.le_trans u.le (by simp), fun m hm hn => by rw [List.getElem?_set_ne (by omega)]; exact u.eq m hm hn⟩⟩
    simp! [fz]
end Ww

set_option maxRecDepth 100000
set_option maxHeartbeats 4000000
namespace Ww
open PySem PySem.Spec PyProof.Rows Fw
abbrev Tx := List Nat
abbrev Ky := L2.Key
abbrev As (α : Type) := List (Tx × α)
def gK {α : Type} (f : α → D) (ms : As α) : List (Ky × D) := ms.map fun p => (.inr (tx p.1), f p.2)
section
variable {α : Type}
def mGet : As α → Tx → Option α
  | [], _ => none
  | p :: r, z => if p.1 = z then some p.2 else mGet r z
def mPut (ms : As α) (z : Tx) (v : α) : As α := if (ms.any fun p => decide (p.1 = z)) = true then ms.map (fun p => if p.1 = z then (p.1, v) else p) else ms ++ [(z, v)]
def mDrop (ms : As α) (z : Tx) : As α := ms.filter fun p => decide (p.1 ≠ z)
theorem key_eq (a b : Tx) : ((Sum.inr (tx a) : Ky) = .inr (tx b)) ↔ a = b := ⟨fun h => tx_inj (Sum.inr.inj h), fun h => by rw [h]⟩
theorem dGet_gK (f : α → D) (z : Tx) : ∀ ms : As α, dGet (gK f ms) (.inr (tx z)) = (mGet ms z).map f
  | [] => rfl
  | p :: r => by
    have ih := dGet_gK f z r
    unfold gK dGet at ih ⊢
    rw [List.map_cons, List.find?_cons]
    simp only [mGet, key_eq]
    by_cases h : p.1 = z
    · simp [h]
    · simp only [h, decide_false, if_false]
      exact ih
theorem dPut_gK (f : α → D) (ms : As α) (z : Tx) (v : α) : dPut (gK f ms) (.inr (tx z)) (f v) = gK f (mPut ms z v) := by
  unfold dPut mPut gK
  rw [List.any_map]
  have e : ((fun kv : Ky × D => decide (kv.1 = .inr (tx z))) ∘ fun p : Tx × α => ((.inr (tx p.1) : Ky), f p.2)) = fun p => decide (p.1 = z) := by
    funext p
    simp only [Function.comp, key_eq]
  rw [e]
  split
  · rw [List.map_map, List.map_map]
    apply List.map_congr_left
    intro p _
    simp only [Function.comp, key_eq]
    split <;> rfl
  · rw [List.map_append]; rfl
theorem dDrop_gK (f : α → D) (ms : As α) (z : Tx) : dDrop (gK f ms) (.inr (tx z)) = gK f (mDrop ms z) := by
  unfold dDrop mDrop gK
  rw [List.filter_map]
  congr 1
  apply List.filter_congr
  intro p _
  simp only [Function.comp, ne_eq, key_eq]
theorem gK_len (f : α → D) (ms : As α) : (gK f ms).length = ms.length := List.length_map ..
theorem mGet_some {ms : As α} {z : Tx} {v : α} : mGet ms z = some v → (z, v) ∈ ms := by
  induction ms with
  | nil => intro h; cases h
  | cons p r ih =>
    intro h
    unfold mGet at h
    split at h
    · rename_i e
      cases h
      rw [← e]; exact List.mem_cons_self
    · exact List.mem_cons_of_mem _ (ih h)
theorem mGet_none {ms : As α} {z : Tx} : mGet ms z = none ↔ z ∉ ms.map (·.1) := by
  induction ms with
  | nil => simp [mGet]
  | cons p r ih =>
    unfold mGet
    rw [List.map_cons, List.mem_cons, not_or]
    split
    · rename_i e; simp [e]
    · rename_i e
      rw [ih]
      exact ⟨fun h => ⟨fun e2 => e e2.symm, h⟩, fun h => h.2⟩
theorem any_key {ms : As α} {z : Tx} : (ms.any fun p => decide (p.1 = z)) = true ↔ z ∈ ms.map (·.1) := by
  rw [List.any_eq_true, List.mem_map]
  simp only [decide_eq_true_eq]
theorem mPut_keys (ms : As α) (z : Tx) (v : α) : (mPut ms z v).map (·.1) = if z ∈ ms.map (·.1) then ms.map (·.1) else ms.map (·.1) ++ [z] := by
  unfold mPut
  by_cases h : z ∈ ms.map (·.1)
  · rw [if_pos (any_key.mpr h), if_pos h, List.map_map]
    apply List.map_congr_left
    intro p _
    simp only [Function.comp]
    split <;> rfl
  · rw [if_neg (fun q => h (any_key.mp q)), if_neg h, List.map_append]; rfl
theorem mGet_map (z : Tx) (v : α) (z' : Tx) : ∀ ms : As α, z ∈ ms.map (·.1) → mGet (ms.map (fun p => if p.1 = z then (p.1, v) else p)) z' = if z' = z then some v else mGet ms z' := by
  intro ms
  induction ms with
  | nil => intro h; cases h
  | cons p r ih =>
    intro h
    rw [List.map_cons]
    unfold mGet
    by_cases e : p.1 = z
    · rw [if_pos e]
      simp only [e]
      by_cases e2 : z = z'
      · rw [if_pos e2, if_pos e2.symm]
      · rw [if_neg e2, if_neg (fun q => e2 q.symm), if_neg e2]
        by_cases hm : z ∈ r.map (·.1)
        · rw [ih hm, if_neg (fun q => e2 q.symm)]
        · have : r.map (fun p => if p.1 = z then (p.1, v) else p) = r := by
            conv => rhs; rw [← List.map_id r]
            apply List.map_congr_left
            intro q hq
            rw [if_neg fun e3 => hm (List.mem_map.mpr ⟨q, hq, e3⟩)]; rfl
          rw [this]
    · rw [if_neg e]
      have hm : z ∈ r.map (·.1) := by
        rw [List.map_cons, List.mem_cons] at h
        exact h.resolve_left fun q => e q.symm
      by_cases e2 : p.1 = z'
      · rw [if_pos e2, if_neg (fun q => e (e2.trans q)), if_pos e2]
      · rw [if_neg e2, if_neg e2, ih hm]
theorem mGet_snoc (z : Tx) (v : α) (z' : Tx) : ∀ ms : As α, z ∉ ms.map (·.1) → mGet (ms ++ [(z, v)]) z' = if z' = z then some v else mGet ms z'
  | [], _ => by
    show (if z = z' then some v else none) = if z' = z then some v else none
    by_cases h : z = z'
    · rw [if_pos h, if_pos h.symm]
    · rw [if_neg h, if_neg fun q => h q.symm]
  | p :: r, h => by
    rw [List.map_cons, List.mem_cons, not_or] at h
    rw [List.cons_append]
    unfold mGet
    by_cases e : p.1 = z'
    · rw [if_pos e, if_neg (fun q => h.1 (q.symm.trans e.symm)), if_pos e]
    · rw [if_neg e, mGet_snoc z v z' r h.2, if_neg e]
theorem mGet_put (ms : As α) (z : Tx) (v : α) (z' : Tx) : mGet (mPut ms z v) z' = if z' = z then some v else mGet ms z' := by
  unfold mPut
  by_cases h : z ∈ ms.map (·.1)
  · rw [if_pos (any_key.mpr h)]; exact mGet_map z v z' ms h
  · rw [if_neg (fun q => h (any_key.mp q))]; exact mGet_snoc z v z' ms h
theorem mPut_put (ms : As α) (z : Tx) (v w : α) : mPut (mPut ms z v) z w = mPut ms z w := by
  have hk : z ∈ (mPut ms z v).map (·.1) := by
    rw [mPut_keys]
    split
    · assumption
    · simp
  have e1 : mPut (mPut ms z v) z w = (mPut ms z v).map (fun p => if p.1 = z then (p.1, w) else p) := if_pos (any_key.mpr hk)
  rw [e1]
  unfold mPut
  by_cases h : z ∈ ms.map (·.1)
  · rw [if_pos (any_key.mpr h), if_pos (any_key.mpr h), List.map_map]
    apply List.map_congr_left
    intro p _
    simp only [Function.comp]
    split <;> simp_all
  · rw [if_neg (fun q => h (any_key.mp q)), if_neg (fun q => h (any_key.mp q)), List.map_append]
    congr 1
    · conv => rhs; rw [← List.map_id ms]
      apply List.map_congr_left
      intro q hq
      rw [if_neg fun e3 => h (List.mem_map.mpr ⟨q, hq, e3⟩)]; rfl
    · simp
theorem mDrop_put (ms : As α) (z : Tx) (v : α) : mDrop (mPut ms z v) z = mDrop ms z := by
  unfold mPut mDrop
  split
  · induction ms with
    | nil => rfl
    | cons p r ih =>
      rw [List.map_cons]
      by_cases e : p.1 = z
      · rw [if_pos e, List.filter_cons_of_neg (by simp [e]), List.filter_cons_of_neg (by simp [e])]
        by_cases hm : z ∈ r.map (·.1)
        · exact ih (any_key.mpr hm)
        · have : r.map (fun p => if p.1 = z then (p.1, v) else p) = r := by
            conv => rhs; rw [← List.map_id r]
            apply List.map_congr_left
            intro q hq
            rw [if_neg fun e3 => hm (List.mem_map.mpr ⟨q, hq, e3⟩)]; rfl
          rw [this]
      · rw [if_neg e, List.filter_cons_of_pos (by simp [e]), List.filter_cons_of_pos (by simp [e])]
        rename_i h
        rw [ih (by simpa [e] using h)]
  · rw [List.filter_append]
    simp
theorem asKS_gK (f : α → D) : ∀ ms : As α, asKS ((gK f ms).map (·.1)) = some (ms.map fun p => tx p.1)
  | [] => rfl
  | p :: r => by
    show (asKS ((gK f r).map (·.1))).map (tx p.1 :: ·) = _
    rw [asKS_gK f r]; rfl
theorem mGet_mem {ms : As α} (nd : (ms.map (·.1)).Nodup) {q : Tx × α} (h : q ∈ ms) : mGet ms q.1 = some q.2 := by
  induction ms with
  | nil => cases h
  | cons p r ih =>
    rw [List.map_cons] at nd
    obtain ⟨n1, n2⟩ := List.nodup_cons.mp nd
    unfold mGet
    rcases List.mem_cons.mp h with rfl | h
    · rw [if_pos rfl]
    · rw [if_neg fun e => n1 (by rw [e]; exact List.mem_map.mpr ⟨q, h, rfl⟩)]
      exact ih n2 h
theorem mPut_mem {ms : As α} {z : Tx} {v : α} {p : Tx × α} (h : p ∈ mPut ms z v) : p ∈ ms ∨ p = (z, v) := by
  unfold mPut at h
  split at h
  · obtain ⟨q, hq, rfl⟩ := List.mem_map.mp h
    split
    · rename_i e; exact .inr (by rw [e])
    · exact .inl hq
  · rcases List.mem_append.mp h with h | h
    · exact .inl h
    · exact .inr (List.mem_singleton.mp h)
theorem mPut_new {ms : As α} {z : Tx} {v : α} (h : mGet ms z = none) : mPut ms z v = ms ++ [(z, v)] := by
  unfold mPut
  rw [if_neg fun q => mGet_none.mp h (any_key.mp q)]
theorem mGet_of {β : Type} (f : α → β) (z : Tx) : ∀ ms : As α, mGet (ms.map fun p => (p.1, f p.2)) z = (mGet ms z).map f
  | [] => rfl
  | p :: r => by
    rw [List.map_cons]
    unfold mGet
    by_cases e : p.1 = z
    · rw [if_pos e, if_pos e]; rfl
    · rw [if_neg e, if_neg e]; exact mGet_of f z r
theorem mPut_of {β : Type} (f : α → β) (z : Tx) (v : α) (ms : As α) : (mPut ms z v).map (fun p => (p.1, f p.2)) = mPut (ms.map fun p => (p.1, f p.2)) z (f v) := by
  unfold mPut
  rw [List.any_map]
  have e : ((fun p : Tx × β => decide (p.1 = z)) ∘ fun p : Tx × α => (p.1, f p.2)) = fun p => decide (p.1 = z) := rfl
  rw [e]
  split
  · rw [List.map_map, List.map_map]
    apply List.map_congr_left
    intro p _
    simp only [Function.comp]
    split <;> rfl
  · rw [List.map_append]; rfl
end
abbrev Mo := As (List Int)
abbrev mK (ms : Mo) : List (Ky × D) := gK li ms
theorem dGet_mK (z : Tx) (ms : Mo) : dGet (mK ms) (.inr (tx z)) = (mGet ms z).map li := dGet_gK li z ms
theorem dPut_mK (ms : Mo) (z : Tx) (v : List Int) : dPut (mK ms) (.inr (tx z)) (li v) = mK (mPut ms z v) := dPut_gK li ms z v
theorem dDrop_mK (ms : Mo) (z : Tx) : dDrop (mK ms) (.inr (tx z)) = mK (mDrop ms z) := dDrop_gK li ms z
theorem mK_len (ms : Mo) : (mK ms).length = ms.length := gK_len li ms
theorem asKS_mK (ms : Mo) : asKS ((mK ms).map (·.1)) = some (ms.map fun p => tx p.1) := asKS_gK li ms
structure Ok (zs : List Tx) (B : Nat) (ms : Mo) : Prop where
  nd : (ms.map (·.1)).Nodup
  sub : ∀ z ∈ ms.map (·.1), z ∈ zs
  row : ∀ p ∈ ms, p.2.length ≤ B
  ne : ∀ p ∈ ms, p.2 ≠ []
theorem Ok.get {zs : List Tx} {B : Nat} {ms : Mo} (o : Ok zs B ms) {z : Tx} : ((mGet ms z).getD []).length ≤ B := by
  cases h : mGet ms z with
  | none => exact Nat.zero_le _
  | some v => exact o.row _ (mGet_some h)
theorem Ok.put {zs : List Tx} {B : Nat} {ms : Mo} (o : Ok zs B ms) {z : Tx} (hz : z ∈ zs) {v : List Int} (hv : v.length ≤ B) (hne : v ≠ []) : Ok zs B (mPut ms z v) := by
  refine ⟨?_, fun y hy => ?_, fun p hp => ?_, fun p hp => ?_⟩
  · rw [mPut_keys]
    split
    · exact o.nd
    · rename_i h
      rw [List.nodup_append]
      exact ⟨o.nd, by simp, fun a ha b hb => by rw [List.mem_singleton.mp hb]; exact fun e => h (e ▸ ha)⟩
  · rw [mPut_keys] at hy
    split at hy
    · exact o.sub y hy
    · rcases List.mem_append.mp hy with hy | hy
      · exact o.sub y hy
      · rw [List.mem_singleton.mp hy]; exact hz
  · unfold mPut at hp
    split at hp
    · obtain ⟨q, hq, rfl⟩ := List.mem_map.mp hp
      split
      · exact hv
      · exact o.row q hq
    · rcases List.mem_append.mp hp with hp | hp
      · exact o.row p hp
      · rw [List.mem_singleton.mp hp]; exact hv
  · unfold mPut at hp
    split at hp
    · obtain ⟨q, hq, rfl⟩ := List.mem_map.mp hp
      split
      · exact hne
      · exact o.ne q hq
    · rcases List.mem_append.mp hp with hp | hp
      · exact o.ne p hp
      · rw [List.mem_singleton.mp hp]; exact hne
theorem Ok.drop {zs : List Tx} {B : Nat} {ms : Mo} (o : Ok zs B ms) (z : Tx) : Ok zs B (mDrop ms z) :=
  ⟨(List.filter_sublist.map _).nodup o.nd, fun y hy => o.sub y ((List.filter_sublist.map _).subset hy), fun p hp => o.row p (List.mem_filter.mp hp).1, fun p hp => o.ne p (List.mem_filter.mp hp).1⟩
theorem Ok.wide {zs : List Tx} {B C : Nat} {ms : Mo} (o : Ok zs B ms) (h : B ≤ C) : Ok zs C ms := ⟨o.nd, o.sub, fun p hp => Nat.le_trans (o.row p hp) h, o.ne⟩
abbrev Ho := As (Nat × Mo)
abbrev hK (hs : Ho) : List (Ky × D) := gK (fun q : Nat × Mo => .obj q.1) hs
abbrev Ko := As Mo
def ko (hs : Ho) : Ko := hs.map fun p => (p.1, p.2.2)
theorem ko_get (hs : Ho) (z : Tx) : mGet (ko hs) z = (mGet hs z).map (·.2) := mGet_of (fun q : Nat × Mo => q.2) z hs
theorem ko_put (hs : Ho) (z : Tx) (q : Nat × Mo) : ko (mPut hs z q) = mPut (ko hs) z q.2 := mPut_of (fun q : Nat × Mo => q.2) z q hs
abbrev Out (a b : Nat) (hs : Ho) : Prop := ∀ p ∈ hs, p.2.1 < a ∨ b ≤ p.2.1
structure KtAt (G : Gr) (l : Nat) (hs : Ho) : Prop where
  d : G[l]? = some (Cl.dic (hK hs))
  c : ∀ p ∈ hs, G[p.2.1]? = some (Cl.dic (mK p.2.2))
theorem KtAt.frame {G G' : Gr} {l a b : Nat} {hs : Ho} (h : KtAt G l hs) (u : Upd G G' a b) (h1 : l < a ∨ b ≤ l) (h2 : Out a b hs) : KtAt G' l hs := ⟨u.at h.d h1, fun p hp => u.at (h.c p hp) (h2 p hp)⟩
theorem Out.sub {a b c d : Nat} {hs : Ho} (o : Out a b hs) (h1 : a ≤ c) (h2 : d ≤ b) : Out c d hs := fun p hp => (o p hp).elim (fun h => .inl (Nat.lt_of_lt_of_le h h1)) fun h => .inr (Nat.le_trans h2 h)
theorem Out.zero {hs : Ho} : Out 0 0 hs := fun _ _ => .inr (Nat.zero_le _)
end Ww

set_option maxRecDepth 100000
set_option maxHeartbeats 4000000
namespace Ww
open PySem PySem.Spec PyProof.Rows Fw
theorem keyS (z : Tx) : toK (.str (tx z)) = some (.inr (tx z)) := rfl
def fF (lb lh : Nat) : List (Str × D) := [("own_births", .obj lb), ("own_held", .obj lh)]
structure FlAt (G : Gr) (lf lb lh : Nat) (ms : Mo) (hs : Ho) : Prop where
  f : G[lf]? = some (.ins "Files" (fF lb lh))
  b : G[lb]? = some (Cl.dic (mK ms))
  h : KtAt G lh hs
theorem inFl : ("Files" : Str) ∈ (["Files"] : List Str) := by decide +kernel
section
variable {G : Gr} {lf lb lh : Nat} {ms : Mo} {hs : Ho} {zs : List Tx} {B : Nat}
theorem FlAt.fb (h : FlAt G lf lb lh ms hs) : fldD ["Files"] "own_births" (.obj lf) G = .ok (.obj lb) G := fld_of h.f inFl rfl
theorem FlAt.fh (h : FlAt G lf lb lh ms hs) : fldD ["Files"] "own_held" (.obj lf) G = .ok (.obj lh) G := fld_of h.f inFl rfl
theorem FlAt.m (h : FlAt G lf lb lh ms hs) (mn : Str) (f : Fn) (as : Exps) (ρ : En) (hm : (fF lb lh).lookup mn = none) : methD ["Files"] mn f as ρ (.obj lf) G = fArgD f (.obj lf) (as ρ G) := meth_of h.f inFl hm
theorem bof_some (h : FlAt G lf lb lh ms hs) {z : Tx} {row : List Int} (e : mGet ms z = some row) : m_Files_births_of [.obj lf, .str (tx z)] G = .ok (li row) G := by
  have f1 := h.fb
  have i1 : opDIn true (.str (tx z)) (.obj lb) G = .ok (.bl false) G := by rw [din_of h.b (keyS z), dGet_mK, e]; rfl
  have g1 : opDGet (.obj lb) (.str (tx z)) G = .ok (li row) G := dget_of h.b (keyS z) (by rw [dGet_mK, e]; rfl)
  refine fn_ret rfl ?_
  simp! [b_Files_births_of, f1, i1, g1]
theorem get2M {l : Nat} (h : G[l]? = some (Cl.dic (mK ms))) (z : Tx) : mDGet2 (.obj l) [.str (tx z), .lst []] G = .ok (li ((mGet ms z).getD [])) G := by
  rw [get2_of h (keyS z), dGet_mK]
  cases mGet ms z <;> rfl
theorem put_ok (h : FlAt G lf lb lh ms hs) (z : Tx) (p : Nat) (n : Int) (hp : p ≤ ((mGet ms z).getD []).length) (hz : ((mGet ms z).getD []).length ≤ 100000) (hm : ms.length ≤ 1000) :
    m_Files_put [.obj lf, .str (tx z), .int (p : Int), .int n] G = .ok .non (G.set lb (.dic (mK (mPut ms z (((mGet ms z).getD []).take p ++ [n] ++ ((mGet ms z).getD []).drop (p + 1)))))) := by
  have f1 := h.fb
  have ty := tyDc_of h.b
  have g2 := get2M h.b z
  generalize hr : (mGet ms z).getD [] = row at *
  have c1 : (0 : Int) ≤ (p : Int) := by omega
  have c2 : (p : Int) ≤ (row.length : Int) := by omega
  have pt := fun d ρ => dput_of (d := d) (ρ := ρ) h.b (keyS z) (by rw [mK_len]; omega)
  have tn : ((p : Int) + 1).toNat = p + 1 := by omega
  refine fn_nx rfl ⟨?_, ?_⟩
  rotate_left
  simp! [b_Files_put, f1, ty, g2, c1, c2, pt, tn, Int.toNat_natCast, List.length_append, List.length_take, List.length_drop]
  have em : D.lst (List.take p (row.map D.int) ++ [D.int n] ++ List.drop (p + 1) (row.map D.int)) = li (List.take p row ++ [n] ++ List.drop (p + 1) row) := by
    show D.lst _ = D.lst _
    rw [List.map_append, List.map_append, List.map_take, List.map_drop]; rfl
  rw [← dPut_mK, em]
theorem cut_ok (h : FlAt G lf lb lh ms hs) (z : Tx) (p : Nat) {row : List Int} (e : mGet ms z = some row) (hp : p ≤ row.length) (hm : ms.length ≤ 1000) (hbf : lb ≠ lf) :
    m_Files_cut [.obj lf, .str (tx z), .int (p : Int)] G = .ok .non (G.set lb (.dic (mK (if p = 0 then mDrop (mPut ms z (row.take p)) z else mPut ms z (row.take p))))) := by
  have bo := bof_some h e
  have m1 := fun f as ρ => h.m "births_of" f as ρ rfl
  have f1 := h.fb
  have c1 : (0 : Int) ≤ (p : Int) := by omega
  have c2 : (p : Int) ≤ (row.length : Int) := by omega
  have pt := fun ρ => dput_of (d := li (row.take p)) (ρ := ρ) h.b (keyS z) (by rw [mK_len]; omega)
  rw [dPut_mK] at pt
  have ct : ∀ g, cutOp none (some (p : Int)) (li row) g = .ok (li (row.take p)) g := fun g => by
    rw [Fw.v_cutLTo (by omega), Int.toNat_natCast, ← List.map_take]
  have hG2 : (G.set lb (.dic (mK (mPut ms z (row.take p)))))[lb]? = some (Cl.dic (mK (mPut ms z (row.take p)))) := set_at h.b
  have f2 : fldD ["Files"] "own_births" (.obj lf) (G.set lb (.dic (mK (mPut ms z (row.take p))))) = .ok (.obj lb) (G.set lb (.dic (mK (mPut ms z (row.take p))))) := fld_of (by rw [List.getElem?_set_ne hbf]; exact h.f) inFl rfl
  have ty := tyDc_of hG2
  have po := pop_of (e := .str (tx z)) (x := li (row.take p)) hG2 (keyS z) (by rw [dGet_mK, mGet_put, if_pos rfl]; rfl)
  rw [dDrop_mK, List.set_set] at po
  refine fn_nx rfl ⟨?_, ?_⟩
  rotate_left
  by_cases hp0 : p = 0
  · have c3 : decide ((p : Int) = 0) = true := decide_eq_true (by omega)
    rw [if_pos hp0]
    simp! [b_Files_cut, m1, bo, c1, c2, ct, f1, pt, c3, f2, ty, po]
    all_goals rfl
  · have c3 : decide ((p : Int) = 0) = false := decide_eq_false (by omega)
    rw [if_neg hp0]
    simp! [b_Files_cut, m1, bo, c1, c2, ct, f1, pt, c3]
    all_goals rfl
theorem want_some (h : FlAt G lf lb lh ms hs) {z : Tx} {q : Nat × Mo} (e : mGet hs z = some q) : m_Files_want_held [.obj lf, .str (tx z)] G = .ok .non G := by
  have f1 := h.fh
  have i1 : opDIn true (.str (tx z)) (.obj lh) G = .ok (.bl false) G := by rw [din_of h.h.d (keyS z), dGet_gK, e]; rfl
  refine fn_nx rfl ⟨?_, ?_⟩
  rotate_left
  simp! [b_Files_want_held, f1, i1]
  rfl
theorem hold_ok (h : FlAt G lf lb lh ms hs) {z : Tx} (e : mGet hs z = none) (hl : hs.length ≤ 1000) : m_Files_hold [.obj lf, .str (tx z)] G = .ok .non ((G ++ [Cl.dic (mK ms)]).set lh (.dic (hK (mPut hs z (G.length, ms))))) := by
  have f1 := h.fh
  have f2 := h.fb
  have i1 : opDIn false (.str (tx z)) (.obj lh) G = .ok (.bl false) G := by rw [din_of h.h.d (keyS z), dGet_gK, e]; rfl
  have dc := dicO_of h.b
  have u : Upd G (G ++ [Cl.dic (mK ms)]) 0 0 := Upd.app
  have f3 : fldD ["Files"] "own_held" (.obj lf) (G ++ [Cl.dic (mK ms)]) = .ok (.obj lh) (G ++ [Cl.dic (mK ms)]) := fld_of (u.at h.f (.inr (Nat.zero_le _))) inFl rfl
  have pt := fun ρ => dput_of (d := .obj G.length) (ρ := ρ) (g := G ++ [Cl.dic (mK ms)]) (u.at h.h.d (.inr (Nat.zero_le _))) (keyS z) (by rw [gK_len]; omega)
  have ep := dPut_gK (fun q : Nat × Mo => D.obj q.1) hs z (G.length, ms)
  rw [ep] at pt
  refine fn_nx rfl ⟨?_, ?_⟩
  rotate_left
  simp! [b_Files_hold, f1, i1, f2, dc, f3, pt]
  rfl
end
abbrev rw_ (ms : Mo) (z : Tx) : List Int := (mGet ms z).getD []
theorem mGet_row {ms : Mo} {z : Tx} (h : mGet ms z ≠ none) : mGet ms z = some (rw_ ms z) := by
  cases e : mGet ms z with
  | none => exact absurd e h
  | some v => unfold rw_; rw [e]; rfl
theorem KtAt.put {G : Gr} {l : Nat} {hs : Ho} (h : KtAt G l hs) (ho : Out l (l + 1) hs) (z : Tx) (m : Mo) : KtAt ((G ++ [Cl.dic (mK m)]).set l (.dic (hK (mPut hs z (G.length, m))))) l (mPut hs z (G.length, m)) := by
  have hlt : l < G.length := (List.getElem?_eq_some_iff.mp h.d).1
  refine ⟨List.getElem?_set_self (by rw [List.length_append]; omega), fun q hq => ?_⟩
  rcases mPut_mem hq with hq | rfl
  · rw [List.getElem?_set_ne (by have := ho q hq; omega), List.getElem?_append_left (List.getElem?_eq_some_iff.mp (h.c q hq)).1]
    exact h.c q hq
  · rw [List.getElem?_set_ne (by show l ≠ G.length; omega)]
    show (G ++ [Cl.dic (mK m)])[G.length]? = _
    simp
theorem KtAt.drop {G : Gr} {l : Nat} {hs : Ho} (h : KtAt G l hs) (ho : Out l (l + 1) hs) (z : Tx) : KtAt (G.set l (.dic (hK (mDrop hs z)))) l (mDrop hs z) := by
  refine ⟨set_at h.d, fun q hq => ?_⟩
  have hq' : q ∈ hs := (List.mem_filter.mp hq).1
  rw [List.getElem?_set_ne (by have := ho q hq'; omega)]
  exact h.c q hq'
theorem put_upd {G : Gr} {l : Nat} {c d : Cl} : Upd G ((G ++ [c]).set l d) l (l + 1) := (Upd.app (a := l) (b := l + 1)).trans (Upd.set (by omega))
section
variable {G : Gr} {lf lb lh lm lk : Nat} {ms : Mo} {hs hl : Ho} {ks : Ko} {zs : List Tx} {B : Nat} {z : Tx} {p : Nat} {n : Int}
theorem FlAt.set (h : FlAt G lf lb lh ms hs) (h1 : lb ≠ lf) (h2 : lb ≠ lh) (h3 : Out lb (lb + 1) hs) (ms' : Mo) : FlAt (G.set lb (.dic (mK ms'))) lf lb lh ms' hs :=
  ⟨by rw [List.getElem?_set_ne h1]; exact h.f, set_at h.b, h.h.frame (Upd.set (a := lb) (b := lb + 1) (by omega)) (by omega) h3⟩
theorem FlAt.frame {G' : Gr} {a b : Nat} (h : FlAt G lf lb lh ms hs) (u : Upd G G' a b) (h1 : lf < a ∨ b ≤ lf) (h2 : lb < a ∨ b ≤ lb) (h3 : lh < a ∨ b ≤ lh) (h4 : Out a b hs) : FlAt G' lf lb lh ms hs := ⟨u.at h.f h1, u.at h.b h2, h.h.frame u h3 h4⟩
theorem FlAt.hold (h : FlAt G lf lb lh ms hs) (h1 : lh ≠ lf) (h2 : lh ≠ lb) (ho : Out lh (lh + 1) hs) (z : Tx) (m : Mo) : FlAt ((G ++ [Cl.dic (mK m)]).set lh (.dic (hK (mPut hs z (G.length, m))))) lf lb lh ms (mPut hs z (G.length, m)) := by
  have u : Upd G ((G ++ [Cl.dic (mK m)]).set lh (.dic (hK (mPut hs z (G.length, m))))) lh (lh + 1) := put_upd
  exact ⟨u.at h.f (by omega), u.at h.b (by omega), h.h.put ho z m⟩
theorem FlAt.free (h : FlAt G lf lb lh ms hs) (h1 : lh ≠ lf) (h2 : lh ≠ lb) (ho : Out lh (lh + 1) hs) (z : Tx) : FlAt (G.set lh (.dic (hK (mDrop hs z)))) lf lb lh ms (mDrop hs z) := by
  have u : Upd G (G.set lh (.dic (hK (mDrop hs z)))) lh (lh + 1) := Upd.set (by omega)
  exact ⟨u.at h.f (by omega), u.at h.b (by omega), h.h.drop ho z⟩
end
end Ww

set_option maxRecDepth 100000
set_option maxHeartbeats 4000000
namespace Ww
open PySem PySem.Spec PyProof.Rows Fw
theorem eqP {d e : D} {q : PyData} {g : Gr} (h : toP g 8 d = some q) (h2 : toP g 8 e = some q) (n : ndP q = true) : opEq d e g = .ok (.bl true) g ∧ opNe d e g = .ok (.bl false) g := by
  unfold opEq opNe
  rw [h, h2]
  show (R.ok (.bl (PyData.eqv _ _)) g = _) ∧ (R.ok (.bl (!PyData.eqv _ _)) g = _)
  rw [eqv_self _ n]
  exact ⟨rfl, rfl⟩
theorem Upd.none {G G' : Gr} (u : Upd G G' 0 0) (a b : Nat) : Upd G G' a b := ⟨u.le, fun m hm _ => u.eq m hm (.inr (Nat.zero_le _))⟩
theorem pure_retX2 {n k : Nat} {m : Stm} {ds : List D} {d : D} {g : Gr} (hl : ds.length = n) (h : ∃ g2, m (ds.map some ++ List.replicate (k - n) none) g = .ret d (g ++ g2)) (lo : d.low g.length = true) : pureF (fnOf n k m) ds g = .ok d g := by
  obtain ⟨g2, h⟩ := h
  exact pure_ret (g2 := g2) hl h lo
theorem Ok.len {zs : List Tx} {B : Nat} {ms : Mo} (o : Ok zs B ms) : ms.length ≤ zs.length := by
  have := o.nd.length_le_of_subset (l₂ := zs) o.sub
  rwa [List.length_map] at this
theorem row_all (row : List Int) : (List.range row.length).map (fun k => D.int (row.getD k 0)) = row.map .int := by
  apply List.ext_getElem
  · simp
  · intro i h1 h2
    simp at h1
    simp [h1]
section
variable {G : Gr} {lf lb lh lm : Nat} {ms : Mo} {hs : Ho} {zs : List Tx} {B : Nat} {z : Tx} {p : Int} {bs : List Int}
theorem birth_in (h : FlAt G lf lb lh ms hs) {row : List Int} (e : mGet ms z = some row) (i : Nat) (hi : i < row.length) : m_Files_birth [.obj lf, .str (tx z), .int (i : Int)] G = .ok (.int row[i]) G := by
  have bo := bof_some h e
  have m1 := fun f as ρ => h.m "births_of" f as ρ rfl
  have c1 : (0 : Int) ≤ (i : Int) := by omega
  have c2 : (i : Int) < (row.length : Int) := by omega
  have ix : opIx (li row) (.int (i : Int)) G = .ok (.int row[i]) G := o_ixL (by rw [List.getElem?_map, List.getElem?_eq_getElem hi]; rfl)
  refine fn_ret rfl ?_
  simp! [b_Files_birth, m1, bo, c1, c2, ix]
theorem many_ok (h : FlAt G lf lb lh ms hs) (z : Tx) : m_Files_many [.obj lf, .str (tx z)] G = .ok (.int ((rw_ ms z).length : Int)) G := by
  have f1 := h.fb
  have ty := tyDc_of h.b
  have g2 := get2M h.b z
  refine fn_ret rfl ?_
  simp! [b_Files_many, f1, ty, g2]
abbrev srtN (ms : Mo) : List D := (srtS (ms.map fun p => tx p.1)).map .str
theorem names_told (h : FlAt G lf lb lh ms hs) (hl : ms.length < 64) : ∃ G', m_Files_names [.obj lf] G = .ok (.obj G.length) G' ∧ G'[G.length]? = some (Cl.lst (srtN ms)) ∧ Upd G G' 0 0 := by
  have f1 := h.fb
  have sk : fSrtK true [.obj lb] G = .ok (.obj G.length) (G ++ [.lst (srtN ms)]) := by rw [srtK_of h.b (asKS_mK ms) (by rw [List.length_map]; exact hl)]; rfl
  refine ⟨G ++ [Cl.lst (srtN ms)], fn_ret rfl ?_, ?_, Upd.app⟩
  · simp! [b_Files_names, f1, sk]
  · simp
abbrev srtA {α : Type} (ms : As α) : List D := (srtS (ms.map fun p => tx p.1)).map .str
theorem ko_keys (hs : Ho) : (ko hs).map (fun p => tx p.1) = hs.map fun p => tx p.1 := by
  unfold ko; rw [List.map_map]; rfl
theorem held_told (h : FlAt G lf lb lh ms hs) (hl : hs.length < 64) : ∃ G', m_Files_held [.obj lf] G = .ok (.obj G.length) G' ∧ G'[G.length]? = some (Cl.lst (srtA (ko hs))) ∧ Upd G G' 0 0 := by
  have f1 := h.fh
  have sk : fSrtK true [.obj lh] G = .ok (.obj G.length) (G ++ [.lst (srtA (ko hs))]) := by
    rw [srtK_of h.h.d (asKS_gK _ hs) (by rw [List.length_map]; exact hl), if_pos rfl]
    unfold srtA
    rw [ko_keys]
  refine ⟨G ++ [Cl.lst (srtA (ko hs))], fn_ret rfl ?_, ?_, Upd.app⟩
  · simp! [b_Files_held, f1, sk]
  · simp
theorem sorted_dict {α : Type} {f : α → D} {ms : As α} (h : G[lm]? = some (Cl.dic (gK f ms))) (hl : ms.length < 64) : fSrtK false [.obj lm] G = .ok (.lst (srtA ms)) G := by
  rw [srtK_of h (asKS_gK f ms) (by rw [List.length_map]; exact hl)]; rfl
theorem reset_at {g : Gr} {l : Nat} {c : Cl} (h : g[l]? = some c) : g.set l c = g := by
  obtain ⟨q1, q2⟩ := List.getElem?_eq_some_iff.mp h
  rw [← q2, List.set_getElem_self]
theorem reN {l : Nat} {kvs ks : List (Ky × D)} {ρ : En} {g : Gr} (h : g[l]? = some (Cl.shut ks)) : reD l kvs (.nx ρ g) = .nx ρ (g.set l (.dic kvs)) := by
  unfold reD
  simp only [h]
end
end Ww

set_option maxRecDepth 100000
set_option maxHeartbeats 4000000
namespace Ww
open PySem PySem.Spec PyProof.Rows Fw
def putN (ms : Mo) (z : Tx) (p : Nat) (bs : List Int) (i : Nat) : Mo := if i = 0 then ms else mPut ms z ((rw_ ms z).take p ++ bs.take i ++ (rw_ ms z).drop (p + i))
theorem putN_row (ms : Mo) (z : Tx) (p : Nat) (bs : List Int) (i : Nat) (hp : p ≤ (rw_ ms z).length) : rw_ (putN ms z p bs i) z = (rw_ ms z).take p ++ bs.take i ++ (rw_ ms z).drop (p + i) := by
  unfold putN
  split
  · rename_i h; subst h; simp
  · show (mGet (mPut ms z _) z).getD [] = _
    rw [mGet_put, if_pos rfl]; rfl
theorem putN_len (ms : Mo) (z : Tx) (p : Nat) (bs : List Int) (i : Nat) : (putN ms z p bs i).length ≤ ms.length + 1 := by
  unfold putN mPut
  split
  · omega
  · split <;> simp
theorem putN_step (ms : Mo) (z : Tx) (p : Nat) (bs : List Int) (i : Nat) (hp : p ≤ (rw_ ms z).length) (hi : i < bs.length) :
    mPut (putN ms z p bs i) z ((rw_ (putN ms z p bs i) z).take (p + i) ++ [bs[i]] ++ (rw_ (putN ms z p bs i) z).drop (p + i + 1)) = putN ms z p bs (i + 1) := by
  have hr := putN_row ms z p bs i hp
  have l1 : ((rw_ ms z).take p ++ bs.take i).length = p + i := by rw [List.length_append, List.length_take, List.length_take]; omega
  have t1 : (rw_ (putN ms z p bs i) z).take (p + i) = (rw_ ms z).take p ++ bs.take i := by
    rw [hr, List.take_append_of_le_length (by omega), List.take_of_length_le (by omega)]
  have t2 : (rw_ (putN ms z p bs i) z).drop (p + i + 1) = (rw_ ms z).drop (p + i + 1) := by
    rw [hr, ← List.drop_drop, show p + i = ((rw_ ms z).take p ++ bs.take i).length from l1.symm, List.drop_left, List.drop_drop, l1]
  rw [t1, t2, List.append_assoc ((rw_ ms z).take p), ← List.take_succ_eq_append_getElem hi]
  unfold putN
  rw [if_neg (Nat.succ_ne_zero i)]
  split
  · rfl
  · rw [mPut_put]; rfl
theorem init_ok (G : Gr) : m_Files___init__ [.obj G.length] (G ++ [Cl.ins "Files" []]) = .ok .non (G ++ [Cl.ins "Files" (fF (G.length + 1) (G.length + 2)), Cl.dic [], Cl.dic []]) := by
  have w1 : ∀ (f : Str) (e : D) (ρ : En) (fs : List (Str × D)) (rest : Gr), fs.length < 1000 → setD ["Files"] f e (.obj G.length) ρ (G ++ (Cl.ins "Files" fs :: rest)) = .nx ρ (G ++ (Cl.ins "Files" (putD f e fs) :: rest)) := fun f e ρ fs rest h => w_setAt inFl h
  have p1 : ∀ e : D, putD "own_births" e [] = ([("own_births", e)] : List (Str × D)) := fun _ => rfl
  have p2 : ∀ a e : D, putD "own_held" e [("own_births", a)] = ([("own_births", a), ("own_held", e)] : List (Str × D)) := fun _ _ => rfl
  refine fn_nx rfl ⟨?_, ?_⟩
  rotate_left
  simp! [b_Files___init__, w1, p1, p2, List.append_assoc, List.length_append]
  rfl
theorem putN_all (ms : Mo) (z : Tx) (row : List Int) (h : mGet ms z = none) (hr : row ≠ []) : putN ms z 0 row row.length = ms ++ [(z, row)] := by
  have e : rw_ ms z = [] := by show (mGet ms z).getD [] = []; rw [h]; rfl
  unfold putN
  rw [if_neg (fun q => hr (List.eq_nil_of_length_eq_zero q)), e, List.take_of_length_le (Nat.le_refl _), mPut_new h]
  simp
abbrev filesC (n : Nat) (ms : Mo) : Gr := [Cl.ins "Files" (fF (n + 1) (n + 2)), Cl.dic (mK ms), Cl.dic []]
theorem fl_app (A : Gr) (ms : Mo) : FlAt (A ++ filesC A.length ms) A.length (A.length + 1) (A.length + 2) ms [] := ⟨by simp, by simp, by simp [gK], fun q hq => by cases hq⟩
theorem fl_set (A : Gr) (ms ms' : Mo) : (A ++ filesC A.length ms).set (A.length + 1) (.dic (mK ms')) = A ++ filesC A.length ms' := by
  rw [List.set_append_right _ _ (by omega)]
  simp
section
variable {G : Gr} {lf lb lh lm : Nat} {ms : Mo} {hs : Ho} {zs : List Tx} {B : Nat} {z : Tx} {q : Nat × Mo}
theorem of_held_ok (h : FlAt G lf lb lh ms hs) (e : mGet hs z = some q) (n1 : q.1 ≠ lf) (n2 : q.1 ≠ lh) (o : Ok zs B q.2) (hB : B ≤ 10000) (hz : zs.length ≤ 40) :
    ∃ G', m_Files_of_held [.obj lf, .str (tx z)] G = .ok (.obj G.length) G' ∧ FlAt G' G.length (G.length + 1) (G.length + 2) q.2 [] ∧ Upd G G' 0 0 ∧ G'.length = G.length + 3 := by
  obtain ⟨l, mq⟩ := q
  simp only at n1 n2 o
  have hlen := o.len
  have w1 := want_some h e
  have m1 := fun f as ρ => h.m "want_held" f as ρ rfl
  have io := init_ok G
  have u1 : Upd G (G ++ filesC G.length []) 0 0 := Upd.app
  have F1 := h.frame u1 (.inr (Nat.zero_le _)) (.inr (Nat.zero_le _)) (.inr (Nat.zero_le _)) Out.zero
  have c0 : G[l]? = some (Cl.dic (mK mq)) := h.h.c _ (mGet_some e)
  have hl : l < G.length := (List.getElem?_eq_some_iff.mp c0).1
  have c1 : (G ++ filesC G.length [])[l]? = some (Cl.dic (mK mq)) := F1.h.c _ (mGet_some e)
  have f1 := F1.fh
  have dg : opDGet (.obj lh) (.str (tx z)) (G ++ filesC G.length []) = .ok (.obj l) (G ++ filesC G.length []) := dget_of F1.h.d (keyS z) (by rw [dGet_gK, e]; rfl)
  have us : Upd (G ++ filesC G.length []) ((G ++ filesC G.length []).set l (.shut (mK mq))) l (l + 1) := Upd.set (by omega)
  have f2 : fldD ["Files"] "own_held" (.obj lf) ((G ++ filesC G.length []).set l (.shut (mK mq))) = .ok (.obj lh) ((G ++ filesC G.length []).set l (.shut (mK mq))) := fld_of (us.at F1.f (by omega)) inFl rfl
  have dg2 : opDGet (.obj lh) (.str (tx z)) ((G ++ filesC G.length []).set l (.shut (mK mq))) = .ok (.obj l) ((G ++ filesC G.length []).set l (.shut (mK mq))) := dget_of (us.at F1.h.d (by omega)) (keyS z) (by rw [dGet_gK, e]; rfl)
  have es : (G ++ filesC G.length []).set l (.shut (mK mq)) = G.set l (.shut (mK mq)) ++ filesC (G.set l (.shut (mK mq))).length [] := by rw [List.set_append_left _ _ hl, List.length_set]
  have eo : (G ++ filesC G.length mq) = (G.set l (.shut (mK mq)) ++ filesC (G.set l (.shut (mK mq))).length mq).set l (.dic (mK mq)) := by
    rw [List.set_append_left _ _ (by rw [List.length_set]; exact hl), List.set_set, List.length_set, reset_at c0]
  refine ⟨G ++ filesC G.length mq, fn_ret rfl ?_, fl_app G mq, Upd.app, by simp⟩
  have fd := fun t2 t3 t4 t5 => forD_of (q := 2) (a := eBin opDGet (eFld ["Files"] "own_held" (eVar 0)) (eVar 1)) (ρ := [some (.obj lf), some (.str (tx z)), some (.obj G.length), t2, t3, t4, t5]) (t := gUnp 2 (gsCons (gVar 3) (gsCons (gVar 4) gsNil))) (s := sFor (srcA (aCons (eVar 4) aNil) iEA) (gUnp 2 (gsCons (gVar 5) (gsCons (gVar 6) gsNil))) (sDo (eMeth ["Files"] "put" m_Files_put (eVar 2) (aCons (eVar 3) (aCons (eVar 5) (aCons (eVar 6) aNil)))))) (g := G ++ filesC G.length []) (g0 := G ++ filesC G.length []) (g1 := (G ++ filesC G.length []).set l (.shut (mK mq))) c1 (by simp! [f1, dg]) (by simp! [f2, dg2])
  rw [es] at fd
  have io' : m_Files___init__ [D.obj G.length] (G ++ [Cl.ins "Files" []]) = .ok .non (G ++ filesC G.length []) := io
  have lA : (G.set l (.shut (mK mq))).length = G.length := List.length_set
  have sA : (G.set l (.shut (mK mq)))[l]? = some (.shut (mK mq)) := set_at c0
  rw [lA] at fd eo
  have FA : ∀ m, FlAt (G.set l (.shut (mK mq)) ++ filesC G.length m) G.length (G.length + 1) (G.length + 2) m [] := fun m => by
    have := fl_app (G.set l (.shut (mK mq))) m
    rwa [lA] at this
  have SA : ∀ m m', (G.set l (.shut (mK mq)) ++ filesC G.length m).set (G.length + 1) (.dic (mK m')) = G.set l (.shut (mK mq)) ++ filesC G.length m' := fun m m' => by
    have := fl_set (G.set l (.shut (mK mq))) m m'
    rwa [lA] at this
  rw [eo]
  simp! [b_Files_of_held, m1, w1, io', fd]
  clear fd es eo dg2 f2 us dg f1 io io'
  generalize G.set l (.shut (mK mq)) = A at *
  have lA' : l < A.length := (List.getElem?_eq_some_iff.mp sA).1
  refine loop_then (K := fun s => fSeq _ (reD _ _ s) = _) (fun i ρ g' => ∃ (t3 t4 t5 t6 : Option D), ρ = [some (.obj lf), some (.str (tx z)), some (.obj G.length), t3, t4, t5, t6] ∧ g' = A ++ filesC G.length (mq.take i)) ⟨none, none, none, none, rfl, rfl⟩ (fun _ _ _ _ => trivial) ?_ ?_
  · rintro i ρ g' d hd ⟨t3, t4, t5, t6, rfl, rfl⟩
    unfold itD mK gK at hd
    rw [List.map_map, List.getElem?_map] at hd
    obtain ⟨q, hq, rfl⟩ := Option.map_eq_some_iff.mp hd
    obtain ⟨hi, rfl⟩ := List.getElem?_eq_some_iff.mp hq
    have hqm : mq[i] ∈ mq := List.getElem_mem hi
    have et : mq.take (i + 1) = mq.take i ++ [mq[i]] := List.take_succ_eq_append_getElem hi
    have nz : mGet (mq.take i) mq[i].1 = none := by
      refine mGet_none.mpr fun hm => ?_
      have nd := o.nd
      have nd2 : ((mq.take (i + 1)).map (·.1)).Nodup := by rw [List.map_take]; exact nd.sublist (List.take_sublist ..)
      rw [et, List.map_append, List.nodup_append] at nd2
      exact nd2.2.2 _ hm _ (by simp) rfl
    rw [et]
    have ltk : (mq.take i).length ≤ 40 := by rw [List.length_take]; omega
    generalize mq.take i = pre at *
    generalize mq[i] = q at *
    obtain ⟨y, row⟩ := q
    simp only at nz
    have rne : row ≠ [] := o.ne _ hqm
    have rl : row.length ≤ B := o.row _ hqm
    have rz : rw_ pre y = [] := by show (mGet pre y).getD [] = []; rw [nz]; rfl
    rw [← putN_all pre y row nz rne]
    simp only [Function.comp, kD]
    simp! []
    refine loop_then (K := fun s => S.go (fun ρ g' => ∃ (t3 t4 t5 t6 : Option D), ρ = [some (.obj lf), some (.str (tx z)), some (.obj G.length), t3, t4, t5, t6] ∧ g' = A ++ filesC G.length (putN pre y 0 row row.length)) s) (fun j ρ g' => ∃ (t5 t6 : Option D), ρ = [some (.obj lf), some (.str (tx z)), some (.obj G.length), some (.str (tx y)), some (li row), t5, t6] ∧ g' = A ++ filesC G.length (putN pre y 0 row j)) ⟨t5, t6, rfl, rfl⟩ (fun _ _ _ _ => trivial) ?_ ?_
    · rintro j ρ g' d hd ⟨t5, t6, rfl, rfl⟩
      obtain ⟨d', hd', rfl⟩ := enD_get hd
      clear hd
      rw [Nat.zero_add]
      rw [List.getElem?_map] at hd'
      obtain ⟨n, hn, rfl⟩ := Option.map_eq_some_iff.mp hd'
      obtain ⟨hj, rfl⟩ := List.getElem?_eq_some_iff.mp hn
      have hs := FA (putN pre y 0 row j)
      have hrow := putN_row pre y 0 row j (Nat.zero_le _)
      have hrl : (rw_ (putN pre y 0 row j) y).length = j := by
        rw [hrow, rz, List.length_append, List.length_append, List.length_take, List.length_take, List.length_drop, List.length_nil]; omega
      have hml := putN_len pre y 0 row j
      have pu := put_ok hs y (0 + j) row[j] (by show 0 + j ≤ (rw_ (putN pre y 0 row j) y).length; omega) (by show (rw_ (putN pre y 0 row j) y).length ≤ _; omega) (by omega)
      rw [putN_step pre y 0 row j (Nat.zero_le _) hj, SA] at pu
      rw [Nat.zero_add] at pu
      have m2 := fun f as ρ => hs.m "put" f as ρ rfl
      simp! [m2, pu]
      exact ⟨_, _, rfl⟩
    · rintro ρ' g' ⟨t5, t6, rfl, rfl⟩
      rw [enD_len, List.length_map]
      exact ⟨_, _, _, _, rfl, rfl⟩
  · rintro ρ' g' ⟨t3, t4, t5, t6, rfl, rfl⟩
    rw [itD_len, mK_len, List.take_length]
    have re := fun ρ => reN (l := l) (ρ := ρ) (kvs := mK mq) (ks := mK mq) (g := A ++ filesC G.length mq) (by rw [List.getElem?_append_left lA']; exact sA)
    simp! [re]
end
end Ww

set_option maxRecDepth 100000
set_option maxHeartbeats 4000000
namespace Ww
open PySem PySem.Spec PyProof.Rows Fw
theorem perm_nodup {α : Type} [DecidableEq α] : ∀ {l l' : List α}, l.Nodup → l'.Nodup → (∀ a, a ∈ l ↔ a ∈ l') → l.Perm l'
  | [], l', _, _, h => by
    cases l' with
    | nil => exact .nil
    | cons b r => exact absurd ((h b).mpr List.mem_cons_self) (by simp)
  | a :: l, l', n1, n2, h => by
    have ha : a ∈ l' := (h a).mp List.mem_cons_self
    obtain ⟨m1, m2⟩ := List.nodup_cons.mp n1
    have ih : l.Perm (l'.erase a) := perm_nodup m2 (n2.erase a) fun b => by
      rw [n2.mem_erase_iff]
      constructor
      · intro hb
        exact ⟨fun e => m1 (e ▸ hb), (h b).mp (List.mem_cons_of_mem _ hb)⟩
      · rintro ⟨hb, hb'⟩
        rcases List.mem_cons.mp ((h b).mpr hb') with e | hb2
        · exact absurd e hb
        · exact hb2
    exact (ih.cons a).trans (List.perm_cons_erase ha).symm
def leT (a b : Tx) : Bool := leS (tx a) (tx b)
def srtT (ks : List Tx) : List Tx := ks.mergeSort leT
theorem leT_trans {a b c : Tx} (h : leT a b = true) (k : leT b c = true) : leT a c = true := leS_trans h k
theorem leT_anti {a b : Tx} (h : leT a b = true) (k : leT b a = true) : a = b := tx_inj (leS_anti h k)
theorem srtT_pw (ks : List Tx) : (srtT ks).Pairwise fun a b => leT a b = true := List.pairwise_mergeSort (le := leT) (fun _ _ _ h k => leT_trans h k) (fun a b => leS_total _ _) ks
theorem srtT_perm (ks : List Tx) : (srtT ks).Perm ks := List.mergeSort_perm ks leT
theorem srtT_of {ks ks' : List Tx} (p : ks.Perm ks') : srtT ks = srtT ks' :=
  perm_uniq (le := fun a b => leT a b = true) (fun _ _ => leT_anti) ((srtT_perm ks).trans (p.trans (srtT_perm ks').symm)) (srtT_pw ks) (srtT_pw ks')
theorem srtT_self {ks : List Tx} (p : ks.Pairwise fun a b => leT a b = true) : srtT ks = ks :=
  perm_uniq (le := fun a b => leT a b = true) (fun _ _ => leT_anti) (srtT_perm ks) (srtT_pw ks) p
theorem srtT_mem {ks : List Tx} {z : Tx} : z ∈ srtT ks ↔ z ∈ ks := (srtT_perm ks).mem_iff
theorem srtT_nodup {ks : List Tx} (h : ks.Nodup) : (srtT ks).Nodup := (srtT_perm ks).nodup_iff.mpr h
theorem srtT_len (ks : List Tx) : (srtT ks).length = ks.length := (srtT_perm ks).length_eq
theorem srtS_tx (ks : List Tx) : srtS (ks.map tx) = (srtT ks).map tx := by
  refine perm_uniq (le := fun a b => leS a b = true) (fun _ _ => leS_anti) ((List.mergeSort_perm _ _).trans ((srtT_perm ks).map tx).symm) (List.pairwise_mergeSort (le := leS) (fun _ _ _ h k => leS_trans h k) leS_total _) ?_
  rw [List.pairwise_map]
  exact srtT_pw ks
abbrev keys {α : Type} (ms : As α) : List Tx := ms.map (·.1)
theorem srtA_T {α : Type} (ms : As α) : srtA ms = (srtT (keys ms)).map fun z => D.str (tx z) := by
  show (srtS (ms.map fun p => tx p.1)).map D.str = _
  rw [show (ms.map fun p => tx p.1) = (keys ms).map tx by rw [List.map_map]; rfl, srtS_tx, List.map_map]
  rfl
theorem keys_mem {α : Type} {ms : As α} {z : Tx} : z ∈ keys ms ↔ mGet ms z ≠ none := by
  constructor
  · exact fun h e => mGet_none.mp e h
  · intro h
    cases e : mGet ms z with
    | none => exact absurd e h
    | some v => exact List.mem_map.mpr ⟨_, mGet_some e, rfl⟩
structure Eqv (ms ms' : Mo) : Prop where
  nd : (keys ms).Nodup
  nd' : (keys ms').Nodup
  g : ∀ z, mGet ms z = mGet ms' z
theorem Eqv.keys {ms ms' : Mo} (e : Eqv ms ms') : (keys ms).Perm (keys ms') := perm_nodup e.nd e.nd' fun z => by rw [keys_mem, keys_mem, e.g]
theorem Eqv.srt {ms ms' : Mo} (e : Eqv ms ms') : srtT (Ww.keys ms) = srtT (Ww.keys ms') := srtT_of e.keys
theorem Eqv.len {ms ms' : Mo} (e : Eqv ms ms') : ms.length = ms'.length := by
  have := e.keys.length_eq
  rwa [List.length_map, List.length_map] at this
theorem Eqv.row {ms ms' : Mo} (e : Eqv ms ms') (z : Tx) : rw_ ms z = rw_ ms' z := by
  show (mGet ms z).getD [] = (mGet ms' z).getD []
  rw [e.g]
theorem Eqv.refl {ms : Mo} (nd : (Ww.keys ms).Nodup) : Eqv ms ms := ⟨nd, nd, fun _ => rfl⟩
theorem Eqv.trans {a b c : Mo} (h : Eqv a b) (k : Eqv b c) : Eqv a c := ⟨h.nd, k.nd', fun z => (h.g z).trans (k.g z)⟩
theorem Eqv.symm {a b : Mo} (h : Eqv a b) : Eqv b a := ⟨h.nd', h.nd, fun z => (h.g z).symm⟩
structure EqK (ks ks' : Ko) : Prop where
  nd : (keys ks).Nodup
  nd' : (keys ks').Nodup
  g : ∀ z, (mGet ks z = none ∧ mGet ks' z = none) ∨ ∃ m m', mGet ks z = some m ∧ mGet ks' z = some m' ∧ Eqv m m'
theorem EqK.keys {ks ks' : Ko} (e : EqK ks ks') : (keys ks).Perm (keys ks') := perm_nodup e.nd e.nd' fun z => by
  rw [keys_mem, keys_mem]
  rcases e.g z with ⟨h1, h2⟩ | ⟨m, m', h1, h2, _⟩
  · rw [h1, h2]
  · rw [h1, h2]; simp
theorem EqK.srt {ks ks' : Ko} (e : EqK ks ks') : srtT (Ww.keys ks) = srtT (Ww.keys ks') := srtT_of e.keys
theorem EqK.len {ks ks' : Ko} (e : EqK ks ks') : ks.length = ks'.length := by
  have := e.keys.length_eq
  rwa [List.length_map, List.length_map] at this
theorem EqK.symm {a b : Ko} (h : EqK a b) : EqK b a := ⟨h.nd', h.nd, fun z => (h.g z).elim (fun q => .inl ⟨q.2, q.1⟩) fun ⟨m, m', h1, h2, h3⟩ => .inr ⟨m', m, h2, h1, h3.symm⟩⟩
def fileW (z : Tx) (row : List Int) : List Tx := z :: nm row.length :: row.map fun b => nm b.toNat
def wordsM (ms : Mo) : List Tx := nm ms.length :: ((srtT (keys ms)).map fun z => fileW z (rw_ ms z)).flatten
def kGet (ks : Ko) (z : Tx) : Mo := (mGet ks z).getD []
def textW (ms : Mo) (ks : Ko) : List Tx := wordsM ms ++ [nm ks.length] ++ ((srtT (keys ks)).map fun z => z :: wordsM (kGet ks z)).flatten
def textM (ms : Mo) (ks : Ko) : Tx := joinL 32 (textW ms ks)
theorem Eqv.words {ms ms' : Mo} (e : Eqv ms ms') : wordsM ms = wordsM ms' := by
  unfold wordsM
  rw [e.len, e.srt]
  congr 2
  exact List.map_congr_left fun z _ => by rw [e.row]
theorem EqK.words {ks ks' : Ko} (e : EqK ks ks') (z : Tx) : wordsM (kGet ks z) = wordsM (kGet ks' z) := by
  unfold kGet
  rcases e.g z with ⟨h1, h2⟩ | ⟨m, m', h1, h2, h3⟩
  · rw [h1, h2]
  · rw [h1, h2]; exact h3.words
abbrev Nme (z : Tx) : Prop := 1 ≤ z.length ∧ z.length ≤ 6 ∧ ∀ c ∈ z, c ∈ List.range' 97 26
structure Okm (ms : Mo) : Prop where
  nd : (keys ms).Nodup
  n : ∀ z ∈ keys ms, Nme z
  row : ∀ p ∈ ms, 1 ≤ p.2.length ∧ p.2.length ≤ 60
  b : ∀ p ∈ ms, ∀ b ∈ p.2, 0 ≤ b ∧ b < 1000000000000000000
  len : ms.length ≤ 3
structure OkKm (ks : Ko) : Prop where
  nd : (keys ks).Nodup
  n : ∀ z ∈ keys ks, Nme z
  m : ∀ p ∈ ks, Okm p.2
  len : ks.length ≤ 3
theorem Okm.get {ms : Mo} (o : Okm ms) {z : Tx} {v : List Int} (h : mGet ms z = some v) : (1 ≤ v.length ∧ v.length ≤ 60) ∧ (∀ b ∈ v, 0 ≤ b ∧ b < 1000000000000000000) ∧ Nme z :=
  ⟨o.row _ (mGet_some h), o.b _ (mGet_some h), o.n z (keys_mem.mpr (by rw [h]; simp))⟩
theorem Okm.eqv {ms ms' : Mo} (o : Okm ms) (e : Eqv ms ms') : Okm ms' :=
  ⟨e.nd', fun z hz => o.n z (e.keys.mem_iff.mpr hz), fun p hp => (o.get (by rw [e.g]; exact mGet_mem e.nd' hp)).1, fun p hp => (o.get (by rw [e.g]; exact mGet_mem e.nd' hp)).2.1, by rw [← e.len]; exact o.len⟩
theorem OkKm.eqv {ks ks' : Ko} (o : OkKm ks) (e : EqK ks ks') : OkKm ks' := by
  refine ⟨e.nd', fun z hz => o.n z (e.keys.mem_iff.mpr hz), fun p hp => ?_, by rw [← e.len]; exact o.len⟩
  have h := mGet_mem e.nd' hp
  rcases e.g p.1 with ⟨_, h2⟩ | ⟨m, m', h1, h2, h3⟩
  · rw [h] at h2; cases h2
  · rw [h] at h2; cases h2
    exact (o.m _ (mGet_some h1)).eqv h3
theorem Okm.nil : Okm [] := ⟨.nil, fun z h => (by cases h), fun p h => (by cases h), fun p h => (by cases h), by decide⟩
structure Okw (ms : Mo) : Prop where
  nd : (keys ms).Nodup
  n : ∀ z ∈ keys ms, Nme z
  row : ∀ p ∈ ms, 1 ≤ p.2.length ∧ p.2.length ≤ 800
  b : ∀ p ∈ ms, ∀ b ∈ p.2, 0 ≤ b ∧ b < 1000000000000000000
  len : ms.length ≤ 21
structure OkKw (ks : Ko) : Prop where
  nd : (keys ks).Nodup
  n : ∀ z ∈ keys ks, Nme z
  m : ∀ p ∈ ks, Okw p.2
  len : ks.length ≤ 21
theorem Okw.get {ms : Mo} (o : Okw ms) {z : Tx} {v : List Int} (h : mGet ms z = some v) : (1 ≤ v.length ∧ v.length ≤ 800) ∧ (∀ b ∈ v, 0 ≤ b ∧ b < 1000000000000000000) ∧ Nme z :=
  ⟨o.row _ (mGet_some h), o.b _ (mGet_some h), o.n z (keys_mem.mpr (by rw [h]; simp))⟩
theorem Okw.eqv {ms ms' : Mo} (o : Okw ms) (e : Eqv ms ms') : Okw ms' :=
  ⟨e.nd', fun z hz => o.n z (e.keys.mem_iff.mpr hz), fun p hp => (o.get (by rw [e.g]; exact mGet_mem e.nd' hp)).1, fun p hp => (o.get (by rw [e.g]; exact mGet_mem e.nd' hp)).2.1, by rw [← e.len]; exact o.len⟩
theorem OkKw.eqv {ks ks' : Ko} (o : OkKw ks) (e : EqK ks ks') : OkKw ks' := by
  refine ⟨e.nd', fun z hz => o.n z (e.keys.mem_iff.mpr hz), fun p hp => ?_, by rw [← e.len]; exact o.len⟩
  have h := mGet_mem e.nd' hp
  rcases e.g p.1 with ⟨_, h2⟩ | ⟨m, m', h1, h2, h3⟩
  · rw [h] at h2; cases h2
  · rw [h] at h2; cases h2
    exact (o.m _ (mGet_some h1)).eqv h3
theorem Okw.nil : Okw [] := ⟨.nil, fun z h => (by cases h), fun p h => (by cases h), fun p h => (by cases h), by decide⟩
theorem Okm.wide {ms : Mo} (o : Okm ms) : Okw ms := ⟨o.nd, o.n, fun p hp => ⟨(o.row p hp).1, Nat.le_trans (o.row p hp).2 (by decide)⟩, o.b, Nat.le_trans o.len (by decide)⟩
theorem OkKm.wide {ks : Ko} (o : OkKm ks) : OkKw ks := ⟨o.nd, o.n, fun p hp => (o.m p hp).wide, Nat.le_trans o.len (by decide)⟩
theorem kGet_mem {ks : Ko} {z : Tx} (h : z ∈ keys ks) : ∃ m, mGet ks z = some m ∧ kGet ks z = m := by
  cases e : mGet ks z with
  | none => exact absurd e (keys_mem.mp h)
  | some m => exact ⟨m, rfl, by unfold kGet; rw [e]; rfl⟩
theorem rw_mem {ms : Mo} {z : Tx} (h : z ∈ keys ms) : mGet ms z = some (rw_ ms z) := mGet_row (keys_mem.mp h)
def srtM (ms : Mo) : Mo := (srtT (keys ms)).map fun z => (z, rw_ ms z)
theorem mGet_tab {α : Type} (f : Tx → α) (z : Tx) : ∀ ks : List Tx, mGet (ks.map fun z => (z, f z)) z = if z ∈ ks then some (f z) else none
  | [] => by simp [mGet]
  | k :: ks => by
    rw [List.map_cons]
    unfold mGet
    by_cases e : k = z
    · subst e; simp
    · rw [if_neg e, mGet_tab f z ks]
      by_cases h : z ∈ ks
      · rw [if_pos h, if_pos (List.mem_cons_of_mem _ h)]
      · rw [if_neg h, if_neg (by rw [List.mem_cons, not_or]; exact ⟨fun q => e q.symm, h⟩)]
theorem keys_tab {α : Type} (f : Tx → α) (ks : List Tx) : keys (ks.map fun z => (z, f z)) = ks := by rw [keys, List.map_map]; exact List.map_id' ks
theorem srtM_eqv {ms : Mo} (nd : (keys ms).Nodup) : Eqv (srtM ms) ms := by
  refine ⟨by unfold srtM; rw [keys_tab]; exact srtT_nodup nd, nd, fun z => ?_⟩
  unfold srtM
  rw [mGet_tab]
  by_cases h : z ∈ keys ms
  · rw [if_pos (srtT_mem.mpr h), rw_mem h]
  · rw [if_neg (fun q => h (srtT_mem.mp q))]
    exact (mGet_none.mpr h).symm
def lenW (ws : List Tx) : Nat := (ws.map List.length).sum
theorem lenW_app (a b : List Tx) : lenW (a ++ b) = lenW a + lenW b := by unfold lenW; rw [List.map_append, List.sum_append]
theorem lenW_cons (a : Tx) (b : List Tx) : lenW (a :: b) = a.length + lenW b := by unfold lenW; rw [List.map_cons, List.sum_cons]
theorem lenW_flat {α : Type} (f : α → List Tx) (n : Nat) : ∀ xs : List α, (∀ x ∈ xs, lenW (f x) + (f x).length ≤ n) → lenW (xs.map f).flatten + (xs.map f).flatten.length ≤ n * xs.length
  | [], _ => by simp [lenW]
  | x :: xs, h => by
    have h1 := h x List.mem_cons_self
    have h2 := lenW_flat f n xs fun y hy => h y (List.mem_cons_of_mem _ hy)
    rw [List.map_cons, List.flatten_cons, lenW_app, List.length_append, List.length_cons, Nat.mul_succ]
    omega
theorem nm18 {m : Nat} (h : m < 1000000000000000000) : 1 ≤ (nm m).length ∧ (nm m).length ≤ 18 := ⟨List.length_pos_iff.mpr (nm_ne m), nm_len 17 m h⟩
end Ww

set_option maxRecDepth 100000
set_option maxHeartbeats 4000000
namespace Ww
open PySem PySem.Spec PyProof.Rows Fw
def smallL : List Nat := List.range' 97 26
def figL : List Nat := List.range' 48 10
theorem small_tx : tx [97, 98, 99, 100, 101, 102, 103, 104, 105, 106, 107, 108, 109, 110, 111, 112, 113, 114, 115, 116, 117, 118, 119, 120, 121, 122] = tx smallL := rfl
def madeOf (l sg : List Nat) (most : Nat) : Bool := decide (1 ≤ l.length ∧ l.length ≤ most) && l.all fun c => decide (c ∈ sg)
theorem is_made_of (l sg : List Nat) (most : Nat) (hm : most ≤ 10000) (hl : l.length ≤ 1000000) (g : Gr) : m_is_made_of [.str (tx l), .str (tx sg), .int most] g = .ok (.bl (madeOf l sg most)) g := by
  have e1 : l.length ≤ most → ∀ ρ0 ρ2, lcLoop kpT (gVar 3) eYes (eBin opIn (eVar 3) (eVar 1)) [ρ0, some (.str (tx sg)), ρ2, none] finF (chD (tx l)) [] g = .ok (.lst ((l.map fun c => decide (c ∈ sg)).map D.bl)) g := by
    intro hl2 ρ0 ρ2
    rw [chD_tx, lc_of (fun c => .bl (decide (c ∈ sg))) trivial (fun c hc => ?_) (by omega), List.map_map]
    · rfl
    · simp! []
  have e2 : ((l.map fun c => decide (c ∈ sg)).all fun b => b) = l.all fun c => decide (c ∈ sg) := by rw [List.all_map]; rfl
  refine pure_ret0 rfl ?_ rfl
  by_cases h1 : 1 ≤ (l.length : Int)
  · by_cases h2 : (l.length : Int) ≤ most
    · have h3 : 1 ≤ l.length ∧ l.length ≤ most := by omega
      have e1 := e1 h3.2
      simp! [b_is_made_of, h1, h2, e1, e2, madeOf, h3]
    · have h3 : ¬ (1 ≤ l.length ∧ l.length ≤ most) := by omega
      simp! [b_is_made_of, h1, h2, madeOf, h3]
  · have h3 : ¬ (1 ≤ l.length ∧ l.length ≤ most) := by omega
    simp! [b_is_made_of, h1, madeOf, h3]
theorem fig_tx : tx [48, 49, 50, 51, 52, 53, 54, 55, 56, 57] = tx figL := rfl
def numB (l : List Nat) : Bool := madeOf l figL 18 && (decide (l.getD 0 0 ≠ 48) || decide (l = [48]))
theorem is_number (l : List Nat) (hl : l.length ≤ 1000000) (g : Gr) : m_is_number [.str (tx l)] g = .ok (.bl (numB l)) g := by
  have a1 : m_is_made_of [.str (tx l), .str (tx figL), .int 18] g = .ok (.bl (madeOf l figL 18)) g := is_made_of l figL 18 (by decide) hl g
  refine pure_ret0 rfl ?_ rfl
  cases h : madeOf l figL 18 with
  | false =>
    rw [h] at a1
    simp! [b_is_number, fig_tx, a1, numB, h]
  | true =>
    rw [h] at a1
    have h0 : 1 ≤ l.length := by
      unfold madeOf at h
      simp only [Bool.and_eq_true, decide_eq_true_eq] at h
      exact h.1.1
    by_cases hz : [l.getD 0 0] = [48]
    · have hz' : l.getD 0 0 = 48 := by simpa using hz
      simp! [b_is_number, fig_tx, a1, numB, h, hz, hz', Bool.false_or]
    · have hz' : ¬ l.getD 0 0 = 48 := fun e => hz (by rw [e])
      simp! [b_is_number, fig_tx, a1, numB, h, hz, hz', Bool.true_or]
theorem is_name (l : List Nat) (hl : l.length ≤ 1000000) (g : Gr) : m_is_name [.str (tx l)] g = .ok (.bl (madeOf l smallL 6)) g := by
  have a1 : m_is_made_of [.str (tx l), .str (tx smallL), .int 6] g = .ok (.bl (madeOf l smallL 6)) g := is_made_of l smallL 6 (by decide) hl g
  refine pure_ret0 rfl ?_ rfl
  simp! [b_is_name, small_tx, a1]
theorem nm_fig (m : Nat) : ∀ c ∈ nm m, c ∈ figL := by
  intro c hc
  have h := nm_dig m c hc
  have : 48 ≤ c ∧ c ≤ 57 := by simpa using h
  show c ∈ List.range' 48 10
  rw [List.mem_range'_1]; omega
theorem madeOf_ok {l sg : List Nat} {most : Nat} (h1 : 1 ≤ l.length) (h2 : l.length ≤ most) (h3 : ∀ c ∈ l, c ∈ sg) : madeOf l sg most = true := by
  unfold madeOf
  simp only [Bool.and_eq_true, decide_eq_true_eq, List.all_eq_true]
  exact ⟨⟨h1, h2⟩, h3⟩
theorem numB_nm {v : Nat} (h : v < 1000000000000000000) : numB (nm v) = true := by
  unfold numB
  rw [madeOf_ok (List.length_pos_iff.mpr (nm_ne v)) (nm_len 17 v h) (nm_fig v), Bool.true_and, Bool.or_eq_true, decide_eq_true_eq, decide_eq_true_eq]
  by_cases h0 : v = 0
  · subst h0; exact .inr rfl
  · left
    have := nm_head v h0
    intro e
    apply this
    have hl : 0 < (nm v).length := List.length_pos_iff.mpr (nm_ne v)
    rw [List.getD_eq_getElem?_getD, List.getElem?_eq_getElem hl] at e
    rw [List.getElem?_eq_getElem hl]
    exact congrArg some e
theorem nm_free (m : Nat) : 32 ∉ nm m := fun h => by
  have f : ∀ x, x ∈ figL → x ≠ 32 := by decide
  exact f 32 (nm_fig m 32 h) rfl
end Ww

set_option maxRecDepth 100000
set_option maxHeartbeats 4000000
namespace Ww
open PySem PySem.Spec PyProof.Rows Fw
theorem put_nodup {α : Type} {ks : As α} {z : Tx} {v : α} (nd : (keys ks).Nodup) : (keys (mPut ks z v)).Nodup := by
  show ((mPut ks z v).map (·.1)).Nodup
  rw [mPut_keys]
  split
  · exact nd
  · rename_i h
    rw [List.nodup_append]
    exact ⟨nd, by simp, fun a ha b hb => by rw [List.mem_singleton.mp hb]; exact fun e => h (e ▸ ha)⟩
theorem put_keys {α : Type} {ks : As α} {z y : Tx} {v : α} : y ∈ keys (mPut ks z v) ↔ y = z ∨ y ∈ keys ks := by
  rw [keys_mem, mGet_put, keys_mem]
  by_cases e : y = z
  · subst e; simp
  · rw [if_neg e]; exact ⟨.inr, fun h => h.resolve_left e⟩
theorem put_len {α : Type} {ks : As α} {z : Tx} {v : α} : (mPut ks z v).length ≤ ks.length + 1 := by
  unfold mPut
  split
  · rw [List.length_map]; omega
  · simp
theorem Okm.put {ms : Mo} (o : Okm ms) (hl : ms.length ≤ 2) {z : Tx} (hz : Nme z) {row : List Int} (h1 : 1 ≤ row.length ∧ row.length ≤ 60) (h2 : ∀ b ∈ row, 0 ≤ b ∧ b < 1000000000000000000) : Okm (mPut ms z row) := by
  refine ⟨put_nodup o.nd, fun y hy => ?_, fun p hp => ?_, fun p hp => ?_, by have := put_len (ks := ms) (z := z) (v := row); omega⟩
  · rcases put_keys.mp hy with rfl | hy
    · exact hz
    · exact o.n y hy
  · rcases mPut_mem hp with hp | rfl
    · exact o.row p hp
    · exact h1
  · rcases mPut_mem hp with hp | rfl
    · exact o.b p hp
    · exact h2
theorem OkKm.put {ks : Ko} (o : OkKm ks) (hl : ks.length ≤ 2) {z : Tx} (hz : Nme z) {m : Mo} (hm : Okm m) : OkKm (mPut ks z m) := by
  refine ⟨put_nodup o.nd, fun y hy => ?_, fun p hp => ?_, by have := put_len (ks := ks) (z := z) (v := m); omega⟩
  · rcases put_keys.mp hy with rfl | hy
    · exact hz
    · exact o.n y hy
  · rcases mPut_mem hp with hp | rfl
    · exact o.m p hp
    · exact hm
theorem OkKm.nil : OkKm [] := ⟨.nil, fun z h => (by cases h), fun p h => (by cases h), by decide⟩
theorem KtAt.put' {G : Gr} {l : Nat} {hs : Ho} (h : KtAt G l hs) (ho : Out l (l + 1) hs) (z : Tx) {q : Nat × Mo} (hq : G[q.1]? = some (Cl.dic (mK q.2))) (hn : q.1 ≠ l) : KtAt (G.set l (.dic (hK (mPut hs z q)))) l (mPut hs z q) := by
  refine ⟨set_at h.d, fun p hp => ?_⟩
  rcases mPut_mem hp with hp | rfl
  · rw [List.getElem?_set_ne (by have := ho p hp; omega)]
    exact h.c p hp
  · rw [List.getElem?_set_ne (fun e => hn e.symm)]
    exact hq
theorem lc_draw {l i : Nat} {E : Exp} {ρ : En} (hE : ∀ x g, PotAt g l → ∃ (n : Nat) (g' : Gr), n < 1000000000000000000 ∧ E (ρ.set i (some x)) g = .ok (.int (n : Int)) g' ∧ PotAt g' l ∧ Upd g g' l (l + 1)) :
    ∀ (ds acc : List D) (ls : List Int) (G : Gr), PotAt G l → acc = ls.map D.int → acc.length + ds.length ≤ 1000 → (∀ b ∈ ls, 0 ≤ b ∧ b < 1000000000000000000) →
    ∃ (ls' : List Int) (G' : Gr), lcLoop kpT (gVar i) eYes E ρ finF ds acc G = .ok (.lst (ls'.map D.int)) G' ∧ ls'.length = ls.length + ds.length ∧ (∀ b ∈ ls', 0 ≤ b ∧ b < 1000000000000000000) ∧ PotAt G' l ∧ Upd G G' l (l + 1)
  | [], acc, ls, G, hp, ha, hz, hb => ⟨ls, G, by rw [Fw.v_lcNil, ha]; rfl, by simp, hb, hp, Upd.refl ..⟩
  | d :: ds, acc, ls, G, hp, ha, hz, hb => by
    obtain ⟨n, G1, hn, e1, p1, u1⟩ := hE d G hp
    simp only [List.length_cons] at hz
    obtain ⟨ls', G', e2, h1, h2, p2, u2⟩ := lc_draw hE ds (acc ++ [.int (n : Int)]) (ls ++ [(n : Int)]) G1 p1 (by rw [ha]; simp) (by simp; omega) (by
      intro b hb'
      rcases List.mem_append.mp hb' with hb' | hb'
      · exact hb b hb'
      · rw [List.mem_singleton.mp hb']; exact ⟨by omega, by omega⟩)
    refine ⟨ls', G', ?_, by rw [h1]; simp; omega, h2, p2, u1.trans u2⟩
    rw [Fw.v_lcCons (by omega)]
    show fLcE kpT (gVar i) eYes E ρ finF ds acc (E (ρ.set i (some d)) G) = _
    rw [e1]
    exact e2
theorem law_model_ok {G : Gr} {lp : Nat} (h : PotAt G lp) : ∃ (ms : Mo) (G' : Gr), m__law_model [.obj lp] G = .ok (.obj G.length) G' ∧ G'[G.length]? = some (Cl.dic (mK ms)) ∧ Okm ms ∧ PotAt G' lp ∧ Upd G G' lp (lp + 1) := by
  have hl : lp < G.length := by obtain ⟨a, b, _, _, h⟩ := h; exact (List.getElem?_eq_some_iff.mp h).1
  have u1 : Upd G (G ++ [Cl.dic []]) lp (lp + 1) := Upd.app
  have p1 := h.frame (Upd.app (x := [Cl.dic []]) (a := 0) (b := 0)) (.inr (Nat.zero_le _))
  have c1 : (G ++ [Cl.dic []])[G.length]? = some (Cl.dic (mK [])) := by simp [gK]
  obtain ⟨zs, G2, hz, ⟨nd, hn⟩, e2, p2, u2⟩ := names_ok p1
  obtain ⟨k, G3, hk, e3, p3, u3⟩ := take_ok p2 4 (by decide)
  have e3' : m__law_take [.obj lp, .int 4] G2 = .ok (.int (k : Int)) G3 := e3
  have c3 : G3[G.length]? = some (Cl.dic (mK [])) := u3.at (u2.at c1 (.inr hl)) (.inr hl)
  have ct : cutOp none (some (k : Int)) (.lst (zs.map fun p => .str (tx p))) G3 = .ok (.lst ((zs.take k).map fun p => .str (tx p))) G3 := by rw [Fw.v_cutLTo (by omega), Int.toNat_natCast, ← List.map_take]
  suffices key : ∃ (ms : Mo) (G' : Gr), b__law_model (([.obj lp] : List D).map some ++ List.replicate (6 - 1) none) G = .ret (.obj G.length) G' ∧ G'[G.length]? = some (Cl.dic (mK ms)) ∧ Okm ms ∧ PotAt G' lp ∧ Upd G G' lp (lp + 1) by
    obtain ⟨ms, G', q1, q2⟩ := key
    exact ⟨ms, G', fn_ret rfl q1, q2⟩
  have hn' : ∀ z ∈ zs.take k, Nme z := fun z hz => hn z (List.mem_of_mem_take hz)
  have lk : (zs.take k).length ≤ 3 := by rw [List.length_take]; omega
  generalize zs.take k = ys at *
  simp! [b__law_model, e2, e3', ct]
  refine loop_then (K := fun s => ∃ (ms : Mo) (G' : Gr), fSeq _ s = .ret (.obj G.length) G' ∧ G'[G.length]? = some (Cl.dic (mK ms)) ∧ Okm ms ∧ PotAt G' lp ∧ Upd G G' lp (lp + 1)) (fun i ρ g' => ∃ (t2 t3 t4 t5 : Option D) (ms : Mo), ρ = [some (.obj lp), some (.obj G.length), t2, t3, t4, t5] ∧ g'[G.length]? = some (Cl.dic (mK ms)) ∧ Okm ms ∧ ms.length ≤ i ∧ PotAt g' lp ∧ Upd G g' lp (lp + 1)) ⟨none, none, none, none, [], rfl, c3, Okm.nil, Nat.le_refl _, p3, (u1.trans u2).trans u3⟩ (fun _ _ _ _ => trivial) ?_ ?_
  · rintro i ρ g' d hd ⟨t2, t3, t4, t5, ms, rfl, c, o, li_, p, u⟩
    rw [List.getElem?_map] at hd
    obtain ⟨z, hz', rfl⟩ := Option.map_eq_some_iff.mp hd
    obtain ⟨hi, rfl⟩ := List.getElem?_eq_some_iff.mp hz'
    have hnz := hn' ys[i] (List.getElem_mem hi)
    generalize ys[i] = z at *
    obtain ⟨d4, H1, hd4, f1, q1, v1⟩ := drawn_ok p [.int 3, .int 3, .int 12, .int 60] (by simp)
    obtain ⟨m, rfl, hm⟩ : ∃ m : Nat, d4 = .int (m : Int) ∧ 1 ≤ m ∧ m ≤ 60 := by
      simp only [List.mem_cons, List.not_mem_nil, or_false] at hd4
      rcases hd4 with rfl | rfl | rfl | rfl
      · exact ⟨3, rfl, by decide⟩
      · exact ⟨3, rfl, by decide⟩
      · exact ⟨12, rfl, by decide⟩
      · exact ⟨60, rfl, by decide⟩
    obtain ⟨k', H2, hk', f2, q2, v2⟩ := take_ok q1 m (by omega)
    have rg := fun g => Fw.v_rng1 (g := g) (i := 1 + (k' : Int)) (by omega)
    have hk2 : (1 + (k' : Int)).toNat = k' + 1 := by omega
    rw [hk2] at rg
    obtain ⟨row, H3, f3, l3, b3, q3, v3⟩ := lc_draw (l := lp) (i := 5) (E := eIf (eBin opGt (eVar 3) (eC (.int 12))) (eArgs m__law_take (aCons (eVar 0) (aCons (eC (.int 90)) aNil))) (eArgs m__law_birth (aCons (eVar 0) aNil))) (ρ := [some (.obj lp), some (.obj G.length), some (.str (tx z)), some (.int (m : Int)), some (.int (1 + (k' : Int))), none]) (fun x g hp => by
      by_cases h12 : (m : Int) > 12
      · obtain ⟨n, g', hn, e, p, u⟩ := take_ok hp 90 (by decide)
        have e' : m__law_take [.obj lp, .int 90] g = .ok (.int (n : Int)) g' := e
        refine ⟨n, g', by omega, ?_, p, u⟩
        simp! [h12, e']
      · obtain ⟨n, g', hn, e, p, u⟩ := birth_ok hp
        refine ⟨n, g', hn, ?_, p, u⟩
        simp! [h12, e]) (rangeD 0 (k' + 1)) [] [] H2 q2 rfl (by rw [rangeD_len]; simp; omega) (fun b h => by cases h)
    rw [rangeD_len, List.length_nil, Nat.zero_add] at l3
    have v03 : Upd g' H3 lp (lp + 1) := (v1.trans v2).trans v3
    have c3' := v03.at c (.inr hl)
    have pt := fun ρ => dput_of (d := li row) (ρ := ρ) c3' (keyS z) (by rw [mK_len]; omega)
    rw [dPut_mK] at pt
    have us : Upd H3 (H3.set G.length (.dic (mK (mPut ms z row)))) G.length (G.length + 1) := Upd.set (by omega)
    have lu := (u.trans v03).le
    simp! [f1, f2, rg, f3, pt]
    refine ⟨_, _, _, _, mPut ms z row, rfl, set_at c3', o.put (by omega) hnz (by omega) b3, Nat.le_trans put_len (by omega), q3.frame us (.inl hl), ⟨Nat.le_trans lu us.le, fun m hm hn => (us.eq m (Nat.lt_of_lt_of_le hm lu) (.inl hm)).trans ((u.trans v03).eq m hm hn)⟩⟩
  · rintro ρ' g' ⟨t2, t3, t4, t5, ms, rfl, c, o, li_, p, u⟩
    refine ⟨ms, g', ?_, c, o, p, u⟩
    simp! []
theorem law_models_ok {G : Gr} {lp : Nat} (h : PotAt G lp) : ∃ (ms : Mo) (hl : Ho) (lm : Nat) (G' : Gr), m__law_models [.obj lp] G = .ok (.tup [.obj lm, .obj G.length]) G' ∧ G'[lm]? = some (Cl.dic (mK ms)) ∧ KtAt G' G.length hl ∧ Okm ms ∧ OkKm (ko hl) ∧ G.length < lm ∧ Out 0 (G.length + 1) hl ∧ PotAt G' lp ∧ Upd G G' lp (lp + 1) := by
  have hlt : lp < G.length := by obtain ⟨a, b, _, _, h⟩ := h; exact (List.getElem?_eq_some_iff.mp h).1
  have u1 : Upd G (G ++ [Cl.dic []]) lp (lp + 1) := Upd.app
  have p1 := h.frame (Upd.app (x := [Cl.dic []]) (a := 0) (b := 0)) (.inr (Nat.zero_le _))
  have c1 : (G ++ [Cl.dic []])[G.length]? = some (Cl.dic (hK [])) := by simp [gK]
  obtain ⟨k, G3, hk, e3, p3, u3⟩ := take_ok p1 4 (by decide)
  have e3' : m__law_take [.obj lp, .int 4] (G ++ [Cl.dic []]) = .ok (.int (k : Int)) G3 := e3
  have c3 : G3[G.length]? = some (Cl.dic (hK [])) := u3.at c1 (.inr hlt)
  have rg := fun g => Fw.v_rng1 (g := g) (i := (k : Int)) (by omega)
  have hk2 : ((k : Int)).toNat = k := by omega
  rw [hk2] at rg
  suffices key : ∃ (ms : Mo) (hl : Ho) (lm : Nat) (G' : Gr), b__law_models (([.obj lp] : List D).map some ++ List.replicate (3 - 1) none) G = .ret (.tup [.obj lm, .obj G.length]) G' ∧ G'[lm]? = some (Cl.dic (mK ms)) ∧ KtAt G' G.length hl ∧ Okm ms ∧ OkKm (ko hl) ∧ G.length < lm ∧ Out 0 (G.length + 1) hl ∧ PotAt G' lp ∧ Upd G G' lp (lp + 1) by
    obtain ⟨ms, hl, lm, G', q1, q2⟩ := key
    exact ⟨ms, hl, lm, G', fn_ret rfl q1, q2⟩
  simp! [b__law_models, e3', rg]
  refine rng_then (K := fun s => ∃ (ms : Mo) (hl : Ho) (lm : Nat) (G' : Gr), fSeq _ s = .ret (.tup [.obj lm, .obj G.length]) G' ∧ G'[lm]? = some (Cl.dic (mK ms)) ∧ KtAt G' G.length hl ∧ Okm ms ∧ OkKm (ko hl) ∧ G.length < lm ∧ Out 0 (G.length + 1) hl ∧ PotAt G' lp ∧ Upd G G' lp (lp + 1)) (fun i ρ g' => ∃ (t2 : Option D) (hl : Ho), ρ = [some (.obj lp), some (.obj G.length), t2] ∧ KtAt g' G.length hl ∧ OkKm (ko hl) ∧ hl.length ≤ i ∧ Out 0 (G.length + 1) hl ∧ PotAt g' lp ∧ Upd G g' lp (lp + 1)) ⟨none, [], rfl, ⟨c3, fun p h => (by cases h)⟩, OkKm.nil, Nat.le_refl _, fun p h => (by cases h), p3, u1.trans u3⟩ ?_ ?_
  · rintro i ρ g' hi ⟨t2, hl, rfl, K, o, ll, ho, p, u⟩
    have lg : G.length < g'.length := (List.getElem?_eq_some_iff.mp K.d).1
    obtain ⟨ms, H1, f1, cm, om, q1, v1⟩ := law_model_ok p
    obtain ⟨z, H2, hz, f2, q2, v2⟩ := name_ok q1
    have out_lp : Out lp (lp + 1) hl := fun p hp => by have := ho p hp; omega
    have K1 := K.frame (v1.trans v2) (.inr (by omega)) out_lp
    have cm2 := v2.at cm (.inr (by omega))
    have K2 := K1.put' (fun p hp => by have := ho p hp; omega) z (q := (g'.length, ms)) cm2 (by show g'.length ≠ G.length; omega)
    have pt := fun ρ => dput_of (d := .obj g'.length) (ρ := ρ) K1.d (keyS z) (by rw [gK_len]; omega)
    have ep := dPut_gK (fun q : Nat × Mo => D.obj q.1) hl z (g'.length, ms)
    rw [ep] at pt
    have us : Upd H2 (H2.set G.length (.dic (hK (mPut hl z (g'.length, ms))))) G.length (G.length + 1) := Upd.set (by omega)
    have v12 := v1.trans v2
    have lu := (u.trans v12).le
    have ol : (ko hl).length ≤ 2 := by unfold ko; rw [List.length_map]; omega
    simp! [f1, f2, pt]
    refine ⟨_, mPut hl z (g'.length, ms), rfl, K2, by rw [ko_put]; exact o.put ol hz om, Nat.le_trans put_len (by omega), fun p hp => ?_, q2.frame us (.inl hlt), ⟨Nat.le_trans lu us.le, fun m hm hn => (us.eq m (Nat.lt_of_lt_of_le hm lu) (.inl hm)).trans ((u.trans v12).eq m hm hn)⟩⟩
    rcases mPut_mem hp with hp | rfl
    · exact ho p hp
    · exact .inr lg
  · rintro ρ' g' ⟨t2, hl, rfl, K, o, ll, ho, p, u⟩
    have lg : G.length < g'.length := (List.getElem?_eq_some_iff.mp K.d).1
    obtain ⟨ms, H1, f1, cm, om, q1, v1⟩ := law_model_ok p
    have out_lp : Out lp (lp + 1) hl := fun p hp => by have := ho p hp; omega
    refine ⟨ms, hl, g'.length, H1, ?_, cm, K.frame v1 (.inr (by omega)) out_lp, om, o, lg, ho, q1, u.trans v1⟩
    simp! [f1]
end Ww

set_option maxRecDepth 100000
set_option maxHeartbeats 4000000
namespace Ww
open PySem PySem.Spec PyProof.Rows Fw
theorem drop_get {α : Type} (z y : Tx) : ∀ ms : As α, mGet (mDrop ms z) y = if y = z then none else mGet ms y
  | [] => by simp [mDrop, mGet]
  | p :: r => by
    have ih := drop_get z y r
    unfold mDrop at ih ⊢
    by_cases e : p.1 = z
    · rw [List.filter_cons_of_neg (by simp [e]), ih]
      by_cases e2 : y = z
      · rw [if_pos e2, if_pos e2]
      · rw [if_neg e2, if_neg e2]
        conv => rhs; unfold mGet
        rw [if_neg (fun q => e2 (by rw [← q, e]))]
    · rw [List.filter_cons_of_pos (by simp [e])]
      unfold mGet
      by_cases e3 : p.1 = y
      · rw [if_pos e3, if_pos e3, if_neg (fun q => e (by rw [e3, q]))]
      · rw [if_neg e3, if_neg e3, ih]
theorem drop_keys {α : Type} {ms : As α} {z y : Tx} : y ∈ keys (mDrop ms z) ↔ y ≠ z ∧ y ∈ keys ms := by
  rw [keys_mem, drop_get, keys_mem]
  by_cases e : y = z
  · rw [if_pos e]; simp [e]
  · rw [if_neg e]; simp [e]
theorem Okm.drop {ms : Mo} (o : Okm ms) (z : Tx) : Okm (mDrop ms z) :=
  ⟨(List.filter_sublist.map _).nodup o.nd, fun y hy => o.n y (drop_keys.mp hy).2, fun p hp => o.row p (List.mem_filter.mp hp).1, fun p hp => o.b p (List.mem_filter.mp hp).1, Nat.le_trans (List.length_filter_le ..) o.len⟩
theorem EqK.nil : EqK [] [] := ⟨.nil, .nil, fun _ => .inl ⟨rfl, rfl⟩⟩
theorem Upd.old {G G' G2 : Gr} {a b : Nat} (h : Upd G G' 0 0) (k : Upd G' G2 a b) (hl : G.length ≤ a) : Upd G G2 0 0 :=
  ⟨Nat.le_trans h.le k.le, fun m hm _ => (k.eq m (Nat.lt_of_lt_of_le hm h.le) (.inl (by omega))).trans (h.eq m hm (.inr (Nat.zero_le _)))⟩
theorem take_mem_succ {l : List Tx} {i : Nat} (hi : i < l.length) {z : Tx} : z ∈ l.take (i + 1) ↔ z ∈ l.take i ∨ z = l[i] := by
  rw [List.take_succ_eq_append_getElem hi, List.mem_append, List.mem_singleton]
end Ww

set_option maxRecDepth 100000
set_option maxHeartbeats 4000000
namespace Ww
open PySem PySem.Spec PyProof.Rows Fw
theorem ko_mem {hs : Ho} {p : Tx × Nat × Mo} (hp : p ∈ hs) : (p.1, p.2.2) ∈ ko hs := List.mem_map.mpr ⟨p, hp, rfl⟩
theorem ko_len (hs : Ho) : (ko hs).length = hs.length := List.length_map _
theorem ko_keys' (hs : Ho) : keys (ko hs) = keys hs := by unfold ko; rw [keys, List.map_map]; rfl
theorem ko_none {hs : Ho} {z : Tx} : mGet (ko hs) z = none ↔ mGet hs z = none := by
  rw [ko_get]; cases mGet hs z <;> simp
theorem ko_some {hs : Ho} {z : Tx} {m : Mo} (h : mGet (ko hs) z = some m) : ∃ l, mGet hs z = some (l, m) := by
  rw [ko_get] at h
  obtain ⟨q, h3, h4⟩ := Option.map_eq_some_iff.mp h
  exact ⟨q.1, by rw [h3]; exact congrArg some (Prod.ext rfl h4)⟩
end Ww

set_option maxRecDepth 7100000
set_option maxHeartbeats 4000000
namespace Ww
open PySem PySem.Spec PyProof.Rows Fw
abbrev WD (ws : List Tx) : D := .lst (ws.map fun p => .str (tx p))
theorem low_strs {n : Nat} : ∀ ws : List Tx, D.low.lowAll n (ws.map fun p => .str (tx p)) = true
  | [] => by simp [D.low.lowAll]
  | a :: ws => by simp [D.low.lowAll, D.low, low_strs ws]
theorem low_WD {n : Nat} (ws : List Tx) : (WD ws).low n = true := by simp only [D.low]; exact low_strs ws
theorem join_cell {g : Gr} {l : Nat} {ws : List Tx} (h : g[l]? = some (Cl.lst (ws.map fun p => .str (tx p)))) (hb : lenW ws + ws.length ≤ 8388608) : mJoin (.str (tx [32])) [.obj l] g = .ok (.str (tx (joinL 32 ws))) g := by
  have e : mJoin (.str (tx [32])) [.obj l] g = mJoin (.str (tx [32])) [WD ws] g := by
    have e1 : viewA g (.obj l) = some (ws.map fun p => .str (tx p)) := viewL_of h
    have e2 : viewA g (WD ws) = some (ws.map fun p => .str (tx p)) := rfl
    unfold mJoin
    simp only [e1, e2]
  rw [e]
  exact Fw.v_joinC hb
theorem flat_bd {α : Type} (f : α → List Tx) (n : Nat) : ∀ xs : List α, (∀ x ∈ xs, (f x).length ≤ n) → (xs.map f).flatten.length ≤ n * xs.length
  | [], _ => by simp
  | x :: xs, h => by
    have h1 := h x List.mem_cons_self
    have h2 := flat_bd f n xs fun y hy => h y (List.mem_cons_of_mem _ hy)
    rw [List.map_cons, List.flatten_cons, List.length_append, List.length_cons, Nat.mul_succ]
    omega
theorem row_bd {row : List Int} (h : ∀ b ∈ row, 0 ≤ b ∧ b < 1000000000000000000) : lenW (row.map fun b => nm b.toNat) + (row.map fun b => nm b.toNat).length ≤ 19 * row.length := by
  induction row with
  | nil => simp [lenW]
  | cons b r ih =>
    have h1 := h b List.mem_cons_self
    have h2 := ih fun x hx => h x (List.mem_cons_of_mem _ hx)
    have h3 := (nm18 (m := b.toNat) (by omega)).2
    rw [List.map_cons, lenW_cons, List.length_cons, List.length_cons]
    omega
theorem fileW_bd {ms : Mo} (o : Okw ms) {z : Tx} (hz : z ∈ keys ms) : lenW (fileW z (rw_ ms z)) + (fileW z (rw_ ms z)).length ≤ 15300 ∧ (fileW z (rw_ ms z)).length ≤ 802 := by
  obtain ⟨h1, h2, h3⟩ := o.get (rw_mem hz)
  have hb := row_bd h2
  have hn := (nm18 (m := (rw_ ms z).length) (by omega)).2
  obtain ⟨_, h5, _⟩ := h3
  unfold fileW
  rw [lenW_cons, lenW_cons]
  simp only [List.length_cons]
  rw [List.length_map] at hb ⊢
  omega
theorem wordsM_bd {ms : Mo} (o : Okw ms) : lenW (wordsM ms) + (wordsM ms).length ≤ 321400 := by
  have ol := o.len
  have hn := (nm18 (m := ms.length) (by omega)).2
  have hf := lenW_flat (fun z => fileW z (rw_ ms z)) 15300 (srtT (keys ms)) fun z hz => (fileW_bd o (srtT_mem.mp hz)).1
  rw [srtT_len, List.length_map] at hf
  have : 15300 * ms.length ≤ 15300 * 21 := Nat.mul_le_mul_left _ ol
  unfold wordsM
  rw [lenW_cons, List.length_cons]
  omega
theorem OkKw.get {ks : Ko} (k : OkKw ks) {z : Tx} (hz : z ∈ keys ks) : Okw (kGet ks z) ∧ Nme z := by
  obtain ⟨m, h1, h2⟩ := kGet_mem hz
  rw [h2]
  exact ⟨k.m _ (mGet_some h1), k.n z hz⟩
theorem textW_bd {ms : Mo} {ks : Ko} (o : Okw ms) (k : OkKw ks) : lenW (textW ms ks) + (textW ms ks).length ≤ 7100000 := by
  have kl := k.len
  have hn := (nm18 (m := ks.length) (by omega)).2
  have h1 := wordsM_bd o
  have hf := lenW_flat (fun z => z :: wordsM (kGet ks z)) 321500 (srtT (keys ks)) fun z hz => by
    obtain ⟨g1, g2⟩ := k.get (srtT_mem.mp hz)
    have := wordsM_bd g1
    obtain ⟨_, h5, _⟩ := g2
    rw [lenW_cons, List.length_cons]
    omega
  rw [srtT_len, List.length_map] at hf
  have : 321500 * ks.length ≤ 321500 * 21 := Nat.mul_le_mul_left _ kl
  unfold textW
  rw [lenW_app, lenW_app, lenW_cons, List.length_append, List.length_append, List.length_singleton]
  have : lenW [] = 0 := rfl
  omega
theorem strs_of {row : List Int} (h : ∀ b ∈ row, 0 ≤ b ∧ b < 1000000000000000000) {i : Nat} {ρ : En} {g : Gr} (hρ : ∀ x, eVar i (ρ.set i (some x)) g = .ok x g) (hl : row.length ≤ 1000) :
    lcLoop kpT (gVar i) eYes (eArgs fStr (aCons (eVar i) aNil)) ρ finF (row.map .int) [] g = .ok (WD (row.map fun b => nm b.toNat)) g := by
  rw [lc_of (fun b : Int => .str (tx (nm b.toNat))) trivial ?_ (by omega)]
  · show R.ok (D.lst _) g = R.ok (D.lst _) g
    rw [List.map_map]; rfl
  · intro b hb
    have hs := Fw.v_strN (g := g) (h b hb)
    show (eArgs fStr (aCons (eVar i) aNil)) (ρ.set i (some (.int b))) g = _
    show (aCons (eVar i) aNil (ρ.set i (some (.int b))) g).bind fStr = _
    have e : aCons (eVar i) aNil (ρ.set i (some (.int b))) g = .ok [.int b] g := by
      unfold aCons
      rw [hρ]; rfl
    rw [e]
    exact hs
section
variable {G : Gr} {lf lb lh lm lk : Nat} {ms mm : Mo} {hs hl : Ho}
theorem strN_nat {n : Nat} (h : n < 1000000000000000000) (g : Gr) : fStr [.int (n : Int)] g = .ok (.str (tx (nm n))) g := by
  rw [Fw.v_strN ⟨by omega, by omega⟩, Int.toNat_natCast]
theorem names_len {α : Type} (ms : As α) : (srtA ms).length = ms.length := by rw [srtA_T, List.length_map, srtT_len, List.length_map]
theorem words_ok (h : FlAt G lf lb lh ms hs) (o : Okw ms) : m_files_words [.obj lf] G = .ok (WD (wordsM ms)) G := by
  have ol := o.len
  obtain ⟨G1, e1, c1, u1⟩ := names_told h (by omega)
  have ln := len_at c1
  rw [names_len] at ln
  have st := strN_nat (n := ms.length) (by omega)
  have mn := fun f as ρ => h.m "names" f as ρ rfl
  have u2 : Upd G1 (G1 ++ [Cl.lst [.str (tx (nm ms.length))]]) 0 0 := Upd.app
  have F2 := h.frame (u1.trans u2) (.inr (Nat.zero_le _)) (.inr (Nat.zero_le _)) (.inr (Nat.zero_le _)) Out.zero
  have mn2 := fun f as ρ => F2.m "names" f as ρ rfl
  obtain ⟨G3, e3, c3, u3⟩ := names_told F2 (by omega)
  have w3 : Upd G G3 0 0 := (u1.trans u2).trans u3
  have F3 := h.frame w3 (.inr (Nat.zero_le _)) (.inr (Nat.zero_le _)) (.inr (Nat.zero_le _)) Out.zero
  have k3 : G3[G1.length]? = some (Cl.lst ([nm ms.length].map fun p => .str (tx p))) := u3.at (by simp) (.inr (Nat.zero_le _))
  have hG1 := u1.le
  have l23 := u2.le
  rw [List.length_append, List.length_singleton] at c3 l23
  have e3' : m_Files_names [.obj lf] (G1 ++ [Cl.lst [.str (tx (nm ms.length))]]) = .ok (.obj (G1.length + 1)) G3 := by rw [e3, List.length_append, List.length_singleton]
  have c3' : G3[G1.length + 1]? = some (Cl.lst ((srtT (keys ms)).map fun z => D.str (tx z))) := by rw [← srtA_T]; exact c3
  have ia := iA_of c3'
  have hsub : ∀ z ∈ srtT (keys ms), z ∈ keys ms := fun z hz => srtT_mem.mp hz
  have hnl : (srtT (keys ms)).length ≤ 21 := by rw [srtT_len, List.length_map]; exact ol
  refine pure_retX2 rfl ?_ (low_WD _)
  unfold wordsM
  generalize srtT (keys ms) = nms at *
  simp! [b_files_words, mn, e1, ln, st, mn2, e3', ia]
  refine loop_then (K := fun s => ∃ g2, fSeq _ s = .ret (WD (nm ms.length :: (nms.map fun z => fileW z (rw_ ms z)).flatten)) (G ++ g2)) (fun i ρ g' => ∃ (t2 t3 : Option D), ρ = [some (.obj lf), some (.obj G1.length), t2, t3, none, none] ∧ FlAt g' lf lb lh ms hs ∧ g'[G1.length]? = some (Cl.lst ((nm ms.length :: ((nms.take i).map fun z => fileW z (rw_ ms z)).flatten).map fun p => .str (tx p))) ∧ g'[G1.length + 1]? = some (Cl.lst (nms.map fun z => D.str (tx z))) ∧ Upd G g' 0 0) ⟨none, none, rfl, F3, k3, c3', w3⟩ (fun n ρ g' hh => by obtain ⟨_, _, _, _, _, c, _⟩ := hh; exact viewL_of c) ?_ ?_
  · rintro i ρ g' d hd ⟨t2, t3, rfl, F, kc, c, u⟩
    rw [List.getElem?_map] at hd
    obtain ⟨z, hz', rfl⟩ := Option.map_eq_some_iff.mp hd
    obtain ⟨hi, rfl⟩ := List.getElem?_eq_some_iff.mp hz'
    have zk := hsub nms[i] (List.getElem_mem hi)
    have ef : ((nms.take (i + 1)).map fun z => fileW z (rw_ ms z)).flatten = ((nms.take i).map fun z => fileW z (rw_ ms z)).flatten ++ (nms[i] :: nm (rw_ ms nms[i]).length :: (rw_ ms nms[i]).map fun b => nm b.toNat) := by
      rw [List.take_succ_eq_append_getElem hi, List.map_append, List.flatten_append, List.map_singleton, List.flatten_singleton]; rfl
    have hbd := flat_bd (fun z => fileW z (rw_ ms z)) 802 (nms.take i) fun z hz => (fileW_bd o (hsub z (List.mem_of_mem_take hz))).2
    have htk : (nms.take i).length ≤ 21 := by rw [List.length_take]; omega
    have hbd2 : 802 * (nms.take i).length ≤ 802 * 21 := Nat.mul_le_mul_left _ htk
    rw [ef]
    generalize nms[i] = z at *
    obtain ⟨r1, r2, r3⟩ := o.get (rw_mem zk)
    have eg := rw_mem zk
    have mm := fun f as ρ => F.m "many" f as ρ rfl
    have mb := fun f as ρ => F.m "birth" f as ρ rfl
    have mo := many_ok F z
    generalize hrw : rw_ ms z = row at *
    have rg := Fw.v_rng1 (g := g') (i := (row.length : Int)) (by omega)
    rw [Int.toNat_natCast] at rg
    have lc : ∀ t3 : Option D, lcLoop kpT (gVar 4) eYes (eMeth ["Files"] "birth" m_Files_birth (eVar 0) (aCons (eVar 2) (aCons (eVar 4) aNil))) [some (.obj lf), some (.obj G1.length), some (.str (tx z)), t3, none, none] finF (rangeD 0 row.length) [] g' = .ok (.lst (row.map .int)) g' := by
      intro t3
      rw [← row_all row]
      have e0 : rangeD 0 row.length = (List.range row.length).map fun k => .int (k : Int) := by
        unfold rangeD
        exact List.map_congr_left fun k _ => by rw [Int.zero_add]
      rw [e0]
      refine lc_of (fun v => .int (row.getD v 0)) trivial ?_ (by rw [List.length_range]; omega)
      intro v hv
      have hv' := List.mem_range.mp hv
      have bi := birth_in F eg v hv'
      simp! [mb, bi]
      simp [hv']
    have lc2 := strs_of (row := row) r2 (i := 5) (ρ := [some (.obj lf), some (.obj G1.length), some (.str (tx z)), some (li row), none, none]) (g := g') (fun x => rfl) (by omega)
    have li_len : fLen [li row] g' = .ok (.int (row.length : Int)) g' := Fw.v_lenli
    have sr := strN_nat (n := row.length) (by omega)
    have ad : ∀ g, opAdd (.lst [.str (tx z), .str (tx (nm row.length))]) (WD (row.map fun b => nm b.toNat)) g = .ok (WD (z :: nm row.length :: row.map fun b => nm b.toNat)) g := fun g => by
      rw [Fw.v_appL (by simp; omega)]; rfl
    have ty := tyL_of kc
    have ex := ext_of (e := WD (z :: nm row.length :: row.map fun b => nm b.toNat)) kc rfl (by
      rw [List.length_map, List.length_map, List.length_cons, List.length_cons, List.length_cons, List.length_map]
      omega)
    rw [← List.map_append] at ex
    generalize hws : z :: nm row.length :: row.map (fun b => nm b.toNat) = ws at *
    generalize row.map (fun b => nm b.toNat) = rs at *
    simp! [mm, mo, rg, lc, li_len, sr, lc2, ad, ty, ex]
    have us : Upd g' (g'.set G1.length (.lst (((nm ms.length :: ((nms.take i).map fun z => fileW z (rw_ ms z)).flatten) ++ ws).map fun p => .str (tx p)))) G1.length (G1.length + 1) := Upd.set (by omega)
    exact ⟨_, _, rfl, h.frame (u.old us hG1) (.inr (Nat.zero_le _)) (.inr (Nat.zero_le _)) (.inr (Nat.zero_le _)) Out.zero, set_at kc, us.at c (.inr (by omega)), u.old us hG1⟩
  · rintro ρ' g' ⟨t2, t3, rfl, F, kc, c, u⟩
    rw [List.length_map, List.take_length] at kc
    have fz := frz_of kc
    have us : Upd g' (g'.set G1.length .dead) G1.length (G1.length + 1) := Upd.set (by omega)
    obtain ⟨g2, eg⟩ := ((u.old us hG1).none G.length G.length).pre (Nat.le_refl _) ⟨[], by simp⟩
    refine ⟨g2, ?_⟩
    rw [← eg]
    generalize nm ms.length :: (nms.map fun z => fileW z (rw_ ms z)).flatten = ws at *
    simp! [fz]
end
end Ww

set_option maxRecDepth 7100000
set_option maxHeartbeats 4000000
namespace Ww
open PySem PySem.Spec PyProof.Rows Fw
section
variable {G : Gr} {lf lb lh lm lk : Nat} {ms mm : Mo} {hs hl : Ho}
theorem heldW_len {ks : Ko} (k : OkKw ks) {l : List Tx} (hl : ∀ z ∈ l, z ∈ keys ks) (h4 : l.length ≤ 21) : ((l.map fun z => z :: wordsM (kGet ks z)).flatten).length ≤ 6751600 := by
  have := flat_bd (fun z => z :: wordsM (kGet ks z)) 321500 l fun z hz => by
    have := wordsM_bd (k.get (hl z hz)).1
    rw [List.length_cons]; omega
  have h6 : 321500 * l.length ≤ 321500 * 21 := Nat.mul_le_mul_left _ h4
  omega
theorem text_ok (h : FlAt G lf lb lh ms hs) (o : Okw ms) (k : OkKw (ko hs)) (o1 : Out lf (lf + 1) hs) (o2 : Out lh (lh + 1) hs) : m_files_text [.obj lf] G = .ok (.str (tx (textM ms (ko hs)))) G := by
  have kl := k.len
  rw [ko_len] at kl
  have wo := words_ok h o
  have wbd := wordsM_bd o
  obtain ⟨G1, e1, c1, u1⟩ := held_told h (by omega)
  have ln := len_at c1
  rw [names_len, ko_len] at ln
  have st := strN_nat (n := hs.length) (by omega)
  have mh := fun f as ρ => h.m "held" f as ρ rfl
  have ad := Fw.v_addC (g := G1) (ds := (wordsM ms).map fun p => .str (tx p)) (es := [.str (tx (nm hs.length))]) (by rw [List.length_map, List.length_singleton]; omega)
  have em : (wordsM ms).map (fun p => D.str (tx p)) ++ [.str (tx (nm hs.length))] = (wordsM ms ++ [nm hs.length]).map fun p => .str (tx p) := by simp
  rw [em] at ad
  have u2 : Upd G1 (G1 ++ [Cl.lst ((wordsM ms ++ [nm hs.length]).map fun p => .str (tx p))]) 0 0 := Upd.app
  have F2 := h.frame (u1.trans u2) (.inr (Nat.zero_le _)) (.inr (Nat.zero_le _)) (.inr (Nat.zero_le _)) Out.zero
  have mh2 := fun f as ρ => F2.m "held" f as ρ rfl
  obtain ⟨G3, e3, c3, u3⟩ := held_told F2 (by omega)
  have w3 : Upd G G3 0 0 := (u1.trans u2).trans u3
  have k3 : G3[G1.length]? = some (Cl.lst ((wordsM ms ++ [nm hs.length]).map fun p => .str (tx p))) := u3.at (by simp) (.inr (Nat.zero_le _))
  have hG1 := u1.le
  rw [List.length_append, List.length_singleton] at c3
  have e3' : m_Files_held [.obj lf] (G1 ++ [Cl.lst ((wordsM ms ++ [nm hs.length]).map fun p => .str (tx p))]) = .ok (.obj (G1.length + 1)) G3 := by rw [e3, List.length_append, List.length_singleton]
  have c3' : G3[G1.length + 1]? = some (Cl.lst ((srtT (keys (ko hs))).map fun z => D.str (tx z))) := by rw [← srtA_T]; exact c3
  have ia := iA_of c3'
  have hsub : ∀ z ∈ srtT (keys (ko hs)), z ∈ keys (ko hs) := fun z hz => srtT_mem.mp hz
  have hnl : (srtT (keys (ko hs))).length ≤ 21 := by rw [srtT_len, List.length_map, ko_len]; exact kl
  have tb := textW_bd o k
  refine pure_retX2 rfl ?_ rfl
  unfold textM textW at *
  rw [ko_len] at *
  generalize srtT (keys (ko hs)) = nms at *
  generalize hw0 : wordsM ms ++ [nm hs.length] = w0 at *
  have w0l : w0.length ≤ 321401 := by rw [← hw0, List.length_append, List.length_singleton]; omega
  generalize hw1 : (wordsM ms).map (fun p => D.str (tx p)) = w1 at *
  have wo' : m_files_words [.obj lf] G = .ok (.lst w1) G := by rw [← hw1]; exact wo
  simp! [b_files_text, wo', mh, e1, ln, st, ad, mh2, e3', ia]
  refine loop_then (K := fun s => ∃ g2, fSeq _ s = .ret (.str (tx (joinL 32 (w0 ++ (nms.map fun z => z :: wordsM (kGet (ko hs) z)).flatten)))) (G ++ g2)) (fun i ρ g' => ∃ (t2 : Option D), ρ = [some (.obj lf), some (.obj G1.length), t2] ∧ g'[G1.length]? = some (Cl.lst ((w0 ++ ((nms.take i).map fun z => z :: wordsM (kGet (ko hs) z)).flatten).map fun p => .str (tx p))) ∧ g'[G1.length + 1]? = some (Cl.lst (nms.map fun z => D.str (tx z))) ∧ Upd G g' 0 0) ⟨none, rfl, by rw [List.take_zero]; simpa using k3, c3', w3⟩ (fun n ρ g' hh => by obtain ⟨_, _, _, c, _⟩ := hh; exact viewL_of c) ?_ ?_
  · rintro i ρ g' d hd ⟨t2, rfl, kc, c, u⟩
    rw [List.getElem?_map] at hd
    obtain ⟨z, hz', rfl⟩ := Option.map_eq_some_iff.mp hd
    obtain ⟨hi, rfl⟩ := List.getElem?_eq_some_iff.mp hz'
    have zk := hsub nms[i] (List.getElem_mem hi)
    have ef : ((nms.take (i + 1)).map fun z => z :: wordsM (kGet (ko hs) z)).flatten = ((nms.take i).map fun z => z :: wordsM (kGet (ko hs) z)).flatten ++ (nms[i] :: wordsM (kGet (ko hs) nms[i])) := by
      rw [List.take_succ_eq_append_getElem hi, List.map_append, List.flatten_append]; simp
    have hbd := heldW_len k (l := nms.take i) (fun z hz => hsub z (List.mem_of_mem_take hz)) (by rw [List.length_take]; omega)
    rw [ef]
    generalize nms[i] = z at *
    generalize ((nms.take i).map fun z => z :: wordsM (kGet (ko hs) z)).flatten = acc at *
    obtain ⟨m, gm, km⟩ := kGet_mem zk
    rw [km]
    obtain ⟨l, hg⟩ := ko_some gm
    have hmem := mGet_some hg
    have om : Okw m := k.m _ (mGet_some gm)
    have ty := tyL_of kc
    have ap := app_of (e := .str (tx z)) kc (by rw [List.length_map, List.length_append]; omega)
    have em2 : (w0 ++ acc).map (fun p => D.str (tx p)) ++ [.str (tx z)] = (w0 ++ acc ++ [z]).map fun p => .str (tx p) := by simp
    rw [em2] at ap
    have us : Upd g' (g'.set G1.length (.lst ((w0 ++ acc ++ [z]).map fun p => .str (tx p)))) G1.length (G1.length + 1) := Upd.set (by omega)
    have c' := us.at c (.inr (by omega))
    have kc' : (g'.set G1.length (.lst ((w0 ++ acc ++ [z]).map fun p => .str (tx p))))[G1.length]? = some (Cl.lst ((w0 ++ acc ++ [z]).map fun p => .str (tx p))) := set_at kc
    have u' := u.old us hG1
    generalize g'.set G1.length (.lst ((w0 ++ acc ++ [z]).map fun p => .str (tx p))) = ga at *
    have F := h.frame u' (.inr (Nat.zero_le _)) (.inr (Nat.zero_le _)) (.inr (Nat.zero_le _)) Out.zero
    have nf : l ≠ lf := by have := o1 _ hmem; simp only at this; omega
    have nh : l ≠ lh := by have := o2 _ hmem; simp only at this; omega
    obtain ⟨gb, e5, F5, u5, l5⟩ := of_held_ok F hg nf nh (zs := keys m) (B := 800) ⟨om.nd, fun z h => h, fun p hp => (om.row p hp).2, fun p hp q => by have := (om.row p hp).1; rw [q] at this; simp at this⟩ (by omega) (by have := om.len; rw [List.length_map]; omega)
    change FlAt gb ga.length (ga.length + 1) (ga.length + 2) m [] at F5
    have w5 := words_ok F5 om
    have wb5 := wordsM_bd om
    have kc5 := u5.at kc' (.inr (Nat.zero_le _))
    have ty1 := tyL_of kc'
    have ex := ext_of (e := WD (wordsM m)) kc5 rfl (by rw [List.length_map, List.length_map, List.length_append, List.length_append, List.length_singleton]; omega)
    rw [← List.map_append] at ex
    have mo := fun f as ρ => F.m "of_held" f as ρ rfl
    have us5 : Upd gb (gb.set G1.length (.lst ((w0 ++ acc ++ [z] ++ wordsM m).map fun p => .str (tx p)))) G1.length (G1.length + 1) := Upd.set (by omega)
    generalize hwm : wordsM m = wm at *
    simp! [ty, ap, ty1, mo, e5, w5, ex]
    refine ⟨_, rfl, ?_, us5.at (u5.at c' (.inr (Nat.zero_le _))) (.inr (by omega)), (u'.trans u5).old us5 hG1⟩
    rw [set_at kc5]
    simp
  · rintro ρ' g' ⟨t2, rfl, kc, c, u⟩
    rw [List.length_map, List.take_length] at kc
    have jn := join_cell kc (by omega)
    obtain ⟨g2, eg⟩ := (u.none G.length G.length).pre (Nat.le_refl _) ⟨[], by simp⟩
    refine ⟨g2, ?_⟩
    rw [← eg]
    generalize joinL 32 (w0 ++ (nms.map fun z => z :: wordsM (kGet (ko hs) z)).flatten) = jl at *
    simp! [jn]
theorem lwords_ok (hm : G[lm]? = some (Cl.dic (mK mm))) (o : Okw mm) : m__law_words [.obj lm] G = .ok (WD (wordsM mm)) G := by
  have ol := o.len
  have ln := lenD_of hm
  rw [mK_len] at ln
  have st := strN_nat (n := mm.length) (by omega)
  have sk : fSrtK false [.obj lm] G = .ok (.lst ((srtT (keys mm)).map fun z => D.str (tx z))) G := by rw [sorted_dict (f := li) hm (by omega), srtA_T]
  have hsub : ∀ z ∈ srtT (keys mm), z ∈ keys mm := fun z hz => srtT_mem.mp hz
  have hnl : (srtT (keys mm)).length ≤ 21 := by rw [srtT_len, List.length_map]; exact ol
  refine pure_ret0 rfl ?_ (low_WD _)
  unfold wordsM
  generalize srtT (keys mm) = nms at *
  simp! [b__law_words, ln, st, sk]
  refine loop_then (K := fun s => fSeq _ s = _) (fun i ρ g' => ∃ (t2 : Option D), ρ = [some (.obj lm), some (WD (nm mm.length :: ((nms.take i).map fun z => fileW z (rw_ mm z)).flatten)), t2, none] ∧ g' = G) ⟨none, rfl, rfl⟩ (fun _ _ _ _ => trivial) ?_ ?_
  · rintro i ρ g' d hd ⟨t2, rfl, rfl⟩
    rw [List.getElem?_map] at hd
    obtain ⟨z, hz', rfl⟩ := Option.map_eq_some_iff.mp hd
    obtain ⟨hi, rfl⟩ := List.getElem?_eq_some_iff.mp hz'
    have zk := hsub nms[i] (List.getElem_mem hi)
    have ef : ((nms.take (i + 1)).map fun z => fileW z (rw_ mm z)).flatten = ((nms.take i).map fun z => fileW z (rw_ mm z)).flatten ++ (nms[i] :: nm (rw_ mm nms[i]).length :: (rw_ mm nms[i]).map fun b => nm b.toNat) := by
      rw [List.take_succ_eq_append_getElem hi, List.map_append, List.flatten_append, List.map_singleton, List.flatten_singleton]; rfl
    have hbd := flat_bd (fun z => fileW z (rw_ mm z)) 802 (nms.take i) fun z hz => (fileW_bd o (hsub z (List.mem_of_mem_take hz))).2
    have htk : (nms.take i).length ≤ 21 := by rw [List.length_take]; omega
    have hbd2 : 802 * (nms.take i).length ≤ 802 * 21 := Nat.mul_le_mul_left _ htk
    rw [ef]
    generalize nms[i] = z at *
    obtain ⟨r1, r2, r3⟩ := o.get (rw_mem zk)
    have eg := rw_mem zk
    generalize hrw : rw_ mm z = row at *
    generalize hacc : nm mm.length :: ((nms.take i).map fun z => fileW z (rw_ mm z)).flatten = acc at *
    have lacc : acc.length ≤ 17000 := by rw [← hacc, List.length_cons]; omega
    have dg : opDGet (.obj lm) (.str (tx z)) g' = .ok (li row) g' := dget_of hm (keyS z) (by rw [dGet_mK, eg]; rfl)
    have li_len : fLen [li row] g' = .ok (.int (row.length : Int)) g' := Fw.v_lenli
    have sr := strN_nat (n := row.length) (by omega)
    have a1 : ∀ g, opAdd (WD acc) (.lst [.str (tx z), .str (tx (nm row.length))]) g = .ok (WD (acc ++ [z, nm row.length])) g := fun g => by
      rw [Fw.v_appL (by rw [List.length_map]; simp; omega)]
      show R.ok (D.lst _) g = R.ok (D.lst _) g
      simp
    have lc2 : ∀ ρ2, lcLoop kpT (gVar 3) eYes (eArgs fStr (aCons (eVar 3) aNil)) [some (.obj lm), ρ2, some (.str (tx z)), none] finF (row.map .int) [] g' = .ok (WD (row.map fun b => nm b.toNat)) g' := fun ρ2 => strs_of r2 (fun x => rfl) (by omega)
    have a2 : ∀ g, opAdd (WD (acc ++ [z, nm row.length])) (WD (row.map fun b => nm b.toNat)) g = .ok (WD (acc ++ z :: nm row.length :: row.map fun b => nm b.toNat)) g := fun g => by
      rw [Fw.v_appL (by rw [List.length_map, List.length_map, List.length_append, List.length_map]; simp; omega)]
      show R.ok (D.lst _) g = R.ok (D.lst _) g
      simp
    generalize hrs : row.map (fun b => nm b.toNat) = rs at *
    have ea : nm mm.length :: (((nms.take i).map fun z => fileW z (rw_ mm z)).flatten ++ z :: nm row.length :: rs) = acc ++ z :: nm row.length :: rs := by rw [← hacc]; rfl
    rw [ea]
    generalize hb2 : acc ++ [z, nm row.length] = acc2 at *
    generalize hb3 : acc ++ z :: nm row.length :: rs = acc3 at *
    simp! [dg, li_len, sr, a1, lc2, a2]
    exact ⟨_, rfl⟩
  · rintro ρ' g' ⟨t2, rfl, rfl⟩
    rw [List.length_map, List.take_length]
    generalize nm mm.length :: ((nms.map fun z => fileW z (rw_ mm z)).flatten) = ws at *
    simp! []
theorem ltext_ok (hm : G[lm]? = some (Cl.dic (mK mm))) (hk : KtAt G lk hl) (o : Okw mm) (k : OkKw (ko hl)) : m__law_text [.obj lm, .obj lk] G = .ok (.str (tx (textM mm (ko hl)))) G := by
  have kl := k.len
  rw [ko_len] at kl
  have wo := lwords_ok hm o
  have wbd := wordsM_bd o
  have ln := lenD_of hk.d
  rw [gK_len] at ln
  have st := strN_nat (n := hl.length) (by omega)
  have ad : ∀ g, opAdd (WD (wordsM mm)) (.lst [.str (tx (nm hl.length))]) g = .ok (WD (wordsM mm ++ [nm hl.length])) g := fun g => by
    rw [Fw.v_appL (by rw [List.length_map]; simp; omega)]
    show R.ok (D.lst _) g = R.ok (D.lst _) g
    simp
  have sk : fSrtK false [.obj lk] G = .ok (.lst ((srtT (keys (ko hl))).map fun z => D.str (tx z))) G := by
    rw [sorted_dict hk.d (by omega), srtA_T, ko_keys']
  have hsub : ∀ z ∈ srtT (keys (ko hl)), z ∈ keys (ko hl) := fun z hz => srtT_mem.mp hz
  have hnl : (srtT (keys (ko hl))).length ≤ 21 := by rw [srtT_len, List.length_map, ko_len]; exact kl
  have tb := textW_bd o k
  refine pure_ret0 rfl ?_ rfl
  unfold textM textW at *
  rw [ko_len] at *
  generalize srtT (keys (ko hl)) = nms at *
  generalize hw0 : wordsM mm ++ [nm hl.length] = w0 at *
  have w0l : w0.length ≤ 321401 := by rw [← hw0, List.length_append, List.length_singleton]; omega
  generalize hwm : wordsM mm = wm at *
  simp! [b__law_text, wo, ln, st, ad, sk]
  refine loop_then (K := fun s => fSeq _ s = _) (fun i ρ g' => ∃ (t3 : Option D), ρ = [some (.obj lm), some (.obj lk), some (WD (w0 ++ ((nms.take i).map fun z => z :: wordsM (kGet (ko hl) z)).flatten)), t3] ∧ g' = G) ⟨none, by rw [List.take_zero]; simp, rfl⟩ (fun _ _ _ _ => trivial) ?_ ?_
  · rintro i ρ g' d hd ⟨t3, rfl, rfl⟩
    rw [List.getElem?_map] at hd
    obtain ⟨z, hz', rfl⟩ := Option.map_eq_some_iff.mp hd
    obtain ⟨hi, rfl⟩ := List.getElem?_eq_some_iff.mp hz'
    have zk := hsub nms[i] (List.getElem_mem hi)
    have ef : ((nms.take (i + 1)).map fun z => z :: wordsM (kGet (ko hl) z)).flatten = ((nms.take i).map fun z => z :: wordsM (kGet (ko hl) z)).flatten ++ (nms[i] :: wordsM (kGet (ko hl) nms[i])) := by
      rw [List.take_succ_eq_append_getElem hi, List.map_append, List.flatten_append]; simp
    have hbd := heldW_len k (l := nms.take i) (fun z hz => hsub z (List.mem_of_mem_take hz)) (by rw [List.length_take]; omega)
    rw [ef]
    generalize nms[i] = z at *
    generalize ((nms.take i).map fun z => z :: wordsM (kGet (ko hl) z)).flatten = acc at *
    obtain ⟨m, gm, km⟩ := kGet_mem zk
    rw [km]
    obtain ⟨l, hg⟩ := ko_some gm
    have om : Okw m := k.m _ (mGet_some gm)
    have wb5 := wordsM_bd om
    have dg : opDGet (.obj lk) (.str (tx z)) g' = .ok (.obj l) g' := dget_of hk.d (keyS z) (by rw [dGet_gK, hg]; rfl)
    have w5 := lwords_ok (hk.c _ (mGet_some hg)) om
    have w5' : m__law_words [.obj l] g' = .ok (WD (wordsM m)) g' := w5
    have a1 : ∀ g, opAdd (WD (w0 ++ acc)) (.lst [.str (tx z)]) g = .ok (WD (w0 ++ acc ++ [z])) g := fun g => by
      rw [Fw.v_appL (by rw [List.length_map, List.length_append]; simp; omega)]
      show R.ok (D.lst _) g = R.ok (D.lst _) g
      simp
    have a2 : ∀ g, opAdd (WD (w0 ++ acc ++ [z])) (WD (wordsM m)) g = .ok (WD (w0 ++ (acc ++ z :: wordsM m))) g := fun g => by
      rw [Fw.v_appL (by rw [List.length_map, List.length_map, List.length_append, List.length_append]; simp; omega)]
      show R.ok (D.lst _) g = R.ok (D.lst _) g
      simp
    generalize hx1 : w0 ++ (acc ++ z :: wordsM m) = x1 at *
    generalize hx2 : w0 ++ acc ++ [z] = x2 at *
    generalize hx3 : w0 ++ acc = x3 at *
    generalize hx4 : wordsM m = x4 at *
    simp! [a1, dg, w5', a2]
    exact ⟨_, rfl⟩
  · rintro ρ' g' ⟨t3, rfl, rfl⟩
    rw [List.length_map, List.take_length]
    have jn := Fw.v_joinC (g := g') (c := 32) (ls := w0 ++ (nms.map fun z => z :: wordsM (kGet (ko hl) z)).flatten) (by have := tb; unfold lenW at this; omega)
    generalize w0 ++ (nms.map fun z => z :: wordsM (kGet (ko hl) z)).flatten = ws at *
    simp! [jn]
end
end Ww

set_option maxRecDepth 100000
set_option maxHeartbeats 4000000
namespace Ww
open PySem PySem.Spec PyProof.Rows Fw
theorem digs_back : ∀ (n : Nat) (w : Tx), w.length = n → (∀ c ∈ w, c ∈ figL) → w ≠ [] → (w.getD 0 0 ≠ 48 ∨ w = [48]) → ∃ m, w = nm m ∧ m < 10 ^ w.length
  | 0, w, hl, _, hn, _ => absurd (List.length_eq_zero_iff.mp hl) hn
  | n + 1, w, hl, hf, hn, h0 => by
    have ew := List.dropLast_concat_getLast hn
    have hc := hf _ (List.getLast_mem hn)
    have ld : w.dropLast.length = n := by rw [List.length_dropLast, hl]; rfl
    have hu : ∀ c ∈ w.dropLast, c ∈ figL := fun c h => hf c (List.dropLast_subset w h)
    generalize w.getLast hn = c at *
    generalize w.dropLast = u at *
    have hc' : 48 ≤ c ∧ c < 58 := by
      have := hc
      unfold figL at this
      rw [List.mem_range'_1] at this
      omega
    by_cases hu0 : u = []
    · subst hu0
      refine ⟨c - 48, ?_, ?_⟩
      · rw [nm_low (by omega), ← ew]
        simp only [List.nil_append]
        rw [show 48 + (c - 48) = c by omega]
      · rw [hl, ← ld]
        simp only [List.length_nil]
        omega
    · have hlu : 0 < u.length := List.length_pos_iff.mpr hu0
      have hhd : u.getD 0 0 ≠ 48 := by
        rcases h0 with h0 | h0
        · intro q
          apply h0
          rw [← ew, List.getD_eq_getElem?_getD, List.getElem?_append_left hlu, ← List.getD_eq_getElem?_getD]
          exact q
        · rw [h0] at hl
          simp only [List.length_cons, List.length_nil] at hl
          omega
      obtain ⟨m, e1, e2⟩ := digs_back n u ld hu hu0 (.inl hhd)
      have hm0 : m ≠ 0 := by
        rintro rfl
        rw [e1] at hhd
        exact hhd rfl
      refine ⟨10 * m + (c - 48), ?_, ?_⟩
      · rw [nm_step (by omega), show (10 * m + (c - 48)) / 10 = m by omega, show 48 + (10 * m + (c - 48)) % 10 = c by omega, ← e1, ew]
      · rw [hl, ← ld, Nat.pow_succ]
        omega
theorem num_inv {w : Tx} (h : numB w = true) : ∃ m, m < 1000000000000000000 ∧ w = nm m := by
  unfold numB madeOf at h
  simp only [Bool.and_eq_true, Bool.or_eq_true, decide_eq_true_eq, List.all_eq_true] at h
  obtain ⟨⟨⟨h1, h2⟩, h3⟩, h4⟩ := h
  obtain ⟨m, e1, e2⟩ := digs_back _ w rfl h3 (fun q => by rw [q] at h1; simp at h1) h4
  refine ⟨m, Nat.lt_of_lt_of_le e2 ?_, e1⟩
  calc 10 ^ w.length ≤ 10 ^ 18 := Nat.pow_le_pow_right (by decide) h2
    _ = 1000000000000000000 := by decide
def numV (w : Tx) : Nat := NumText.digitsVal w
theorem numV_nm (m : Nat) : numV (nm m) = m := nm_val m
theorem numV_back {w : Tx} (h : numB w = true) : w = nm (numV w) ∧ numV w < 1000000000000000000 := by
  obtain ⟨m, h1, rfl⟩ := num_inv h
  rw [numV_nm]
  exact ⟨rfl, h1⟩
abbrev nameB (w : Tx) : Bool := madeOf w smallL 6
theorem nameB_iff {w : Tx} : nameB w = true ↔ Nme w := by
  unfold nameB madeOf
  simp only [Bool.and_eq_true, decide_eq_true_eq, List.all_eq_true]
  exact ⟨fun h => ⟨h.1.1, h.1.2, h.2⟩, fun h => ⟨⟨h.1, h.2.1⟩, h.2.2⟩⟩
def pNum : List Tx → Option (Int × List Tx)
  | [] => none
  | w :: r => if numB w = true then some ((numV w : Int), r) else none
def pName : List Tx → Option (Tx × List Tx)
  | [] => none
  | w :: r => if nameB w = true then some (w, r) else none
abbrev Fil := Tx × List Int
def pFile (b : List Tx) : Option (Fil × List Tx) := (pName b).bind fun p => (pNum p.2).bind fun q => (runN pNum q.1.toNat q.2).map fun r => ((p.1, r.1), r.2)
def pTold (b : List Tx) : Option (List Fil × List Tx) := (pNum b).bind fun q => runN pFile q.1.toNat q.2
def pHeld (b : List Tx) : Option ((Tx × List Fil) × List Tx) := (pName b).bind fun p => (pTold p.2).map fun r => ((p.1, r.1), r.2)
def pAll (b : List Tx) : Option ((List Fil × List (Tx × List Fil)) × List Tx) := (pTold b).bind fun o => (pNum o.2).bind fun q => (runN pHeld q.1.toNat q.2).map fun k => ((o.1, k.1), k.2)
theorem pNum_f {w : Tx} {r : List Tx} (h : numB w = false) : pNum (w :: r) = none := by
  show (if numB w = true then some ((numV w : Int), r) else none) = none
  rw [h]; rfl
theorem pNum_t {w : Tx} {r : List Tx} (h : numB w = true) : pNum (w :: r) = some ((numV w : Int), r) := by
  show (if numB w = true then some ((numV w : Int), r) else none) = _
  rw [if_pos h]
theorem pName_f {w : Tx} {r : List Tx} (h : nameB w = false) : pName (w :: r) = none := by
  show (if nameB w = true then some (w, r) else none) = none
  rw [h]; rfl
theorem pName_t {w : Tx} {r : List Tx} (h : nameB w = true) : pName (w :: r) = some (w, r) := by
  show (if nameB w = true then some (w, r) else none) = _
  rw [if_pos h]
theorem runN_le {α : Type} {step : List Tx → Option (α × List Tx)} (h : ∀ b p, step b = some p → p.2.length < b.length) : ∀ (n : Nat) (b : List Tx) (p : List α × List Tx), runN step n b = some p → p.1.length = n ∧ p.2.length + n ≤ b.length
  | 0, b, p, e => by cases e; exact ⟨rfl, Nat.le_refl _⟩
  | n + 1, b, p, e => by
    obtain ⟨q, h1, h2⟩ := Option.bind_eq_some_iff.mp (show (step b).bind _ = some p from e)
    obtain ⟨r, h3, rfl⟩ := Option.map_eq_some_iff.mp h2
    obtain ⟨k1, k2⟩ := runN_le h n q.2 r h3
    have := h b q h1
    exact ⟨by rw [List.length_cons, k1], by show r.2.length + (n + 1) ≤ b.length; omega⟩
theorem pNum_lt : ∀ (b : List Tx) (p : Int × List Tx), pNum b = some p → p.2.length < b.length
  | [], p, h => by cases h
  | w :: r, p, h => by
    have e : pNum (w :: r) = if numB w = true then some ((numV w : Int), r) else none := rfl
    rw [e] at h
    by_cases hb : numB w = true
    · rw [if_pos hb] at h
      injection h with h
      subst h
      exact Nat.lt_succ_self _
    · rw [if_neg hb] at h
      cases h
theorem pName_lt : ∀ (b : List Tx) (p : Tx × List Tx), pName b = some p → p.2.length < b.length
  | [], p, h => by cases h
  | w :: r, p, h => by
    have e : pName (w :: r) = if nameB w = true then some (w, r) else none := rfl
    rw [e] at h
    by_cases hb : nameB w = true
    · rw [if_pos hb] at h
      injection h with h
      subst h
      exact Nat.lt_succ_self _
    · rw [if_neg hb] at h
      cases h
theorem pFile_len (b : List Tx) (p : Fil × List Tx) (h : pFile b = some p) : p.2.length + 2 + p.1.2.length ≤ b.length := by
  obtain ⟨z, h1, h⟩ := Option.bind_eq_some_iff.mp h
  obtain ⟨q, h2, h⟩ := Option.bind_eq_some_iff.mp h
  obtain ⟨r, h3, rfl⟩ := Option.map_eq_some_iff.mp h
  have a := pName_lt _ _ h1
  have c := pNum_lt _ _ h2
  obtain ⟨d, e⟩ := runN_le pNum_lt _ _ _ h3
  show r.2.length + 2 + r.1.length ≤ b.length
  omega
theorem pFile_lt (b : List Tx) (p : Fil × List Tx) (h : pFile b = some p) : p.2.length < b.length := by have := pFile_len b p h; omega
theorem pTold_lt (b : List Tx) (p : List Fil × List Tx) (h : pTold b = some p) : p.2.length < b.length ∧ p.2.length + p.1.length ≤ b.length := by
  obtain ⟨q, h2, h⟩ := Option.bind_eq_some_iff.mp h
  have c := pNum_lt _ _ h2
  obtain ⟨d, e⟩ := runN_le pFile_lt _ _ _ h
  omega
theorem pHeld_lt (b : List Tx) (p : (Tx × List Fil) × List Tx) (h : pHeld b = some p) : p.2.length < b.length := by
  obtain ⟨z, h1, h⟩ := Option.bind_eq_some_iff.mp h
  obtain ⟨r, h3, rfl⟩ := Option.map_eq_some_iff.mp h
  have a := pName_lt _ _ h1
  have c := (pTold_lt _ _ h3).1
  show r.2.length < b.length
  omega
end Ww

set_option maxRecDepth 100000
set_option maxHeartbeats 4000000
namespace Ww
open PySem PySem.Spec PyProof.Rows Fw
def rF (ws : List Tx) (k : Nat) : List (Str × D) := [("words", WD ws), ("at", .int (k : Int))]
theorem inRd : ("FilesReader" : Str) ∈ (["FilesReader"] : List Str) := by decide +kernel
def RdAt (G : Gr) (lr : Nat) (ws rest : List Tx) : Prop := ∃ k, G[lr]? = some (.ins "FilesReader" (rF ws k)) ∧ (k ≤ ws.length ∧ ∀ w ∈ ws, w.length ≤ 1000000) ∧ ws.drop k = rest
theorem RdAt.frame {G G' : Gr} {lr a b : Nat} {ws rest : List Tx} (h : RdAt G lr ws rest) (u : Upd G G' a b) (hn : lr < a ∨ b ≤ lr) : RdAt G' lr ws rest := by
  obtain ⟨k, h1, h2⟩ := h
  exact ⟨k, u.at h1 hn, h2⟩
theorem RdAt.le {G : Gr} {lr : Nat} {ws rest : List Tx} (h : RdAt G lr ws rest) : rest.length ≤ ws.length := by
  obtain ⟨k, _, _, rfl⟩ := h
  rw [List.length_drop]; omega
theorem RdAt.w {G : Gr} {lr : Nat} {ws rest : List Tx} {w : Tx} (h : RdAt G lr ws (w :: rest)) : w.length ≤ 1000000 := by
  obtain ⟨k, _, ⟨_, h1⟩, h2⟩ := h
  exact h1 w (List.mem_of_mem_drop (by rw [h2]; exact List.mem_cons_self))
def RI (G : Gr) (lr : Nat) (ws : List Tx) (r : List Tx) (g : Gr) : Prop := RdAt g lr ws r ∧ Upd G g lr (lr + 1)
def RJ (G : Gr) (lr : Nat) (g : Gr) : Prop := Upd G g lr (lr + 1)
section
variable {G : Gr} {lr : Nat} {ws rest : List Tx} {w : Tx}
theorem RdAt.m (h : RdAt G lr ws rest) (mn : Str) (f : Fn) (as : Exps) (ρ : En) (hm : ∀ k, (rF ws k).lookup mn = none) : methD ["FilesReader"] mn f as ρ (.obj lr) G = fArgD f (.obj lr) (as ρ G) := by
  obtain ⟨k, h1, _⟩ := h
  exact meth_of h1 inRd (hm k)
theorem next_ok (h : RdAt G lr ws (w :: rest)) : ∃ G', m_FilesReader_next_word [.obj lr] G = .ok (.str (tx w)) G' ∧ RdAt G' lr ws rest ∧ Upd G G' lr (lr + 1) := by
  obtain ⟨k, h1, ⟨_, hwl⟩, h2⟩ := h
  have hk : k < ws.length := by
    have := congrArg List.length h2
    rw [List.length_drop, List.length_cons] at this
    omega
  have hd := List.drop_eq_getElem_cons hk
  rw [h2] at hd
  obtain ⟨rfl, hr⟩ := List.cons.inj hd
  have fw : fldD ["FilesReader"] "words" (.obj lr) G = .ok (WD ws) G := fld_of h1 inRd rfl
  have fa : fldD ["FilesReader"] "at" (.obj lr) G = .ok (.int (k : Int)) G := fld_of h1 inRd rfl
  have hl : fLen [WD ws] G = .ok (.int (ws.length : Int)) G := by
    show R.ok (.int ((ws.map fun p => D.str (tx p)).length : Int)) G = _
    rw [List.length_map]
  have c1 : decide ((k : Int) = (ws.length : Int)) = false := decide_eq_false (by omega)
  have ad : ∀ ρ, fA2 ["FilesReader"] "at" dAdd (.obj lr) ρ G (.ok (.int 1) G) = .nx ρ (G.set lr (.ins "FilesReader" (rF ws (k + 1)))) := fun ρ => add_of (a := .int (k : Int)) (z := .int ((k : Int) + 1)) h1 inRd (by show 2 < 1000; decide) rfl rfl
  have h3 : (G.set lr (.ins "FilesReader" (rF ws (k + 1))))[lr]? = some (.ins "FilesReader" (rF ws (k + 1))) := set_at h1
  have fw2 : fldD ["FilesReader"] "words" (.obj lr) (G.set lr (.ins "FilesReader" (rF ws (k + 1)))) = .ok (WD ws) (G.set lr (.ins "FilesReader" (rF ws (k + 1)))) := fld_of h3 inRd rfl
  have fa2 : fldD ["FilesReader"] "at" (.obj lr) (G.set lr (.ins "FilesReader" (rF ws (k + 1)))) = .ok (.int ((k + 1 : Nat) : Int)) (G.set lr (.ins "FilesReader" (rF ws (k + 1)))) := fld_of h3 inRd rfl
  have ix : ∀ g, opIx (WD ws) (.int (((k + 1 : Nat) : Int) - 1)) g = .ok (.str (tx ws[k])) g := fun g => by
    rw [show (((k + 1 : Nat) : Int) - 1) = (k : Int) by omega]
    exact o_ixL (by rw [List.getElem?_map, List.getElem?_eq_getElem hk]; rfl)
  refine ⟨_, fn_ret rfl ?_, ⟨k + 1, h3, ⟨by omega, hwl⟩, hr.symm⟩, Upd.set (by omega)⟩
  generalize WD ws = wd at *
  generalize ((k + 1 : Nat) : Int) = k1 at *
  simp! [b_FilesReader_next_word, fw, fa, hl, c1, ad, fw2, fa2, ix]
theorem next_none (h : RdAt G lr ws []) : m_FilesReader_next_word [.obj lr] G = .err "NoFiles" G := by
  obtain ⟨k, h1, ⟨hk, _⟩, h2⟩ := h
  have hk : k = ws.length := by
    have := congrArg List.length h2
    rw [List.length_drop, List.length_nil] at this
    omega
  have fw : fldD ["FilesReader"] "words" (.obj lr) G = .ok (WD ws) G := fld_of h1 inRd rfl
  have fa : fldD ["FilesReader"] "at" (.obj lr) G = .ok (.int (k : Int)) G := fld_of h1 inRd rfl
  have hl : fLen [WD ws] G = .ok (.int (ws.length : Int)) G := by
    show R.ok (.int ((ws.map fun p => D.str (tx p)).length : Int)) G = _
    rw [List.length_map]
  have c1 : decide ((k : Int) = (ws.length : Int)) = true := decide_eq_true (by omega)
  generalize WD ws = wd at *
  refine fn_err rfl ⟨?_, ?_⟩
  rotate_left
  simp! [b_FilesReader_next_word, fw, fa, hl, c1]
  rfl
theorem num_run (h : RdAt G lr ws rest) : stepOk D.int (RI G lr ws) (RJ G lr) "NoFiles" (m_FilesReader_number [.obj lr] G) (pNum rest) := by
  have mn := fun f as ρ => h.m "next_word" f as ρ (fun _ => rfl)
  cases rest with
  | nil =>
    have e1 := next_none h
    refine ⟨G, fn_err rfl ⟨?_, ?_⟩, Upd.refl ..⟩
    rotate_left
    simp! [b_FilesReader_number, mn, e1]
    rfl
  | cons w r =>
    obtain ⟨G', e1, r1, u1⟩ := next_ok h
    have isn := fun g => is_number w h.w g
    cases nb : numB w with
    | false =>
      rw [pNum_f nb]
      refine ⟨G', fn_err rfl ⟨?_, ?_⟩, u1⟩
      rotate_left
      simp! [b_FilesReader_number, mn, e1, isn, nb]
      rfl
    | true =>
      rw [pNum_t nb]
      obtain ⟨ew, hv⟩ := numV_back nb
      have iv := fun g => Fw.v_intT (g := g) hv
      rw [← ew] at iv
      refine ⟨G', fn_ret rfl ?_, r1, u1⟩
      simp! [b_FilesReader_number, mn, e1, isn, nb, iv]
theorem nam_run (h : RdAt G lr ws rest) : stepOk (fun z => .str (tx z)) (RI G lr ws) (RJ G lr) "NoFiles" (m_FilesReader_name [.obj lr] G) (pName rest) := by
  have mn := fun f as ρ => h.m "next_word" f as ρ (fun _ => rfl)
  cases rest with
  | nil =>
    have e1 := next_none h
    refine ⟨G, fn_err rfl ⟨?_, ?_⟩, Upd.refl ..⟩
    rotate_left
    simp! [b_FilesReader_name, mn, e1]
    rfl
  | cons w r =>
    obtain ⟨G', e1, r1, u1⟩ := next_ok h
    have isn := fun g => is_name w h.w g
    cases nb : nameB w with
    | false =>
      rw [pName_f nb]
      have nb : madeOf w smallL 6 = false := nb
      refine ⟨G', fn_err rfl ⟨?_, ?_⟩, u1⟩
      rotate_left
      simp! [b_FilesReader_name, mn, e1, isn, nb]
      rfl
    | true =>
      rw [pName_t nb]
      have nb : madeOf w smallL 6 = true := nb
      refine ⟨G', fn_ret rfl ?_, r1, u1⟩
      simp! [b_FilesReader_name, mn, e1, isn, nb]
theorem pNum_bd {b : List Tx} {p : Int × List Tx} (h : pNum b = some p) : 0 ≤ p.1 ∧ p.1 < 1000000000000000000 := by
  cases b with
  | nil => cases h
  | cons w r =>
    have e : pNum (w :: r) = if numB w = true then some ((numV w : Int), r) else none := rfl
    rw [e] at h
    by_cases hb : numB w = true
    · rw [if_pos hb] at h
      injection h with h
      subst h
      have := (numV_back hb).2
      exact ⟨by show (0 : Int) ≤ (numV w : Int); omega, by show (numV w : Int) < 1000000000000000000; omega⟩
    · rw [if_neg hb] at h
      cases h
theorem rng_big {i : Int} (h : 0 ≤ i ∧ i < 1000000000000000000) (g : Gr) : iR1 [.int i] g = some (rangeD 0 i.toNat, kpT) := by
  have e : rngOk i = true := by
    unfold rngOk
    have h1 : (-4611686018427387904 : Int) ≤ i := Int.le_trans (by decide) h.1
    have h2 : i < 4611686018427387904 := Int.lt_trans h.2 (by decide)
    rw [decide_eq_true h1, decide_eq_true h2]
    rfl
  unfold iR1
  simp only [e, if_true]
theorem step_base {α : Type} {val : α → D} {g : Gr} {r : R} {o : Option (α × List Tx)} (h : stepOk val (RI g lr ws) (RJ g lr) "NoFiles" r o) (u : Upd G g lr (lr + 1)) : stepOk val (RI G lr ws) (RJ G lr) "NoFiles" r o := by
  cases o with
  | none => obtain ⟨g', h1, h2⟩ := h; exact ⟨g', h1, u.trans h2⟩
  | some p => obtain ⟨g', h1, h2, h3⟩ := h; exact ⟨g', h1, h2, u.trans h3⟩
theorem row_loop (h : RdAt G lr ws rest) (hw : ws.length ≤ 100000) (ρ1 : Option D) (n : Nat) :
    loopOk D.int (RI G lr ws) (RJ G lr) "NoFiles" [] (lcLoopX kpT (gVar 2) eYes (eMeth ["FilesReader"] "number" m_FilesReader_number (eVar 0) aNil) [some (.obj lr), ρ1, none] finF (rangeD 0 n) [] G) (runN pNum n rest) := by
  have := lcX_run (step := pNum) (val := D.int) (I := RI G lr ws) (J := RJ G lr) (M := List.length) (c := "NoFiles") (E := (eMeth ["FilesReader"] "number" m_FilesReader_number (eVar 0) aNil)) (ρ := [some (.obj lr), ρ1, none]) (i := 2) (fun b g d hI => by
    have mn := fun f as ρ => hI.1.m "number" f as ρ (fun _ => rfl)
    have a := step_base (num_run hI.1) hI.2
    have e : (eMeth ["FilesReader"] "number" m_FilesReader_number (eVar 0) aNil) (([some (.obj lr), ρ1, none] : En).set 2 (some d)) g = m_FilesReader_number [.obj lr] g := by simp! [mn]
    rw [e]
    exact a) pNum_lt (rangeD 0 n) [] rest G ⟨h, Upd.refl ..⟩ (by have := h.le; show 0 + rest.length ≤ _; omega)
  rw [rangeD_len] at this
  exact this
theorem row_run (h : RdAt G lr ws rest) (hw : ws.length ≤ 100000) (ρ1 ρ2 : Option D) :
    stepOk li (RI G lr ws) (RJ G lr) "NoFiles" ((eLcX finF (srcA (aCons (eMeth ["FilesReader"] "number" m_FilesReader_number (eVar 0) aNil) aNil) iR1) [2] (gVar 2) eYes (eMeth ["FilesReader"] "number" m_FilesReader_number (eVar 0) aNil)) [some (.obj lr), ρ1, ρ2] G) ((pNum rest).bind fun q => runN pNum q.1.toNat q.2) := by
  have mn := fun f as ρ => h.m "number" f as ρ (fun _ => rfl)
  have a := num_run h
  cases hp : pNum rest with
  | none =>
    rw [hp] at a
    obtain ⟨g1, e1, u1⟩ := a
    refine ⟨g1, ?_, u1⟩
    simp! [mn, e1, Fw.v_lcX, Fw.w_lcXe]
  | some q =>
    rw [hp] at a
    obtain ⟨g1, e1, r1, u1⟩ := a
    have rg := rng_big (pNum_bd hp) g1
    have rr := row_loop r1 hw ρ1 q.1.toNat
    rw [Option.bind_some]
    obtain ⟨i, r⟩ := q
    simp only at *
    cases hr : runN pNum i.toNat r with
    | none =>
      rw [hr] at rr
      obtain ⟨g2, e2, u2⟩ := rr
      refine ⟨g2, ?_, u1.trans u2⟩
      simp! [mn, e1, rg, Fw.v_lcX, Fw.w_lcX, e2]
    | some p =>
      rw [hr] at rr
      obtain ⟨g2, e2, r2, u2⟩ := rr
      rw [List.nil_append] at e2
      refine ⟨g2, ?_, r2, u1.trans u2⟩
      show _ = R.ok (.lst (p.1.map .int)) g2
      generalize D.lst (p.1.map .int) = dd at *
      simp! [mn, e1, rg, Fw.v_lcX, Fw.w_lcX, e2]
abbrev filD (p : Fil) : D := .tup [.str (tx p.1), li p.2]
theorem fil_run (h : RdAt G lr ws rest) (hw : ws.length ≤ 100000) (ρ1 ρ2 : Option D) :
    stepOk filD (RI G lr ws) (RJ G lr) "NoFiles" ((eArgs fTup (aCons (eMeth ["FilesReader"] "name" m_FilesReader_name (eVar 0) aNil) (aCons (eLcX finF (srcA (aCons (eMeth ["FilesReader"] "number" m_FilesReader_number (eVar 0) aNil) aNil) iR1) [2] (gVar 2) eYes (eMeth ["FilesReader"] "number" m_FilesReader_number (eVar 0) aNil)) aNil))) [some (.obj lr), ρ1, ρ2] G) (pFile rest) := by
  have mn := fun f as ρ => h.m "name" f as ρ (fun _ => rfl)
  have a := nam_run h
  unfold pFile
  cases hp : pName rest with
  | none =>
    rw [hp] at a
    obtain ⟨g1, e1, u1⟩ := a
    refine ⟨g1, ?_, u1⟩
    simp! [mn, e1]
  | some q =>
    rw [hp] at a
    obtain ⟨g1, e1, r1, u1⟩ := a
    have rr := row_run r1 hw ρ1 ρ2
    rw [Option.bind_some]
    obtain ⟨z, r⟩ := q
    simp only at *
    have eb : ((pNum r).bind fun q => (runN pNum q.1.toNat q.2).map fun r => ((z, r.1), r.2)) = ((pNum r).bind fun q => runN pNum q.1.toNat q.2).map fun r => ((z, r.1), r.2) := by cases pNum r <;> rfl
    rw [eb]
    cases hr : (pNum r).bind fun q => runN pNum q.1.toNat q.2 with
    | none =>
      rw [hr] at rr
      obtain ⟨g2, e2, u2⟩ := rr
      refine ⟨g2, ?_, u1.trans u2⟩
      simp! [mn, e1, e2]
    | some p =>
      rw [hr] at rr
      obtain ⟨g2, e2, r2, u2⟩ := rr
      refine ⟨g2, ?_, r2, u1.trans u2⟩
      show _ = R.ok (.tup [.str (tx z), li p.1]) g2
      generalize li p.1 = dd at *
      simp! [mn, e1, e2]
theorem fil_loop (h : RdAt G lr ws rest) (hw : ws.length ≤ 100000) (n : Nat) :
    loopOk filD (RI G lr ws) (RJ G lr) "NoFiles" [] (lcLoopX kpT (gVar 1) eYes (eArgs fTup (aCons (eMeth ["FilesReader"] "name" m_FilesReader_name (eVar 0) aNil) (aCons (eLcX finF (srcA (aCons (eMeth ["FilesReader"] "number" m_FilesReader_number (eVar 0) aNil) aNil) iR1) [2] (gVar 2) eYes (eMeth ["FilesReader"] "number" m_FilesReader_number (eVar 0) aNil)) aNil))) [some (.obj lr), none, none] finF (rangeD 0 n) [] G) (runN pFile n rest) := by
  have := lcX_run (step := pFile) (val := filD) (I := RI G lr ws) (J := RJ G lr) (M := List.length) (c := "NoFiles") (E := (eArgs fTup (aCons (eMeth ["FilesReader"] "name" m_FilesReader_name (eVar 0) aNil) (aCons (eLcX finF (srcA (aCons (eMeth ["FilesReader"] "number" m_FilesReader_number (eVar 0) aNil) aNil) iR1) [2] (gVar 2) eYes (eMeth ["FilesReader"] "number" m_FilesReader_number (eVar 0) aNil)) aNil)))) (ρ := [some (.obj lr), none, none]) (i := 1) (fun b g d hI => step_base (fil_run hI.1 hw (some d) none) hI.2) pFile_lt (rangeD 0 n) [] rest G ⟨h, Upd.refl ..⟩ (by have := h.le; show 0 + rest.length ≤ _; omega)
  rw [rangeD_len] at this
  exact this
abbrev toldV (l : List Fil) : D := .lst (l.map filD)
theorem told_run (h : RdAt G lr ws rest) (hw : ws.length ≤ 100000) : stepOk toldV (RI G lr ws) (RJ G lr) "NoFiles" (m_FilesReader_files_told [.obj lr] G) (pTold rest) := by
  have mn := fun f as ρ => h.m "number" f as ρ (fun _ => rfl)
  have a := num_run h
  unfold pTold
  cases hp : pNum rest with
  | none =>
    rw [hp] at a
    obtain ⟨g1, e1, u1⟩ := a
    refine ⟨g1, fn_err rfl ⟨?_, ?_⟩, u1⟩
    rotate_left
    simp! [b_FilesReader_files_told, mn, e1, Fw.v_lcX, Fw.w_lcXe]
    rfl
  | some q =>
    rw [hp] at a
    obtain ⟨g1, e1, r1, u1⟩ := a
    have rg := rng_big (pNum_bd hp) g1
    rw [Option.bind_some]
    obtain ⟨i, r⟩ := q
    simp only at *
    have rr := fil_loop r1 hw i.toNat
    cases hr : runN pFile i.toNat r with
    | none =>
      rw [hr] at rr
      obtain ⟨g2, e2, u2⟩ := rr
      refine ⟨g2, fn_err rfl ⟨?_, ?_⟩, u1.trans u2⟩
      rotate_left
      simp! [b_FilesReader_files_told, mn, e1, rg, Fw.v_lcX, Fw.w_lcX, e2]
      rfl
    | some p =>
      rw [hr] at rr
      obtain ⟨g2, e2, r2, u2⟩ := rr
      rw [List.nil_append] at e2
      refine ⟨g2, fn_ret rfl ?_, r2, u1.trans u2⟩
      show _ = S.ret (.lst (p.1.map filD)) g2
      generalize D.lst (p.1.map filD) = dd at *
      simp! [b_FilesReader_files_told, mn, e1, rg, Fw.v_lcX, Fw.w_lcX, e2]
abbrev Hld := Tx × List Fil
abbrev hldD (p : Hld) : D := .tup [.str (tx p.1), toldV p.2]
theorem hld_run (h : RdAt G lr ws rest) (hw : ws.length ≤ 100000) (ρs : En) :
    stepOk hldD (RI G lr ws) (RJ G lr) "NoFiles" ((eArgs fTup (aCons (eMeth ["FilesReader"] "name" m_FilesReader_name (eVar 0) aNil) (aCons (eMeth ["FilesReader"] "files_told" m_FilesReader_files_told (eVar 0) aNil) aNil))) (some (.obj lr) :: ρs) G) (pHeld rest) := by
  have mn := fun f as ρ => h.m "name" f as ρ (fun _ => rfl)
  have a := nam_run h
  unfold pHeld
  cases hp : pName rest with
  | none =>
    rw [hp] at a
    obtain ⟨g1, e1, u1⟩ := a
    refine ⟨g1, ?_, u1⟩
    simp! [mn, e1]
  | some q =>
    rw [hp] at a
    obtain ⟨g1, e1, r1, u1⟩ := a
    have mt := fun f as ρ => r1.m "files_told" f as ρ (fun _ => rfl)
    have rr := told_run r1 hw
    rw [Option.bind_some]
    obtain ⟨z, r⟩ := q
    simp only at *
    cases hr : pTold r with
    | none =>
      rw [hr] at rr
      obtain ⟨g2, e2, u2⟩ := rr
      refine ⟨g2, ?_, u1.trans u2⟩
      simp! [mn, e1, mt, e2]
    | some p =>
      rw [hr] at rr
      obtain ⟨g2, e2, r2, u2⟩ := rr
      refine ⟨g2, ?_, r2, u1.trans u2⟩
      show _ = R.ok (.tup [.str (tx z), toldV p.1]) g2
      generalize toldV p.1 = dd at *
      simp! [mn, e1, mt, e2]
theorem hld_loop (h : RdAt G lr ws rest) (hw : ws.length ≤ 100000) (x : D) (n : Nat) :
    loopOk hldD (RI G lr ws) (RJ G lr) "NoFiles" [] (lcLoopX kpT (gVar 6) eYes (eArgs fTup (aCons (eMeth ["FilesReader"] "name" m_FilesReader_name (eVar 0) aNil) (aCons (eMeth ["FilesReader"] "files_told" m_FilesReader_files_told (eVar 0) aNil) aNil))) [some (.obj lr), some x, none, none, none, none, none] finF (rangeD 0 n) [] G) (runN pHeld n rest) := by
  have := lcX_run (step := pHeld) (val := hldD) (I := RI G lr ws) (J := RJ G lr) (M := List.length) (c := "NoFiles") (E := (eArgs fTup (aCons (eMeth ["FilesReader"] "name" m_FilesReader_name (eVar 0) aNil) (aCons (eMeth ["FilesReader"] "files_told" m_FilesReader_files_told (eVar 0) aNil) aNil)))) (ρ := [some (.obj lr), some x, none, none, none, none, none]) (i := 6) (fun b g d hI => step_base (hld_run hI.1 hw [some x, none, none, none, none, some d]) hI.2) pHeld_lt (rangeD 0 n) [] rest G ⟨h, Upd.refl ..⟩ (by have := h.le; show 0 + rest.length ≤ _; omega)
  rw [rangeD_len] at this
  exact this
end
end Ww

set_option maxRecDepth 100000
set_option maxHeartbeats 4000000
namespace Ww
open PySem PySem.Spec PyProof.Rows Fw
theorem in_of {g : Gr} {l : Nat} {zs : List (List Nat)} (h : g[l]? = some (Cl.lst (zs.map fun p => .str (tx p)))) (t : List Nat) : opIn (.str (tx t)) (.obj l) g = .ok (.bl (decide (t ∈ zs))) g := by
  have e := viewL_of h
  have fl : (zs.map fun p => D.str (tx p)).all D.fl = true := by rw [List.all_map]; exact List.all_eq_true.mpr fun _ _ => rfl
  have ein : inD (.str (tx t)) (zs.map fun p => .str (tx p)) = decide (t ∈ zs) := by
    unfold inD
    rw [List.any_map]
    by_cases hm : t ∈ zs
    · rw [decide_eq_true hm]
      exact List.any_eq_true.mpr ⟨t, hm, by show (tx t == tx t) = true; exact beq_self_eq_true _⟩
    · rw [decide_eq_false hm]
      refine List.any_eq_false.mpr fun z hz => ?_
      show ¬ (tx z == tx t) = true
      rw [beq_iff_eq]
      exact fun h => hm (tx_inj h ▸ hz)
  show (match viewA g (.obj l) with | some ds => if (D.str (tx t)).fl = true ∧ ds.all D.fl = true then R.ok (.bl (inD (.str (tx t)) ds)) g else .no | none => .no) = _
  rw [show viewA g (.obj l) = some _ from e]
  simp only [fl, ein]
  rfl
def foldT (l : List Fil) : Mo := l.foldl (fun ms p => putN ms p.1 0 p.2 p.2.length) []
theorem Ok.putN {zs : List Tx} {B : Nat} {ms : Mo} (o : Ok zs B ms) {z : Tx} (hz : z ∈ zs) {bs : List Int} (hb : bs.length ≤ B) : Ok zs B (Ww.putN ms z 0 bs bs.length) := by
  unfold Ww.putN
  by_cases h0 : bs.length = 0
  · rw [if_pos h0]; exact o
  · rw [if_neg h0]
    have hr : (rw_ ms z).length ≤ B := o.get
    refine o.put hz ?_ ?_
    · rw [List.length_append, List.length_append, List.length_take, List.length_take, List.length_drop]
      omega
    · intro q
      have := congrArg List.length q
      rw [List.length_append, List.length_append, List.length_take, List.length_take, List.length_nil] at this
      omega
theorem foldT_ok {zs : List Tx} {l : List Fil} (h : ∀ p ∈ l, p.1 ∈ zs ∧ p.2.length ≤ 800) : Ok zs 800 (foldT l) := by
  have key : ∀ (l : List Fil) (ms : Mo), (∀ p ∈ l, p.1 ∈ zs ∧ p.2.length ≤ 800) → Ok zs 800 ms → Ok zs 800 (l.foldl (fun ms p => putN ms p.1 0 p.2 p.2.length) ms) := by
    intro l
    induction l with
    | nil => intro ms _ o; exact o
    | cons p r ih => intro ms h o; exact ih _ (fun q hq => h q (List.mem_cons_of_mem _ hq)) (o.putN (h p List.mem_cons_self).1 (h p List.mem_cons_self).2)
  exact key l [] h ⟨.nil, fun z h => (by cases h), fun p h => (by cases h), fun p h => (by cases h)⟩
section
variable {G : Gr} {lf lb lh lr : Nat} {ms : Mo} {hs : Ho} {ws rest zs : List Tx} {sm : List Fil}
theorem with_ok (h : FlAt G lf lb lh ms hs) (o : Ok zs 800 ms) (hz : zs.length ≤ 21) (hl : ∀ p ∈ sm, p.1 ∈ zs ∧ p.2.length ≤ 800) (h1 : lf < lb) (h2 : lb < lh) (n5 : Out lb (lb + 1) hs) :
    ∃ G', m_files_with [.obj lf, toldV sm] G = .ok .non G' ∧ FlAt G' lf lb lh (foldT sm) hs ∧ Upd G G' lb (lb + 1) := by
  have hlb : lb < G.length := (List.getElem?_eq_some_iff.mp h.b).1
  have hlf : lf < G.length := (List.getElem?_eq_some_iff.mp h.f).1
  have hlh : lh < G.length := (List.getElem?_eq_some_iff.mp h.h.d).1
  have ol := o.len
  obtain ⟨G1, e1, c1, u1⟩ := names_told h (by omega)
  have F1 := h.frame u1 (.inr (Nat.zero_le _)) (.inr (Nat.zero_le _)) (.inr (Nat.zero_le _)) Out.zero
  have mn := fun f as ρ => h.m "names" f as ρ rfl
  have c1' : G1[G.length]? = some (Cl.lst ((srtT (keys ms)).map fun z => D.str (tx z))) := by rw [← srtA_T]; exact c1
  have ia := iA_of c1'
  have nsd : (srtT (keys ms)).Nodup := srtT_nodup o.nd
  suffices key : ∃ (G' : Gr), (∃ ρ', b_files_with (([.obj lf, toldV sm] : List D).map some ++ List.replicate (6 - 2) none) G = .nx ρ' G') ∧ FlAt G' lf lb lh (foldT sm) hs ∧ Upd G G' lb (lb + 1) by
    obtain ⟨G', q1, q2⟩ := key
    exact ⟨G', fn_nx rfl q1, q2⟩
  have hsub : ∀ z, z ∈ srtT (keys ms) ↔ z ∈ keys ms := fun z => srtT_mem
  generalize srtT (keys ms) = nms at *
  simp! [b_files_with, mn, e1, ia]
  refine loop_then (K := fun s => ∃ (G' : Gr), (∃ ρ', fSeq _ s = .nx ρ' G') ∧ FlAt G' lf lb lh (foldT sm) hs ∧ Upd G G' lb (lb + 1)) (fun i ρ g' => ∃ (t2 : Option D) (msi : Mo), ρ = [some (.obj lf), some (.lst (sm.map fun p => .tup [.str (tx p.1), li p.2])), t2, none, none, none] ∧ FlAt g' lf lb lh msi hs ∧ g'[G.length]? = some (Cl.lst (nms.map fun z => D.str (tx z))) ∧ Ok zs 800 msi ∧ (∀ z ∈ keys msi, z ∈ nms ∧ z ∉ nms.take i) ∧ (∀ z ∈ nms.drop i, z ∈ keys msi) ∧ Upd G g' lb (lb + 1)) ⟨none, ms, rfl, F1, c1', o, fun z hz => ⟨(hsub z).mpr hz, by simp⟩, fun z hz => by rw [List.drop_zero] at hz; exact (hsub z).mp hz, u1.none _ _⟩ (fun n ρ g' hh => by obtain ⟨_, _, _, _, c, _⟩ := hh; exact viewL_of c) ?_ ?_
  · rintro i ρ g' d hd ⟨t2, msi, rfl, F, c, oi, k1, k3, u⟩
    rw [List.getElem?_map] at hd
    obtain ⟨z, hz', rfl⟩ := Option.map_eq_some_iff.mp hd
    obtain ⟨hi, rfl⟩ := List.getElem?_eq_some_iff.mp hz'
    have zk : nms[i] ∈ keys msi := k3 _ (by rw [List.drop_eq_getElem_cons hi]; exact List.mem_cons_self)
    have nz : nms[i] ∉ nms.drop (i + 1) := by
      have := nsd.sublist (List.drop_sublist i nms)
      rw [List.drop_eq_getElem_cons hi] at this
      exact (List.nodup_cons.mp this).1
    have nsub : ∀ y ∈ nms.drop (i + 1), y ∈ nms.drop i := fun y hy => by rw [List.drop_eq_getElem_cons hi]; exact List.mem_cons_of_mem _ hy
    have tm : ∀ y, y ∈ nms.take (i + 1) ↔ y ∈ nms.take i ∨ y = nms[i] := fun y => take_mem_succ hi
    generalize nms[i] = z at *
    have cu := cut_ok F z 0 (rw_mem zk) (Nat.zero_le _) (by have := oi.len; omega) (by omega)
    rw [if_pos rfl, mDrop_put] at cu
    have cu' : m_Files_cut [.obj lf, .str (tx z), .int 0] g' = .ok .non (g'.set lb (.dic (mK (mDrop msi z)))) := cu
    have mc := fun f as ρ => F.m "cut" f as ρ rfl
    have us : Upd g' (g'.set lb (.dic (mK (mDrop msi z)))) lb (lb + 1) := Upd.set (by omega)
    simp! [mc, cu']
    refine ⟨_, mDrop msi z, rfl, F.set (by omega) (by omega) n5 _, us.at c (by omega), oi.drop z, fun y hy => ?_, fun y hy => drop_keys.mpr ⟨fun e => nz (e ▸ hy), k3 y (nsub y hy)⟩, u.trans us⟩
    have hy' := drop_keys.mp hy
    refine ⟨(k1 y hy'.2).1, fun q => ?_⟩
    rcases (tm y).mp q with q | q
    · exact (k1 y hy'.2).2 q
    · exact hy'.1 q
  · rintro ρ' ga ⟨t2, ms1, rfl, F, c, o1, k1, k3, u⟩
    rw [List.length_map, List.take_length] at k1
    have em : ms1 = [] := by
      cases ms1 with
      | nil => rfl
      | cons p r => exact absurd (k1 p.1 (by simp [keys])).1 (k1 p.1 (by simp [keys])).2
    subst em
    have SA : ∀ m, FlAt (ga.set lb (.dic (mK m))) lf lb lh m hs := fun m => F.set (by omega) (by omega) n5 m
    have hb : ga = ga.set lb (.dic (mK [])) := (reset_at F.b).symm
    have lga : lb < ga.length := (List.getElem?_eq_some_iff.mp F.b).1
    simp! []
    refine loop_then (K := fun s => ∃ (G' : Gr), (∃ ρ', s = .nx ρ' G') ∧ FlAt G' lf lb lh (foldT sm) hs ∧ Upd G G' lb (lb + 1)) (fun i ρ g' => ∃ (t2 t3 t4 t5 : Option D), ρ = [some (.obj lf), some (.lst (sm.map fun p => .tup [.str (tx p.1), li p.2])), t2, t3, t4, t5] ∧ g' = ga.set lb (.dic (mK (foldT (sm.take i))))) ⟨t2, none, none, none, rfl, hb⟩ (fun _ _ _ _ => trivial) ?_ ?_
    · rintro i ρ g' d hd ⟨t2, t3, t4, t5, rfl, rfl⟩
      rw [List.getElem?_map] at hd
      obtain ⟨q, hq, rfl⟩ := Option.map_eq_some_iff.mp hd
      obtain ⟨hi, rfl⟩ := List.getElem?_eq_some_iff.mp hq
      have hqm : sm[i] ∈ sm := List.getElem_mem hi
      have et : foldT (sm.take (i + 1)) = putN (foldT (sm.take i)) sm[i].1 0 sm[i].2 sm[i].2.length := by rw [List.take_succ_eq_append_getElem hi, foldT, List.foldl_append]; rfl
      have op := foldT_ok (l := sm.take i) fun p hp => hl p (List.mem_of_mem_take hp)
      have rr := (hl _ hqm).2
      rw [et]
      have ltk := op.len
      generalize foldT (sm.take i) = pre at *
      generalize sm[i] = q at *
      obtain ⟨y, row⟩ := q
      simp only at rr ⊢
      have rz : (rw_ pre y).length ≤ 800 := op.get
      have s0 : ga.set lb (.dic (mK pre)) = ga.set lb (.dic (mK (putN pre y 0 row 0))) := by rw [show putN pre y 0 row 0 = pre from if_pos rfl]
      simp! []
      refine loop_then (K := fun s => S.go _ s) (fun j ρ g' => ∃ (t4 t5 : Option D), ρ = [some (.obj lf), some (.lst (sm.map fun p => .tup [.str (tx p.1), li p.2])), some (.str (tx y)), some (li row), t4, t5] ∧ g' = ga.set lb (.dic (mK (putN pre y 0 row j)))) ⟨t4, t5, rfl, s0⟩ (fun _ _ _ _ => trivial) ?_ ?_
      · rintro j ρ g' d hd ⟨t4, t5, rfl, rfl⟩
        obtain ⟨d', hd', rfl⟩ := enD_get hd
        clear hd
        rw [Nat.zero_add]
        rw [List.getElem?_map] at hd'
        obtain ⟨n, hn, rfl⟩ := Option.map_eq_some_iff.mp hd'
        obtain ⟨hj, rfl⟩ := List.getElem?_eq_some_iff.mp hn
        have hs' := SA (putN pre y 0 row j)
        have hrow := putN_row pre y 0 row j (Nat.zero_le _)
        have hrl : j ≤ (rw_ (putN pre y 0 row j) y).length ∧ (rw_ (putN pre y 0 row j) y).length ≤ 1800 := by
          rw [hrow, List.length_append, List.length_append, List.length_take, List.length_take, List.length_drop]; omega
        have hml := putN_len pre y 0 row j
        have pu := put_ok hs' y (0 + j) row[j] (by show 0 + j ≤ (rw_ (putN pre y 0 row j) y).length; omega) (by show (rw_ (putN pre y 0 row j) y).length ≤ _; omega) (by omega)
        rw [putN_step pre y 0 row j (Nat.zero_le _) hj, List.set_set] at pu
        rw [Nat.zero_add] at pu
        have m2 := fun f as ρ => hs'.m "put" f as ρ rfl
        simp! [m2, pu]
        exact ⟨_, _, rfl⟩
      · rintro ρ' g' ⟨t4, t5, rfl, rfl⟩
        rw [enD_len, List.length_map]
        exact ⟨_, _, _, _, rfl, rfl⟩
    · rintro ρ' g' ⟨t2, t3, t4, t5, rfl, rfl⟩
      rw [List.length_map, List.take_length]
      exact ⟨_, ⟨_, rfl⟩, SA (foldT sm), u.trans (Upd.set (by omega))⟩
end
end Ww

set_option maxRecDepth 100000
set_option maxHeartbeats 4000000
namespace Ww
open PySem PySem.Spec PyProof.Rows Fw
structure Nz (zs : List Tx) (own : List Fil) (ks : List Hld) : Prop where
  len : zs.length ≤ 21
  own : ∀ p ∈ own, p.1 ∈ zs ∧ p.2.length ≤ 800
  kn : ∀ q ∈ ks, q.1 ∈ zs
  ks : ∀ q ∈ ks, ∀ p ∈ q.2, p.1 ∈ zs ∧ p.2.length ≤ 800
theorem nodup_len {zs : List Tx} : ∀ {l : List Tx}, l.Nodup → (∀ z ∈ l, z ∈ zs) → l.length ≤ zs.length := fun {l} nd h => by
  exact nd.length_le_of_subset (l₂ := zs) h
def foldK (ks : List Hld) : Ko := ks.map fun q => (q.1, foldT q.2)
open Classical in
def ReadS (own : List Fil) (ks : List Hld) (G : Gr) (lr : Nat) (s : S) : Prop :=
  if (ks.map (·.1)).Nodup then ∃ (n : Nat) (G' : Gr) (hs : Ho), s = .ret (.obj n) G' ∧ FlAt G' n (n + 1) (n + 2) (foldT own) hs ∧ ko hs = foldK ks ∧ Out 0 (n + 3) hs ∧ G.length ≤ n ∧ Upd G G' lr (lr + 1)
  else ∃ (ρ' : En) (G' : Gr), s = .err "NoFiles" ρ' G' ∧ Upd G G' lr (lr + 1)
def ReadR (own : List Fil) (ks : List Hld) (G : Gr) (lr : Nat) (r : R) : Prop :=
  ((ks.map (·.1)).Nodup ∧ ∃ (n : Nat) (G' : Gr) (hs : Ho), r = .ok (.obj n) G' ∧ FlAt G' n (n + 1) (n + 2) (foldT own) hs ∧ ko hs = foldK ks ∧ Out 0 (n + 3) hs ∧ G.length ≤ n ∧ Upd G G' lr (lr + 1)) ∨
  (¬ (ks.map (·.1)).Nodup ∧ ∃ (G' : Gr), r = .err "NoFiles" G' ∧ Upd G G' lr (lr + 1))
section
variable {G : Gr} {lr : Nat} {ws rest zs : List Tx}
theorem read_none (h : RdAt G lr ws rest) (hw : ws.length ≤ 100000) (e : pAll rest = none) : ∃ G', m_files_read [.obj lr] G = .err "NoFiles" G' ∧ Upd G G' lr (lr + 1) := by
  have a := told_run h hw
  have m1 := fun f as ρ => h.m "files_told" f as ρ (fun _ => rfl)
  unfold pAll at e
  cases hp : pTold rest with
  | none =>
    rw [hp] at a
    obtain ⟨g1, e1, u1⟩ := a
    refine ⟨g1, fn_err rfl ⟨?_, ?_⟩, u1⟩
    rotate_left
    simp! [b_files_read, m1, e1]
    rfl
  | some o =>
    rw [hp, Option.bind_some] at e
    rw [hp] at a
    obtain ⟨g1, e1, r1, u1⟩ := a
    obtain ⟨own, r⟩ := o
    simp only at *
    have b := num_run r1
    have m2 := fun f as ρ => r1.m "number" f as ρ (fun _ => rfl)
    generalize toldV own = td at *
    cases hq : pNum r with
    | none =>
      rw [hq] at b
      obtain ⟨g2, e2, u2⟩ := b
      refine ⟨g2, fn_err rfl ⟨?_, ?_⟩, u1.trans u2⟩
      rotate_left
      simp! [b_files_read, m1, e1, m2, e2, Fw.v_lcX, Fw.w_lcXe]
      rfl
    | some q =>
      rw [hq, Option.bind_some] at e
      rw [hq] at b
      obtain ⟨g2, e2, r2, u2⟩ := b
      have rg := rng_big (pNum_bd hq) g2
      obtain ⟨i, r'⟩ := q
      simp only at *
      have rr := hld_loop r2 hw td i.toNat
      cases hr : runN pHeld i.toNat r' with
      | none =>
        rw [hr] at rr
        obtain ⟨g3, e3, u3⟩ := rr
        refine ⟨g3, fn_err rfl ⟨?_, ?_⟩, (u1.trans u2).trans u3⟩
        rotate_left
        simp! [b_files_read, m1, e1, m2, e2, rg, Fw.v_lcX, Fw.w_lcX, e3]
        rfl
      | some p => rw [hr] at e; cases e
theorem read_some (h : RdAt G lr ws rest) (hw : ws.length ≤ 100000) {own : List Fil} {ks : List Hld} {r0 : List Tx} (e : pAll rest = some ((own, ks), r0)) (nz : Nz zs own ks) : ReadR own ks G lr (m_files_read [.obj lr] G) := by
  have hlr : lr < G.length := by obtain ⟨_, h, _⟩ := h; exact (List.getElem?_eq_some_iff.mp h).1
  have a := told_run h hw
  have m1 := fun f as ρ => h.m "files_told" f as ρ (fun _ => rfl)
  unfold pAll at e
  obtain ⟨⟨own', r⟩, hp, e⟩ := Option.bind_eq_some_iff.mp e
  obtain ⟨⟨i, r'⟩, hq, e⟩ := Option.bind_eq_some_iff.mp e
  obtain ⟨⟨ks', r''⟩, hr, e⟩ := Option.map_eq_some_iff.mp e
  simp only [Option.some.injEq, Prod.mk.injEq] at e
  obtain ⟨⟨h1, h2⟩, _⟩ := e
  have h1 := h1.symm
  have h2 := h2.symm
  subst h1 h2
  rw [hp] at a
  obtain ⟨G1, e1, r1, u1⟩ := a
  have b := num_run r1
  have m2 := fun f as ρ => r1.m "number" f as ρ (fun _ => rfl)
  rw [hq] at b
  obtain ⟨G2, e2, r2, u2⟩ := b
  have rg := rng_big (pNum_bd hq) G2
  simp only at e1 e2 r2 hr rg
  have rr := hld_loop r2 hw (toldV own) i.toNat
  rw [hr] at rr
  obtain ⟨G3, e3, r3, u3⟩ := rr
  rw [List.nil_append] at e3
  simp only at e3
  have u13 := (u1.trans u2).trans u3
  have io : m_Files___init__ [.obj G3.length] (G3 ++ [Cl.ins "Files" []]) = .ok .non (G3 ++ filesC G3.length []) := init_ok G3
  have u4 : Upd G3 (G3 ++ filesC G3.length []) 0 0 := Upd.app
  have F4 := fl_app G3 []
  have u14 : Upd G (G3 ++ filesC G3.length []) lr (lr + 1) := u13.trans (u4.none _ _)
  have l3 := u13.le
  have l4 := u4.le
  suffices key : ReadS own ks G lr (b_files_read (([.obj lr] : List D).map some ++ List.replicate (7 - 1) none) G) by
    unfold ReadS at key
    split at key
    · rename_i nd
      obtain ⟨n, G', hs, q1, q2⟩ := key
      exact .inl ⟨nd, n, G', hs, fn_ret rfl q1, q2⟩
    · rename_i nd
      obtain ⟨ρ', G', q1, q2⟩ := key
      exact .inr ⟨nd, G', fn_err rfl ⟨ρ', q1⟩, q2⟩
  have o0 : Ok zs 800 ([] : Mo) := ⟨.nil, fun z h => (by cases h), fun p h => (by cases h), fun p h => (by cases h)⟩
  have fin : ∀ (g' : Gr) (msi : Mo) (hsi : Ho), FlAt g' G3.length (G3.length + 1) (G3.length + 2) msi hsi → Ok zs 800 msi → Out 0 (G3.length + 3) hsi →
      ∃ G', m_files_with [.obj G3.length, toldV own] g' = .ok .non G' ∧ FlAt G' G3.length (G3.length + 1) (G3.length + 2) (foldT own) hsi ∧ Upd g' G' (G3.length + 1) (G3.length + 1 + 1) := fun g' msi hsi F oi oo =>
    with_ok F oi nz.len nz.own (by omega) (by omega) (fun p hp => by have := oo p hp; omega)
  generalize htd : toldV own = td at *
  simp! [b_files_read, m1, e1, m2, e2, rg, Fw.v_lcX, Fw.w_lcX, e3, io]
  refine loop_all (K := fun s => ReadS own ks G lr (fSeq _ s)) (fun i ρ g' => ∃ (t4 t5 t6 : Option D) (msi : Mo) (hsi : Ho), ρ = [some (.obj lr), some td, some (.lst (ks.map hldD)), some (.obj G3.length), t4, t5, t6] ∧ FlAt g' G3.length (G3.length + 1) (G3.length + 2) msi hsi ∧ Ok zs 800 msi ∧ Out 0 (G3.length + 3) hsi ∧ ko hsi = foldK (ks.take i) ∧ ((ks.take i).map (·.1)).Nodup ∧ Upd G g' lr (lr + 1)) ⟨none, none, none, [], [], rfl, F4, o0, fun p hp => (by cases hp), rfl, by simp, u14⟩ (fun _ _ _ _ => trivial) ?_ ?_
  · rintro i ρ g' d hd ⟨t4, t5, t6, msi, hsi, rfl, F, oi, oo, kk, nd, u⟩
    rw [List.getElem?_map] at hd
    obtain ⟨q, hq', rfl⟩ := Option.map_eq_some_iff.mp hd
    obtain ⟨hi, rfl⟩ := List.getElem?_eq_some_iff.mp hq'
    have hqm : ks[i] ∈ ks := List.getElem_mem hi
    have hzz := nz.kn _ hqm
    have hff := nz.ks _ hqm
    have kn : keys hsi = (ks.take i).map (·.1) := by rw [← ko_keys', kk]; unfold foldK; rw [keys, List.map_map]; rfl
    have ksub : ∀ z ∈ (ks.take i).map (·.1), z ∈ zs := fun z hz => by
      obtain ⟨p, hp, rfl⟩ := List.mem_map.mp hz
      exact nz.kn p (List.mem_of_mem_take hp)
    have hsl : hsi.length ≤ 21 := by
      have h1 := nodup_len nd ksub
      have h2 := nz.len
      rw [← kn, List.length_map] at h1
      omega
    have et : ks.take (i + 1) = ks.take i ++ [ks[i]] := List.take_succ_eq_append_getElem hi
    have nin : ks[i].1 ∈ keys hsi → ¬ (ks.map (·.1)).Nodup := fun hm hn => by
      have h1 : ((ks.take (i + 1)).map (·.1)).Nodup := hn.sublist ((List.take_sublist _ _).map _)
      rw [et, List.map_append, List.nodup_append] at h1
      rw [kn] at hm
      exact h1.2.2 _ hm _ (by simp) rfl
    have nout : ks[i].1 ∉ keys hsi → ((ks.take (i + 1)).map (·.1)).Nodup := fun hm => by
      rw [et, List.map_append, List.nodup_append]
      refine ⟨nd, by simp, fun a ha b hb => ?_⟩
      rw [List.map_singleton, List.mem_singleton] at hb
      rw [hb]
      rintro rfl
      exact hm (by rw [kn]; exact ha)
    have ef : foldK (ks.take (i + 1)) = foldK (ks.take i) ++ [(ks[i].1, foldT ks[i].2)] := by rw [et]; unfold foldK; rw [List.map_append]; rfl
    generalize ks[i] = q at *
    obtain ⟨z, l⟩ := q
    simp only at hzz hff nin nout ef
    obtain ⟨ga, ea, Fa, ua⟩ := with_ok F oi nz.len hff (by omega) (by omega) (fun p hp => by have := oo p hp; omega)
    have okS := foldT_ok hff
    obtain ⟨gb, eb, cb, ub⟩ := held_told Fa (by omega)
    have cb' : gb[ga.length]? = some (Cl.lst ((srtT (keys hsi)).map fun z => D.str (tx z))) := by rw [← ko_keys', ← srtA_T]; exact cb
    have ic : opIn (.str (tx z)) (.obj ga.length) gb = .ok (.bl (decide (z ∈ keys hsi))) gb := by rw [in_of cb' z, decide_eq_decide.mpr srtT_mem]
    have Fb := Fa.frame ub (.inr (Nat.zero_le _)) (.inr (Nat.zero_le _)) (.inr (Nat.zero_le _)) Out.zero
    have mh := fun f as ρ => Fa.m "held" f as ρ rfl
    have mo := fun f as ρ => Fb.m "hold" f as ρ rfl
    have lgb : G3.length + 3 ≤ gb.length := by
      have h1 := u.le
      have h2 := (List.getElem?_eq_some_iff.mp F.h.d).1
      have h3 := ua.le
      have h4 := ub.le
      omega
    have ugb : Upd G gb lr (lr + 1) := by
      refine ⟨Nat.le_trans u.le (Nat.le_trans ua.le ub.le), fun m hm hmn => ?_⟩
      rw [ub.eq m (by have := u.le; have := ua.le; omega) (.inr (Nat.zero_le _)), ua.eq m (by have := u.le; omega) (.inl (by omega)), u.eq m hm hmn]
    by_cases zn : z ∈ keys hsi
    · rw [decide_eq_true zn] at ic
      suffices key : ∃ ρ' g2, fTurn _ _ = .err "NoFiles" ρ' g2 ∧ Upd G g2 lr (lr + 1) by
        obtain ⟨ρ', g2, e, u'⟩ := key
        refine .inr (.inr (.inr ⟨_, ρ', g2, e, ?_⟩))
        show ReadS own ks G lr (fSeq _ (.err "NoFiles" ρ' g2))
        unfold ReadS
        rw [if_neg (nin zn)]
        exact ⟨ρ', g2, rfl, u'⟩
      show ∃ ρ' g2, fTurn _ (gUnp 2 _ (D.tup [.str (tx z), toldV l]) _ _) = S.err "NoFiles" ρ' g2 ∧ Upd G g2 lr (lr + 1)
      generalize toldV l = tl at *
      refine ⟨?_, gb, ?_, ugb⟩
      rotate_left
      simp! [ea, mh, eb, ic]
      rfl
    · rw [decide_eq_false zn] at ic
      have hn : mGet hsi z = none := mGet_none.mpr zn
      have ho := hold_ok Fb hn (by omega)
      have ex := Fb.hold (by omega) (by omega) (fun p hp => by have := oo p hp; omega) z (foldT l)
      have uc : Upd gb ((gb ++ [Cl.dic (mK (foldT l))]).set (G3.length + 2) (.dic (hK (mPut hsi z (gb.length, foldT l))))) (G3.length + 2) (G3.length + 2 + 1) := put_upd
      left
      show S.go _ (fTurn _ (gUnp 2 _ (D.tup [.str (tx z), toldV l]) _ _))
      have UU : Upd G ((gb ++ [Cl.dic (mK (foldT l))]).set (G3.length + 2) (.dic (hK (mPut hsi z (gb.length, foldT l))))) lr (lr + 1) := by
        refine ⟨Nat.le_trans ugb.le uc.le, fun m hm hmn => ?_⟩
        rw [uc.eq m (by have := ugb.le; omega) (.inl (by omega)), ugb.eq m hm hmn]
      generalize toldV l = tl at *
      simp! [ea, mh, eb, ic, mo, ho]
      refine ⟨_, _, _, foldT l, mPut hsi z (gb.length, foldT l), rfl, ex, okS, fun p hp => ?_, ?_, nout zn, UU⟩
      · rcases mPut_mem hp with hp | rfl
        · exact oo p hp
        · exact .inr lgb
      · rw [ko_put, ef, ← kk]
        exact mPut_new (by rw [ko_none]; exact hn)
  · rintro ρ' g' ⟨t4, t5, t6, msi, hsi, rfl, F, oi, oo, kk, nd, u⟩
    rw [List.length_map, List.take_length] at kk nd
    obtain ⟨G', e5, F5, u5⟩ := fin g' msi hsi F oi oo
    show ReadS own ks G lr (fSeq _ _)
    unfold ReadS
    rw [if_pos nd]
    refine ⟨G3.length, G', hsi, ?_, F5, kk, oo, l3, ⟨Nat.le_trans u.le u5.le, fun m hm hmn => (u5.eq m (Nat.lt_of_lt_of_le hm u.le) (.inl (by omega))).trans (u.eq m hm hmn)⟩⟩
    simp! [e5]
end
end Ww

set_option maxRecDepth 100000
set_option maxHeartbeats 4000000
namespace Ww
open PySem PySem.Spec PyProof.Rows Fw
def ltT (a b : Tx) : Bool := !leT b a
theorem leT_tot (a b : Tx) : leT a b = true ∨ leT b a = true := by
  have := leS_total (tx a) (tx b)
  rw [Bool.or_eq_true] at this
  exact this
theorem ltT_iff {a b : Tx} : ltT a b = true ↔ ¬ leT b a = true := by unfold ltT; simp
theorem ltT_le {a b : Tx} (h : ltT a b = true) : leT a b = true := (leT_tot a b).resolve_right (ltT_iff.mp h)
theorem ltT_ne {a b : Tx} (h : ltT a b = true) : a ≠ b := fun e => by
  subst e
  exact ltT_iff.mp h ((leT_tot a a).elim id id)
theorem ltT_trans {a b c : Tx} (h : ltT a b = true) (k : ltT b c = true) : ltT a c = true := ltT_iff.mpr fun q => ltT_iff.mp k (leT_trans q (ltT_le h))
theorem ltT_of {a b : Tx} (h : leT a b = true) (n : a ≠ b) : ltT a b = true := ltT_iff.mpr fun q => n (leT_anti h q)
def Inc : Tx → List Tx → Prop
  | _, [] => True
  | a, z :: r => ltT a z = true ∧ Inc z r
theorem inc_pw : ∀ (l : List Tx) (a : Tx), Inc a l → (a :: l).Pairwise fun x y => ltT x y = true
  | [], a, _ => by simp
  | z :: r, a, h => by
    have ih := inc_pw r z h.2
    refine List.pairwise_cons.mpr ⟨fun y hy => ?_, ih⟩
    rcases List.mem_cons.mp hy with rfl | hy
    · exact h.1
    · exact ltT_trans h.1 ((List.pairwise_cons.mp ih).1 y hy)
theorem inc_of : ∀ (l : List Tx) (a : Tx), ((a :: l).Pairwise fun x y => ltT x y = true) → Inc a l
  | [], a, _ => trivial
  | z :: r, a, h => ⟨(List.pairwise_cons.mp h).1 z List.mem_cons_self, inc_of r z (List.pairwise_cons.mp h).2⟩
theorem inc_sorted {l : List Tx} {a : Tx} (h : Inc a l) : srtT l = l ∧ l.Nodup := by
  have p := (List.pairwise_cons.mp (inc_pw l a h)).2
  exact ⟨srtT_self (p.imp fun h => ltT_le h), p.imp fun h => ltT_ne h⟩
theorem leT_nil (z : Tx) : leT [] z = true := by
  rcases leT_tot [] z with h | h
  · exact h
  · cases z with
    | nil => exact h
    | cons c r =>
      have : leT (c :: r) [] = false := rfl
      rw [this] at h; cases h
theorem sorted_inc {l : List Tx} (nd : l.Nodup) (h : ∀ z ∈ l, z ≠ []) : Inc [] (srtT l) := by
  refine inc_of _ _ (List.pairwise_cons.mpr ⟨fun y hy => ltT_of (leT_nil y) fun e => h y (srtT_mem.mp hy) e.symm, ?_⟩)
  have p := srtT_pw l
  have n := srtT_nodup nd
  exact (List.pairwise_and_iff.mpr ⟨p, n⟩).imp fun h => ltT_of h.1 h.2
abbrev Bd (b : Int) : Prop := 0 ≤ b ∧ b < 1000000000000000000
def nmI (b : Int) : Tx := nm b.toNat
theorem numB_nmI {b : Int} (h : Bd b) : numB (nmI b) = true := numB_nm (by have := h.2; have := h.1; omega)
theorem numV_nmI {b : Int} (h : Bd b) : (numV (nmI b) : Int) = b := by unfold nmI; rw [numV_nm]; exact Int.toNat_of_nonneg h.1
theorem nmI_numV {w : Tx} (h : numB w = true) : nmI (numV w : Int) = w := by unfold nmI; rw [Int.toNat_natCast]; exact (numV_back h).1.symm
theorem bd_numV {w : Tx} (h : numB w = true) : Bd (numV w : Int) := by have := (numV_back h).2; constructor <;> omega
def qRow (m : Nat) (r : List Tx) : Option (List Int × List Tx) :=
  if (r.take (min m 999)).length = m ∧ (r.take (min m 999)).all numB = true then some ((r.take (min m 999)).map fun w => (numV w : Int), r.drop (r.take (min m 999)).length) else none
theorem qRow_iff {m : Nat} {r r' : List Tx} {row : List Int} : qRow m r = some (row, r') ↔ row.length = m ∧ m ≤ 999 ∧ (∀ b ∈ row, Bd b) ∧ r = row.map nmI ++ r' := by
  unfold qRow
  constructor
  · intro h
    by_cases c : (r.take (min m 999)).length = m ∧ (r.take (min m 999)).all numB = true
    · rw [if_pos c] at h
      simp only [Option.some.injEq, Prod.mk.injEq] at h
      obtain ⟨h1, h2⟩ := h
      obtain ⟨c1, c2⟩ := c
      have hm : m ≤ 999 := by rw [List.length_take] at c1; omega
      have ht : r.take (min m 999) = r.take m := by rw [Nat.min_eq_left hm]
      rw [ht] at h1 h2 c1 c2
      refine ⟨by rw [← h1, List.length_map, c1], hm, fun b hb => ?_, ?_⟩
      · rw [← h1] at hb
        obtain ⟨w, hw, rfl⟩ := List.mem_map.mp hb
        exact bd_numV (List.all_eq_true.mp c2 w hw)
      · rw [← h1, ← h2, List.map_map, c1]
        have : (r.take m).map (nmI ∘ fun w => (numV w : Int)) = r.take m := by
          refine (List.map_congr_left fun w hw => ?_).trans (List.map_id _)
          exact nmI_numV (List.all_eq_true.mp c2 w hw)
        rw [this, List.take_append_drop]
    · rw [if_neg c] at h; cases h
  · rintro ⟨h1, h2, h3, rfl⟩
    have ht : (row.map nmI ++ r').take (min m 999) = row.map nmI := by
      rw [Nat.min_eq_left h2, ← h1, show row.length = (row.map nmI).length from (List.length_map _).symm, List.take_left]
    rw [ht, if_pos ⟨by rw [List.length_map, h1], List.all_eq_true.mpr fun w hw => by obtain ⟨b, hb, rfl⟩ := List.mem_map.mp hw; exact numB_nmI (h3 b hb)⟩, List.drop_left, List.map_map]
    have : row.map ((fun w => (numV w : Int)) ∘ nmI) = row := (List.map_congr_left fun b hb => numV_nmI (h3 b hb)).trans (List.map_id _)
    rw [this]
theorem pRow_of : ∀ (row : List Int) (r' : List Tx), (∀ b ∈ row, Bd b) → runN pNum row.length (row.map nmI ++ r') = some (row, r')
  | [], r', _ => rfl
  | b :: row, r', h => by
    have hb := h b List.mem_cons_self
    have ih := pRow_of row r' fun x hx => h x (List.mem_cons_of_mem _ hx)
    rw [List.length_cons, List.map_cons, List.cons_append]
    show (pNum (nmI b :: (row.map nmI ++ r'))).bind _ = _
    rw [pNum_t (numB_nmI hb), Option.bind_some, numV_nmI hb]
    show (runN pNum row.length (row.map nmI ++ r')).map _ = _
    rw [ih]; rfl
def flatW (l : List Fil) : List Tx := (l.map fun p => fileW p.1 p.2).flatten
structure Gd (M : Nat) (p : Fil) : Prop where
  n : Nme p.1
  l : 1 ≤ p.2.length ∧ p.2.length ≤ M
  b : ∀ b ∈ p.2, Bd b
theorem fileW_eq (z : Tx) (row : List Int) : fileW z row = z :: nm row.length :: row.map nmI := rfl
def qFiles : Nat → Tx → List Tx → Option (List Fil × List Tx)
  | 0, _, r => some ([], r)
  | n + 1, a, z :: c :: r => if (nameB z = true ∧ ltT a z = true) ∧ (numB c = true ∧ c ≠ [48]) then (qRow (numV c) r).bind fun p => (qFiles n z p.2).map fun q => ((z, p.1) :: q.1, q.2) else none
  | _ + 1, _, _ => none
theorem nm_pos {m : Nat} : nm m ≠ [48] ↔ m ≠ 0 := by
  constructor
  · rintro h rfl; exact h rfl
  · intro h q
    have := nm_head m h
    rw [q] at this
    exact this rfl
theorem qFiles_iff : ∀ (n : Nat) (a : Tx) (r r' : List Tx) (l : List Fil), qFiles n a r = some (l, r') ↔ l.length = n ∧ Inc a (keys l) ∧ (∀ p ∈ l, Gd 999 p) ∧ r = flatW l ++ r'
  | 0, a, r, r', l => by
    constructor
    · intro h
      have h : some (([] : List Fil), r) = some (l, r') := h
      simp only [Option.some.injEq, Prod.mk.injEq] at h
      obtain ⟨rfl, rfl⟩ := h
      exact ⟨rfl, trivial, fun p hp => (by cases hp), rfl⟩
    · rintro ⟨h1, _, _, h4⟩
      have : l = [] := List.length_eq_zero_iff.mp h1
      subst this
      show some (([] : List Fil), r) = some ([], r')
      rw [h4]; rfl
  | n + 1, a, [], r', l => by
    constructor
    · intro h; cases h
    · rintro ⟨h1, _, _, h4⟩
      cases l with
      | nil => cases h1
      | cons p l => cases h4
  | n + 1, a, [z], r', l => by
    constructor
    · intro h; cases h
    · rintro ⟨h1, _, _, h4⟩
      cases l with
      | nil => cases h1
      | cons p l => cases h4
  | n + 1, a, z :: c :: r, r', l => by
    have e : qFiles (n + 1) a (z :: c :: r) = if (nameB z = true ∧ ltT a z = true) ∧ (numB c = true ∧ c ≠ [48]) then (qRow (numV c) r).bind fun p => (qFiles n z p.2).map fun q => ((z, p.1) :: q.1, q.2) else none := rfl
    rw [e]
    constructor
    · intro h
      by_cases k : (nameB z = true ∧ ltT a z = true) ∧ (numB c = true ∧ c ≠ [48])
      · rw [if_pos k] at h
        obtain ⟨⟨row, r1⟩, h1, h⟩ := Option.bind_eq_some_iff.mp h
        obtain ⟨⟨l2, r2⟩, h2, h⟩ := Option.map_eq_some_iff.mp h
        simp only [Prod.mk.injEq] at h
        obtain ⟨h3, h4⟩ := h
        obtain ⟨⟨k1, k2⟩, k3, k4⟩ := k
        obtain ⟨a1, a2, a3, a4⟩ := qRow_iff.mp h1
        simp only at h2 h3
        obtain ⟨b1, b2, b3, b4⟩ := (qFiles_iff n z r1 r2 l2).mp h2
        subst h4 h3
        have hc := (numV_back k3).1
        have hc0 : numV c ≠ 0 := nm_pos.mp (by rw [← hc]; exact k4)
        refine ⟨by rw [List.length_cons, b1], ⟨k2, b2⟩, fun p hp => ?_, ?_⟩
        · rcases List.mem_cons.mp hp with rfl | hp
          · exact ⟨nameB_iff.mp k1, ⟨by show 1 ≤ row.length; omega, by show row.length ≤ 999; omega⟩, a3⟩
          · exact b3 p hp
        · show z :: c :: r = (fileW z row ++ flatW l2) ++ r2
          rw [fileW_eq, a4, b4, a1, ← hc]
          simp
      · rw [if_neg k] at h; cases h
    · rintro ⟨h1, h2, h3, h4⟩
      cases l with
      | nil => cases h1
      | cons p l2 =>
        obtain ⟨y, row⟩ := p
        have g := h3 _ List.mem_cons_self
        have h4 : z :: c :: r = (fileW y row ++ flatW l2) ++ r' := h4
        rw [fileW_eq] at h4
        simp only [List.cons_append, List.cons.injEq, List.append_assoc] at h4
        obtain ⟨rfl, rfl, rfl⟩ := h4
        have lt : row.length < 1000000000000000000 := Nat.lt_of_le_of_lt g.l.2 (by decide)
        have g1 := g.l.1
        have k : (nameB z = true ∧ ltT a z = true) ∧ (numB (nm row.length) = true ∧ nm row.length ≠ [48]) := ⟨⟨nameB_iff.mpr g.n, h2.1⟩, numB_nm lt, nm_pos.mpr (by show row.length ≠ 0; have : 1 ≤ row.length := g1; omega)⟩
        rw [if_pos k, numV_nm, qRow_iff.mpr ⟨rfl, g.l.2, g.b, rfl⟩, Option.bind_some]
        have ih := (qFiles_iff n z (flatW l2 ++ r') r' l2).mpr ⟨by rw [List.length_cons] at h1; omega, h2.2, fun p hp => h3 p (List.mem_cons_of_mem _ hp), rfl⟩
        simp only [ih]
        rfl
theorem pFile_of {z : Tx} {row : List Int} {r' : List Tx} (hn : Nme z) (hb : ∀ b ∈ row, Bd b) (hl : row.length < 1000000000000000000) : pFile (fileW z row ++ r') = some ((z, row), r') := by
  rw [fileW_eq, List.cons_append, List.cons_append]
  unfold pFile
  rw [pName_t (nameB_iff.mpr hn), Option.bind_some]
  simp only
  rw [pNum_t (numB_nm hl), Option.bind_some]
  simp only [numV_nm, Int.toNat_natCast]
  rw [pRow_of row r' hb]
  rfl
theorem pFiles_of : ∀ (l : List Fil) (r' : List Tx), (∀ p ∈ l, Nme p.1 ∧ (∀ b ∈ p.2, Bd b) ∧ p.2.length < 1000000000000000000) → runN pFile l.length (flatW l ++ r') = some (l, r')
  | [], r', _ => rfl
  | p :: l, r', h => by
    obtain ⟨h1, h2, h3⟩ := h p List.mem_cons_self
    have ih := pFiles_of l r' fun x hx => h x (List.mem_cons_of_mem _ hx)
    have e : flatW (p :: l) ++ r' = fileW p.1 p.2 ++ (flatW l ++ r') := by unfold flatW; rw [List.map_cons, List.flatten_cons, List.append_assoc]
    rw [List.length_cons, e]
    show (pFile (fileW p.1 p.2 ++ (flatW l ++ r'))).bind _ = _
    rw [pFile_of h1 h2 h3, Option.bind_some]
    show (runN pFile l.length (flatW l ++ r')).map _ = _
    rw [ih]; rfl
end Ww

set_option maxRecDepth 100000
set_option maxHeartbeats 4000000
namespace Ww
open PySem PySem.Spec PyProof.Rows Fw
def modW (l : List Fil) : List Tx := nm l.length :: flatW l
def qModel : List Tx → Option (List Fil × List Tx)
  | [] => none
  | w :: r => if numB w = true then qFiles (numV w) [] r else none
structure GdM (l : List Fil) : Prop where
  lt : l.length < 1000000000000000000
  inc : Inc [] (keys l)
  gd : ∀ p ∈ l, Gd 999 p
theorem qModel_iff {r r' : List Tx} {l : List Fil} : qModel r = some (l, r') ↔ GdM l ∧ r = modW l ++ r' := by
  cases r with
  | nil => exact ⟨fun h => (by cases h), fun h => (by cases h.2)⟩
  | cons w r =>
    have e : qModel (w :: r) = if numB w = true then qFiles (numV w) [] r else none := rfl
    rw [e]
    constructor
    · intro h
      by_cases k : numB w = true
      · rw [if_pos k] at h
        obtain ⟨h1, h2, h3, h4⟩ := (qFiles_iff _ _ _ _ _).mp h
        obtain ⟨k1, k2⟩ := numV_back k
        refine ⟨⟨by rw [h1]; exact k2, h2, h3⟩, ?_⟩
        show w :: r = nm l.length :: (flatW l ++ r')
        rw [h1, ← k1, h4]
      · rw [if_neg k] at h; cases h
    · rintro ⟨⟨h1, h2, h3⟩, h4⟩
      have h4 : w :: r = nm l.length :: (flatW l ++ r') := h4
      obtain ⟨rfl, rfl⟩ := List.cons.inj h4
      rw [if_pos (numB_nm h1), numV_nm]
      exact (qFiles_iff _ _ _ _ _).mpr ⟨rfl, h2, h3, rfl⟩
def heldW (ks : List Hld) : List Tx := (ks.map fun q => q.1 :: modW q.2).flatten
def qHelds : Nat → Tx → List Tx → Option (List Hld × List Tx)
  | 0, _, r => some ([], r)
  | n + 1, a, z :: r => if nameB z = true ∧ ltT a z = true then (qModel r).bind fun m => (qHelds n z m.2).map fun q => ((z, m.1) :: q.1, q.2) else none
  | _ + 1, _, [] => none
abbrev hkeys (ks : List Hld) : List Tx := ks.map (·.1)
theorem qHelds_iff : ∀ (n : Nat) (a : Tx) (r r' : List Tx) (ks : List Hld), qHelds n a r = some (ks, r') ↔ ks.length = n ∧ Inc a (hkeys ks) ∧ (∀ q ∈ ks, Nme q.1 ∧ GdM q.2) ∧ r = heldW ks ++ r'
  | 0, a, r, r', ks => by
    constructor
    · intro h
      have h : some (([] : List Hld), r) = some (ks, r') := h
      simp only [Option.some.injEq, Prod.mk.injEq] at h
      obtain ⟨rfl, rfl⟩ := h
      exact ⟨rfl, trivial, fun p hp => (by cases hp), rfl⟩
    · rintro ⟨h1, _, _, h4⟩
      have : ks = [] := List.length_eq_zero_iff.mp h1
      subst this
      show some (([] : List Hld), r) = some ([], r')
      rw [h4]; rfl
  | n + 1, a, [], r', ks => by
    constructor
    · intro h; cases h
    · rintro ⟨h1, _, _, h4⟩
      cases ks with
      | nil => cases h1
      | cons p l => cases h4
  | n + 1, a, z :: r, r', ks => by
    have e : qHelds (n + 1) a (z :: r) = if nameB z = true ∧ ltT a z = true then (qModel r).bind fun m => (qHelds n z m.2).map fun q => ((z, m.1) :: q.1, q.2) else none := rfl
    rw [e]
    constructor
    · intro h
      by_cases k : nameB z = true ∧ ltT a z = true
      · rw [if_pos k] at h
        obtain ⟨⟨l, r1⟩, h1, h⟩ := Option.bind_eq_some_iff.mp h
        obtain ⟨⟨k2, r2⟩, h2, h⟩ := Option.map_eq_some_iff.mp h
        simp only [Prod.mk.injEq] at h
        obtain ⟨h3, h4⟩ := h
        obtain ⟨a1, a2⟩ := qModel_iff.mp h1
        simp only at h2 h3
        obtain ⟨b1, b2, b3, b4⟩ := (qHelds_iff n z r1 r2 k2).mp h2
        subst h4 h3
        refine ⟨by rw [List.length_cons, b1], ⟨k.2, b2⟩, fun p hp => ?_, ?_⟩
        · rcases List.mem_cons.mp hp with rfl | hp
          · exact ⟨nameB_iff.mp k.1, a1⟩
          · exact b3 p hp
        · show z :: r = ((z :: modW l) ++ heldW k2) ++ r2
          rw [a2, b4]
          simp
      · rw [if_neg k] at h; cases h
    · rintro ⟨h1, h2, h3, h4⟩
      cases ks with
      | nil => cases h1
      | cons p k2 =>
        obtain ⟨y, l⟩ := p
        obtain ⟨g1, g2⟩ := h3 _ List.mem_cons_self
        have h4 : z :: r = ((y :: modW l) ++ heldW k2) ++ r' := h4
        simp only [List.cons_append, List.cons.injEq, List.append_assoc] at h4
        obtain ⟨rfl, rfl⟩ := h4
        rw [if_pos ⟨nameB_iff.mpr g1, h2.1⟩, qModel_iff.mpr ⟨g2, rfl⟩, Option.bind_some]
        have ih := (qHelds_iff n z (heldW k2 ++ r') r' k2).mpr ⟨by rw [List.length_cons] at h1; omega, h2.2, fun p hp => h3 p (List.mem_cons_of_mem _ hp), rfl⟩
        simp only [ih]
        rfl
structure GdK (ks : List Hld) : Prop where
  lt : ks.length < 1000000000000000000
  inc : Inc [] (hkeys ks)
  gd : ∀ q ∈ ks, Nme q.1 ∧ GdM q.2
def qKept : List Tx → Option (List Hld)
  | [] => none
  | w :: r => if numB w = true then (qHelds (numV w) [] r).bind fun k => if k.2 = [] then some k.1 else none else none
theorem qKept_iff {r : List Tx} {ks : List Hld} : qKept r = some ks ↔ GdK ks ∧ r = nm ks.length :: heldW ks := by
  cases r with
  | nil => exact ⟨fun h => (by cases h), fun h => (by cases h.2)⟩
  | cons w r =>
    have e : qKept (w :: r) = if numB w = true then (qHelds (numV w) [] r).bind fun k => if k.2 = [] then some k.1 else none else none := rfl
    rw [e]
    constructor
    · intro h
      by_cases k : numB w = true
      · rw [if_pos k] at h
        obtain ⟨⟨k2, r2⟩, h1, h⟩ := Option.bind_eq_some_iff.mp h
        by_cases c : r2 = []
        · subst c
          simp only [if_true] at h
          have h : k2 = ks := Option.some.inj h
          subst h
          obtain ⟨a1, a2, a3, a4⟩ := (qHelds_iff _ _ _ _ _).mp h1
          obtain ⟨k1, k2'⟩ := numV_back k
          refine ⟨⟨by rw [a1]; exact k2', a2, a3⟩, ?_⟩
          rw [a1, ← k1, a4, List.append_nil]
        · simp only [if_neg c] at h; cases h
      · rw [if_neg k] at h; cases h
    · rintro ⟨⟨h1, h2, h3⟩, h4⟩
      obtain ⟨rfl, rfl⟩ := List.cons.inj h4
      have ih := (qHelds_iff ks.length [] (heldW ks) [] ks).mpr ⟨rfl, h2, h3, (List.append_nil _).symm⟩
      rw [if_pos (numB_nm h1), numV_nm, ih]
      rfl
def qAll (ws : List Tx) : Option (List Fil × List Hld) := (qModel ws).bind fun m => (qKept m.2).map fun k => (m.1, k)
def textL (mm : List Fil) (kk : List Hld) : List Tx := modW mm ++ (nm kk.length :: heldW kk)
theorem qAll_iff {ws : List Tx} {mm : List Fil} {kk : List Hld} : qAll ws = some (mm, kk) ↔ GdM mm ∧ GdK kk ∧ ws = textL mm kk := by
  unfold qAll
  constructor
  · intro h
    obtain ⟨⟨m, r⟩, h1, h⟩ := Option.bind_eq_some_iff.mp h
    obtain ⟨k, h2, h⟩ := Option.map_eq_some_iff.mp h
    simp only [Prod.mk.injEq] at h
    obtain ⟨rfl, rfl⟩ := h
    obtain ⟨a1, a2⟩ := qModel_iff.mp h1
    obtain ⟨b1, b2⟩ := qKept_iff.mp h2
    simp only at b2
    exact ⟨a1, b1, by rw [a2, b2]; rfl⟩
  · rintro ⟨h1, h2, rfl⟩
    have e1 : qModel (textL mm kk) = some (mm, nm kk.length :: heldW kk) := qModel_iff.mpr ⟨h1, rfl⟩
    have e2 : qKept (nm kk.length :: heldW kk) = some kk := qKept_iff.mpr ⟨h2, rfl⟩
    rw [e1, Option.bind_some]
    simp only [e2]
    rfl
theorem pTold_of {l : List Fil} {r' : List Tx} (h : GdM l) : pTold (modW l ++ r') = some (l, r') := by
  unfold pTold modW
  rw [List.cons_append, pNum_t (numB_nm h.lt), Option.bind_some]
  simp only [numV_nm, Int.toNat_natCast]
  exact pFiles_of l r' fun p hp => ⟨(h.gd p hp).n, (h.gd p hp).b, Nat.lt_of_le_of_lt (h.gd p hp).l.2 (by decide)⟩
theorem pHelds_of : ∀ (ks : List Hld) (r' : List Tx), (∀ q ∈ ks, Nme q.1 ∧ GdM q.2) → runN pHeld ks.length (heldW ks ++ r') = some (ks, r')
  | [], r', _ => rfl
  | q :: ks, r', h => by
    obtain ⟨h1, h2⟩ := h q List.mem_cons_self
    have ih := pHelds_of ks r' fun x hx => h x (List.mem_cons_of_mem _ hx)
    have e : heldW (q :: ks) ++ r' = q.1 :: (modW q.2 ++ (heldW ks ++ r')) := by unfold heldW; rw [List.map_cons, List.flatten_cons, List.append_assoc]; rfl
    rw [List.length_cons, e]
    show (pHeld (q.1 :: (modW q.2 ++ (heldW ks ++ r')))).bind _ = _
    have e2 : pHeld (q.1 :: (modW q.2 ++ (heldW ks ++ r'))) = some ((q.1, q.2), heldW ks ++ r') := by
      unfold pHeld
      rw [pName_t (nameB_iff.mpr h1), Option.bind_some]
      simp only [pTold_of h2]
      rfl
    rw [e2, Option.bind_some]
    show (runN pHeld ks.length (heldW ks ++ r')).map _ = _
    rw [ih]; rfl
theorem pAll_of {mm : List Fil} {kk : List Hld} (h : GdM mm) (k : GdK kk) : pAll (textL mm kk) = some ((mm, kk), []) := by
  unfold pAll textL
  rw [pTold_of h, Option.bind_some]
  simp only
  rw [pNum_t (numB_nm k.lt), Option.bind_some]
  simp only [numV_nm, Int.toNat_natCast]
  have := pHelds_of kk [] k.gd
  rw [List.append_nil] at this
  rw [this]
  rfl
theorem foldT_app : ∀ (l : List Fil) (ms : Mo), (keys l).Nodup → (∀ p ∈ l, mGet ms p.1 = none ∧ p.2 ≠ []) → l.foldl (fun ms p => putN ms p.1 0 p.2 p.2.length) ms = ms ++ l
  | [], ms, _, _ => by simp
  | p :: l, ms, nd, h => by
    obtain ⟨h1, h2⟩ := h p List.mem_cons_self
    have nd' := List.nodup_cons.mp (show (p.1 :: keys l).Nodup from nd)
    have e : putN ms p.1 0 p.2 p.2.length = ms ++ [p] := putN_all ms p.1 p.2 h1 h2
    rw [List.foldl_cons, e, foldT_app l (ms ++ [p]) nd'.2 fun q hq => ?_]
    · simp
    · obtain ⟨q1, q2⟩ := h q (List.mem_cons_of_mem _ hq)
      refine ⟨mGet_none.mpr fun hm => ?_, q2⟩
      rw [List.map_append, List.mem_append] at hm
      rcases hm with hm | hm
      · exact mGet_none.mp q1 hm
      · have : q.1 = p.1 := by simpa using hm
        exact nd'.1 (List.mem_map.mpr ⟨q, hq, this⟩)
theorem foldT_self {l : List Fil} (h : GdM l) : foldT l = l := by
  unfold foldT
  rw [foldT_app l [] (inc_sorted h.inc).2 fun p hp => ⟨rfl, fun q => by have := (h.gd p hp).l.1; rw [q] at this; simp at this⟩, List.nil_append]
theorem foldK_self {ks : List Hld} (h : GdK ks) : foldK ks = ks := by
  unfold foldK
  refine (List.map_congr_left fun q hq => ?_).trans (List.map_id _)
  show (q.1, foldT q.2) = q
  rw [foldT_self (h.gd q hq).2]
theorem wordsM_of {l : List Fil} (h : GdM l) : wordsM l = modW l := by
  obtain ⟨s1, s2⟩ := inc_sorted h.inc
  unfold wordsM modW flatW
  rw [s1, List.map_map]
  congr 2
  refine List.map_congr_left fun p hp => ?_
  show fileW p.1 (rw_ l p.1) = fileW p.1 p.2
  have : mGet l p.1 = some p.2 := mGet_mem s2 hp
  show fileW p.1 ((mGet l p.1).getD []) = _
  rw [this]; rfl
theorem textW_of {mm : List Fil} {kk : List Hld} (h : GdM mm) (k : GdK kk) : textW mm kk = textL mm kk := by
  obtain ⟨s1, s2⟩ := inc_sorted k.inc
  have s1' : srtT (keys kk) = hkeys kk := s1
  have hf : ((hkeys kk).map fun z => z :: wordsM (kGet kk z)).flatten = heldW kk := by
    unfold heldW hkeys
    rw [List.map_map]
    congr 1
    refine List.map_congr_left fun q hq => ?_
    show q.1 :: wordsM (kGet kk q.1) = q.1 :: modW q.2
    have : mGet kk q.1 = some q.2 := mGet_mem s2 hq
    rw [show kGet kk q.1 = q.2 by unfold kGet; rw [this]; rfl, wordsM_of (k.gd q hq).2]
  unfold textW textL
  rw [wordsM_of h, s1', hf, List.append_assoc]
  rfl
def srtK (ks : Ko) : Ko := (srtT (keys ks)).map fun z => (z, srtM (kGet ks z))
theorem GdM_srt {ms : Mo} (o : Okw ms) : GdM (srtM ms) := by
  have ol := o.len
  have e : keys (srtM ms) = srtT (keys ms) := by unfold srtM; rw [keys_tab]
  refine ⟨by unfold srtM; rw [List.length_map, srtT_len, List.length_map]; omega, by rw [e]; exact sorted_inc o.nd fun z hz q => by have := (o.n z hz).1; rw [q] at this; simp at this, fun p hp => ?_⟩
  unfold srtM at hp
  obtain ⟨z, hz, rfl⟩ := List.mem_map.mp hp
  obtain ⟨h1, h2, h3⟩ := o.get (rw_mem (srtT_mem.mp hz))
  exact ⟨h3, ⟨h1.1, Nat.le_trans h1.2 (by decide)⟩, h2⟩
theorem GdK_srt {ks : Ko} (o : OkKw ks) : GdK (srtK ks) := by
  have ol := o.len
  have e : hkeys (srtK ks) = srtT (keys ks) := by unfold srtK hkeys; rw [List.map_map]; exact List.map_id' _
  refine ⟨by unfold srtK; rw [List.length_map, srtT_len, List.length_map]; omega, by rw [e]; exact sorted_inc o.nd fun z hz q => by have := (o.n z hz).1; rw [q] at this; simp at this, fun p hp => ?_⟩
  unfold srtK at hp
  obtain ⟨z, hz, rfl⟩ := List.mem_map.mp hp
  have hz := srtT_mem.mp hz
  obtain ⟨m, h1, h2⟩ := kGet_mem hz
  refine ⟨o.n z hz, ?_⟩
  show GdM (srtM (kGet ks z))
  rw [h2]
  exact GdM_srt (o.m _ (mGet_some h1))
theorem srtK_eqk {ks : Ko} (o : OkKw ks) : EqK (srtK ks) ks := by
  refine ⟨by unfold srtK; rw [keys_tab]; exact srtT_nodup o.nd, o.nd, fun z => ?_⟩
  unfold srtK
  rw [mGet_tab]
  by_cases h : z ∈ keys ks
  · rw [if_pos (srtT_mem.mpr h)]
    obtain ⟨m, h1, h2⟩ := kGet_mem h
    exact .inr ⟨_, m, rfl, h1, by rw [h2]; exact srtM_eqv (o.m _ (mGet_some h1)).nd⟩
  · rw [if_neg (fun q => h (srtT_mem.mp q))]
    exact .inl ⟨rfl, mGet_none.mpr h⟩
theorem qAll_text {ms : Mo} {ks : Ko} (o : Okw ms) (k : OkKw ks) : qAll (textW ms ks) = some (srtM ms, srtK ks) := by
  refine qAll_iff.mpr ⟨GdM_srt o, GdK_srt k, ?_⟩
  rw [← textW_of (GdM_srt o) (GdK_srt k)]
  have e := srtM_eqv o.nd
  have e2 := srtK_eqk k
  unfold textW
  rw [e.words, e2.len, e2.srt]
  congr 2
  exact List.map_congr_left fun z _ => by rw [e2.words]
end Ww

set_option maxRecDepth 100000
set_option maxHeartbeats 4000000
namespace Ww
open PySem PySem.Spec PyProof.Rows Fw
theorem runN_all {α β : Type} {step : β → Option (α × β)} (P : α → Prop) (Q : β → Prop) (h : ∀ b p, Q b → step b = some p → P p.1 ∧ Q p.2) : ∀ (n : Nat) (b : β) (p : List α × β), Q b → runN step n b = some p → (∀ a ∈ p.1, P a) ∧ Q p.2
  | 0, b, p, hq, e => by
    have e : some (([] : List α), b) = some p := e
    cases e
    exact ⟨fun a ha => (by cases ha), hq⟩
  | n + 1, b, p, hq, e => by
    obtain ⟨q, h1, h2⟩ := Option.bind_eq_some_iff.mp (show (step b).bind _ = some p from e)
    obtain ⟨r, h3, rfl⟩ := Option.map_eq_some_iff.mp h2
    obtain ⟨k1, k2⟩ := h b q hq h1
    obtain ⟨k3, k4⟩ := runN_all P Q h n q.2 r k2 h3
    refine ⟨fun a ha => ?_, k4⟩
    rcases List.mem_cons.mp ha with rfl | ha
    · exact k1
    · exact k3 a ha
def Qw (zs : List Tx) (b : List Tx) : Prop := b.length ≤ 800 ∧ ∀ w ∈ b, Nme w → w ∈ zs
def Np (zs : List Tx) (p : Fil) : Prop := (p.1 ∈ zs ∧ p.2.length ≤ 800) ∧ Nme p.1 ∧ ∀ b ∈ p.2, Bd b
theorem pNum_q {zs b : List Tx} {p : Int × List Tx} (h : Qw zs b) (e : pNum b = some p) : Bd p.1 ∧ Qw zs p.2 := by
  refine ⟨pNum_bd e, ?_⟩
  cases b with
  | nil => cases e
  | cons w r =>
    cases hb : numB w with
    | false => rw [pNum_f hb] at e; cases e
    | true =>
      rw [pNum_t hb] at e
      cases e
      exact ⟨Nat.le_of_succ_le h.1, fun x hx => h.2 x (List.mem_cons_of_mem _ hx)⟩
theorem pName_q {zs b : List Tx} {p : Tx × List Tx} (h : Qw zs b) (e : pName b = some p) : (p.1 ∈ zs ∧ Nme p.1) ∧ Qw zs p.2 := by
  cases b with
  | nil => cases e
  | cons w r =>
    cases hb : nameB w with
    | false => rw [pName_f hb] at e; cases e
    | true =>
      rw [pName_t hb] at e
      cases e
      have hn := nameB_iff.mp hb
      exact ⟨⟨h.2 _ List.mem_cons_self hn, hn⟩, Nat.le_of_succ_le h.1, fun x hx => h.2 x (List.mem_cons_of_mem _ hx)⟩
theorem pFile_q {zs b : List Tx} {p : Fil × List Tx} (h : Qw zs b) (e : pFile b = some p) : Np zs p.1 ∧ Qw zs p.2 := by
  have hl := pFile_len b p e
  obtain ⟨⟨z, r1⟩, h1, e⟩ := Option.bind_eq_some_iff.mp e
  obtain ⟨⟨i, r2⟩, h2, e⟩ := Option.bind_eq_some_iff.mp e
  obtain ⟨⟨row, r3⟩, h3, rfl⟩ := Option.map_eq_some_iff.mp e
  obtain ⟨a1, a2⟩ := pName_q h h1
  obtain ⟨b1, b2⟩ := pNum_q a2 h2
  obtain ⟨c1, c2⟩ := runN_all Bd (Qw zs) (fun b p hq e => pNum_q hq e) _ _ _ b2 h3
  refine ⟨⟨⟨a1.1, ?_⟩, a1.2, c1⟩, c2⟩
  have := h.1
  show row.length ≤ 800
  have hl : r3.length + 2 + row.length ≤ b.length := hl
  omega
theorem pTold_q {zs b : List Tx} {p : List Fil × List Tx} (h : Qw zs b) (e : pTold b = some p) : (∀ x ∈ p.1, Np zs x) ∧ Qw zs p.2 := by
  obtain ⟨⟨i, r1⟩, h1, e⟩ := Option.bind_eq_some_iff.mp e
  obtain ⟨a1, a2⟩ := pNum_q h h1
  exact runN_all (Np zs) (Qw zs) (fun b p hq e => pFile_q hq e) _ _ _ a2 e
def Hp' (zs : List Tx) (q : Hld) : Prop := (q.1 ∈ zs ∧ Nme q.1) ∧ ∀ x ∈ q.2, Np zs x
theorem pHeld_q {zs b : List Tx} {p : Hld × List Tx} (h : Qw zs b) (e : pHeld b = some p) : Hp' zs p.1 ∧ Qw zs p.2 := by
  obtain ⟨⟨z, r1⟩, h1, e⟩ := Option.bind_eq_some_iff.mp e
  obtain ⟨⟨l, r2⟩, h2, rfl⟩ := Option.map_eq_some_iff.mp e
  obtain ⟨a1, a2⟩ := pName_q h h1
  obtain ⟨b1, b2⟩ := pTold_q a2 h2
  exact ⟨⟨a1, b1⟩, b2⟩
theorem pAll_q {zs b : List Tx} {own : List Fil} {ks : List Hld} {r : List Tx} (h : Qw zs b) (e : pAll b = some ((own, ks), r)) : (∀ x ∈ own, Np zs x) ∧ ∀ q ∈ ks, Hp' zs q := by
  obtain ⟨⟨o, r1⟩, h1, e⟩ := Option.bind_eq_some_iff.mp e
  obtain ⟨⟨i, r2⟩, h2, e⟩ := Option.bind_eq_some_iff.mp e
  obtain ⟨⟨k, r3⟩, h3, e⟩ := Option.map_eq_some_iff.mp e
  simp only [Prod.mk.injEq] at e
  obtain ⟨⟨rfl, rfl⟩, rfl⟩ := e
  obtain ⟨a1, a2⟩ := pTold_q h h1
  obtain ⟨b1, b2⟩ := pNum_q a2 h2
  exact ⟨a1, (runN_all (Hp' zs) (Qw zs) (fun b p hq e => pHeld_q hq e) _ _ _ b2 h3).1⟩
theorem foldT_np {zs : List Tx} {l : List Fil} (h : ∀ x ∈ l, Np zs x) : (∀ z ∈ keys (foldT l), Nme z) ∧ ∀ p ∈ foldT l, ∀ b ∈ p.2, Bd b := by
  have key : ∀ (l : List Fil) (ms : Mo), (∀ x ∈ l, Np zs x) → ((∀ z ∈ keys ms, Nme z) ∧ ∀ p ∈ ms, ∀ b ∈ p.2, Bd b) → ((∀ z ∈ keys (l.foldl (fun ms p => putN ms p.1 0 p.2 p.2.length) ms), Nme z) ∧ ∀ p ∈ l.foldl (fun ms p => putN ms p.1 0 p.2 p.2.length) ms, ∀ b ∈ p.2, Bd b) := by
    intro l
    induction l with
    | nil => intro ms _ o; exact o
    | cons p r ih =>
      intro ms h o
      refine ih _ (fun q hq => h q (List.mem_cons_of_mem _ hq)) ?_
      obtain ⟨_, h2, h3⟩ := h p List.mem_cons_self
      show (∀ z ∈ keys (putN ms p.1 0 p.2 p.2.length), Nme z) ∧ ∀ q ∈ putN ms p.1 0 p.2 p.2.length, ∀ b ∈ q.2, Bd b
      unfold putN
      by_cases h0 : p.2.length = 0
      · rw [if_pos h0]; exact o
      · rw [if_neg h0]
        refine ⟨fun z hz => ?_, fun q hq => ?_⟩
        · rcases put_keys.mp hz with rfl | hz
          · exact h2
          · exact o.1 z hz
        · rcases mPut_mem hq with hq | rfl
          · exact o.2 q hq
          · intro b hb
            rcases List.mem_append.mp hb with hb | hb
            · rcases List.mem_append.mp hb with hb | hb
              · rw [List.take_zero] at hb; cases hb
              · exact h3 b (List.mem_of_mem_take hb)
            · have hb := List.mem_of_mem_drop hb
              cases hg : mGet ms p.1 with
              | none =>
                rw [show rw_ ms p.1 = [] by show (mGet ms p.1).getD [] = []; rw [hg]; rfl] at hb
                cases hb
              | some v =>
                rw [show rw_ ms p.1 = v by show (mGet ms p.1).getD [] = v; rw [hg]; rfl] at hb
                exact o.2 _ (mGet_some hg) b hb
  exact key l [] h ⟨fun z hz => (by cases hz), fun p hp => (by cases hp)⟩
theorem foldT_okw {zs : List Tx} {l : List Fil} (hz : zs.length ≤ 21) (h : ∀ x ∈ l, Np zs x) : Okw (foldT l) := by
  have o := foldT_ok (zs := zs) fun p hp => (h p hp).1
  obtain ⟨n1, n2⟩ := foldT_np h
  refine ⟨o.nd, n1, fun p hp => ⟨List.length_pos_iff.mpr (o.ne p hp), o.row p hp⟩, n2, Nat.le_trans o.len hz⟩
theorem foldK_okw {zs : List Tx} {ks : List Hld} (hz : zs.length ≤ 21) (h : ∀ q ∈ ks, Hp' zs q) (nd : (ks.map (·.1)).Nodup) : OkKw (foldK ks) := by
  have ek : keys (foldK ks) = ks.map (·.1) := by unfold foldK; rw [keys, List.map_map]; rfl
  refine ⟨by rw [ek]; exact nd, fun z hz' => ?_, fun p hp => ?_, ?_⟩
  · rw [ek] at hz'
    obtain ⟨q, hq, rfl⟩ := List.mem_map.mp hz'
    exact (h q hq).1.2
  · unfold foldK at hp
    obtain ⟨q, hq, rfl⟩ := List.mem_map.mp hp
    exact foldT_okw hz (h q hq).2
  · have := nodup_len nd (zs := zs) fun z hz' => by
      obtain ⟨q, hq, rfl⟩ := List.mem_map.mp hz'
      exact (h q hq).1.1
    rw [List.length_map] at this
    unfold foldK
    rw [List.length_map]
    omega
end Ww

set_option maxRecDepth 100000
set_option maxHeartbeats 4000000
namespace Ww
open PySem PySem.Spec PyProof.Rows Fw
theorem rinit (G : Gr) (wd : D) : m_FilesReader___init__ [.obj G.length, wd] (G ++ [Cl.ins "FilesReader" []]) = .ok .non (G ++ [Cl.ins "FilesReader" [("words", wd), ("at", .int 0)]]) := by
  have w1 : ∀ (f : Str) (e : D) (ρ : En) (fs : List (Str × D)) (rest : Gr), fs.length < 1000 → setD ["FilesReader"] f e (.obj G.length) ρ (G ++ (Cl.ins "FilesReader" fs :: rest)) = .nx ρ (G ++ (Cl.ins "FilesReader" (putD f e fs) :: rest)) := fun f e ρ fs rest h => w_setAt inRd h
  have p1 : ∀ e : D, putD "words" e [] = ([("words", e)] : List (Str × D)) := fun _ => rfl
  have p2 : ∀ a e : D, putD "at" e [("words", a)] = ([("words", a), ("at", e)] : List (Str × D)) := fun _ _ => rfl
  refine fn_nx rfl ⟨?_, ?_⟩
  rotate_left
  simp! [b_FilesReader___init__, w1, p1, p2]
  rfl
theorem rinit_ok (G : Gr) (ws : List Tx) : m_FilesReader___init__ [.obj G.length, WD ws] (G ++ [Cl.ins "FilesReader" []]) = .ok .non (G ++ [Cl.ins "FilesReader" (rF ws 0)]) := rinit G (WD ws)
theorem name_free {z : Tx} (h : Nme z) : 32 ∉ z := fun q => by
  have := h.2.2 32 q
  rw [List.mem_range'_1] at this
  omega
theorem free_wordsM {ms : Mo} (o : Okw ms) : ∀ w ∈ wordsM ms, 32 ∉ w := by
  intro w hw
  unfold wordsM at hw
  rcases List.mem_cons.mp hw with rfl | hw
  · exact nm_free _
  · obtain ⟨l, hl, hwl⟩ := List.mem_flatten.mp hw
    obtain ⟨z, hz, rfl⟩ := List.mem_map.mp hl
    unfold fileW at hwl
    rcases List.mem_cons.mp hwl with rfl | hwl
    · exact name_free (o.n _ (srtT_mem.mp hz))
    · rcases List.mem_cons.mp hwl with rfl | hwl
      · exact nm_free _
      · obtain ⟨b, _, rfl⟩ := List.mem_map.mp hwl
        exact nm_free _
theorem free_textW {ms : Mo} {ks : Ko} (o : Okw ms) (k : OkKw ks) : ∀ w ∈ textW ms ks, 32 ∉ w := by
  intro w hw
  unfold textW at hw
  rcases List.mem_append.mp hw with hw | hw
  · rcases List.mem_append.mp hw with hw | hw
    · exact free_wordsM o w hw
    · rw [List.mem_singleton.mp hw]; exact nm_free _
  · obtain ⟨l, hl, hwl⟩ := List.mem_flatten.mp hw
    obtain ⟨z, hz, rfl⟩ := List.mem_map.mp hl
    obtain ⟨g1, g2⟩ := k.get (srtT_mem.mp hz)
    rcases List.mem_cons.mp hwl with rfl | hwl
    · exact name_free g2
    · exact free_wordsM g1 w hwl
theorem textW_ne (ms : Mo) (ks : Ko) : textW ms ks ≠ [] := by unfold textW wordsM; simp
theorem mem_joinL : ∀ {ws : List Tx} {w : Tx}, w ∈ ws → w.length ≤ (joinL 32 ws).length
  | [p], w, h => by rw [List.mem_singleton.mp h]; exact Nat.le_refl _
  | p :: q :: r, w, h => by
    rw [joinL, List.length_append, List.length_cons]
    rcases List.mem_cons.mp h with rfl | h
    · omega
    · have := mem_joinL h
      omega
theorem joinL_inj {a b : List Tx} (ha : a ≠ []) (hb : b ≠ []) (fa : ∀ w ∈ a, 32 ∉ w) (fb : ∀ w ∈ b, 32 ∉ w) (e : joinL 32 a = joinL 32 b) : a = b := by
  rw [← splitL_join ha fa, ← splitL_join hb fb, e]
structure Tw (zs ws : List Tx) : Prop where
  ne : ws ≠ []
  free : ∀ w ∈ ws, 32 ∉ w
  q : Qw zs ws
  zl : zs.length ≤ 21
  len : (joinL 32 ws).length ≤ 1000000
def RdF (G : Gr) (r : R) : Option (List Fil × List Hld) → Prop
  | some (mm, kk) => ∃ (n : Nat) (G' : Gr) (hs : Ho), r = .ok (.obj n) G' ∧ FlAt G' n (n + 1) (n + 2) mm hs ∧ ko hs = kk ∧ Out 0 (n + 3) hs ∧ G.length ≤ n ∧ Upd G G' 0 0
  | none => ∃ G', r = .err "NoFiles" G' ∧ Upd G G' 0 0
theorem readf_all {zs ws : List Tx} (T : Tw zs ws) (G : Gr) : RdF G (m_read_files [.str (tx (joinL 32 ws))] G) (qAll ws) := by
  have i0 : ∀ g, opIsT "str" (.str (tx (joinL 32 ws))) g = .ok (.bl true) g := fun g => rfl
  have sp : mSplit (.str (tx (joinL 32 ws))) [.str (tx [32])] G = .ok (WD ws) G := by
    rw [Fw.v_splT (by have := T.len; omega), splitL_join T.ne T.free]
  have ri := rinit_ok G ws
  have hw : ws.length ≤ 100000 := by have := T.q.1; omega
  have r0 : RdAt (G ++ [Cl.ins "FilesReader" (rF ws 0)]) G.length ws ws := ⟨0, by simp, ⟨Nat.zero_le _, fun w hw => Nat.le_trans (mem_joinL hw) T.len⟩, List.drop_zero⟩
  have old : ∀ {G' : Gr}, Upd (G ++ [Cl.ins "FilesReader" (rF ws 0)]) G' G.length (G.length + 1) → Upd G G' 0 0 := fun u => (Upd.app (a := 0) (b := 0)).old u (Nat.le_refl _)
  generalize hts : joinL 32 ws = ts at *
  cases hp : pAll ws with
  | none =>
    obtain ⟨G', e1, u⟩ := read_none r0 hw hp
    cases hq : qAll ws with
    | some p =>
      obtain ⟨mm, kk⟩ := p
      obtain ⟨h1, h2, h3⟩ := qAll_iff.mp hq
      rw [h3, pAll_of h1 h2] at hp
      cases hp
    | none =>
      generalize WD ws = wd at *
      refine ⟨G', fn_err rfl ⟨?_, ?_⟩, old u⟩
      rotate_left
      simp! [b_read_files, i0, sp, ri, e1]
      rfl
  | some p =>
    obtain ⟨⟨own, ks⟩, r⟩ := p
    obtain ⟨p1, p2⟩ := pAll_q T.q hp
    have nz : Nz zs own ks := ⟨T.zl, fun x hx => (p1 x hx).1, fun q hq => (p2 q hq).1.1, fun q hq x hx => ((p2 q hq).2 x hx).1⟩
    rcases read_some r0 hw hp nz with ⟨nd, n, G', hs, e1, F, ek, oo, ln, u⟩ | ⟨nd, G', e1, u⟩
    · have o1 := foldT_okw T.zl p1
      have o2 := foldK_okw T.zl p2 nd
      have o2' : OkKw (ko hs) := by rw [ek]; exact o2
      have tx1 := text_ok F o1 o2' (fun p hp => by have := oo p hp; omega) (fun p hp => by have := oo p hp; omega)
      rw [ek] at tx1
      rw [List.length_append, List.length_singleton] at ln
      have neT : ∀ g, opNe (.str (tx (textM (foldT own) (foldK ks)))) (.str (tx ts)) g = .ok (.bl (!decide (textM (foldT own) (foldK ks) = ts))) g := fun g => Fw.v_neT
      by_cases et : textM (foldT own) (foldK ks) = ts
      · rw [et] at tx1
        have ne : ∀ g, opNe (.str (tx ts)) (.str (tx ts)) g = .ok (.bl false) g := fun g => by have := neT g; rw [et, decide_eq_true rfl] at this; exact this
        have ew : ws = textW (foldT own) (foldK ks) := by
          refine joinL_inj T.ne (textW_ne _ _) T.free (free_textW o1 o2) ?_
          rw [hts, ← et]; rfl
        have hq := qAll_text o1 o2
        rw [← ew] at hq
        obtain ⟨h1, h2, h3⟩ := qAll_iff.mp hq
        have hp2 : pAll ws = some ((srtM (foldT own), srtK (foldK ks)), []) := by rw [h3]; exact pAll_of h1 h2
        rw [hp] at hp2
        simp only [Option.some.injEq, Prod.mk.injEq] at hp2
        obtain ⟨⟨g1, g2⟩, _⟩ := hp2
        rw [hq, ← g1, ← g2]
        rw [← g1] at h1
        rw [← g2] at h2
        rw [foldT_self h1] at F
        rw [foldK_self h2] at ek
        refine ⟨n, G', hs, fn_ret rfl ?_, F, ek, oo, by omega, old u⟩
        generalize WD ws = wd at *
        simp! [b_read_files, i0, sp, ri, e1, tx1, ne]
      · have ne : ∀ g, opNe (.str (tx (textM (foldT own) (foldK ks)))) (.str (tx ts)) g = .ok (.bl true) g := fun g => by have := neT g; rw [decide_eq_false et] at this; exact this
        have hq : qAll ws = none := by
          cases hq : qAll ws with
          | none => rfl
          | some p =>
            obtain ⟨mm, kk⟩ := p
            obtain ⟨h1, h2, h3⟩ := qAll_iff.mp hq
            have hp2 : pAll ws = some ((mm, kk), []) := by rw [h3]; exact pAll_of h1 h2
            rw [hp] at hp2
            simp only [Option.some.injEq, Prod.mk.injEq] at hp2
            obtain ⟨⟨rfl, rfl⟩, _⟩ := hp2
            refine absurd ?_ et
            rw [foldT_self h1, foldK_self h2, ← hts]
            show joinL 32 (textW own ks) = joinL 32 ws
            rw [textW_of h1 h2, ← h3]
        rw [hq]
        generalize textM (foldT own) (foldK ks) = t2 at *
        generalize WD ws = wd at *
        refine ⟨G', fn_err rfl ⟨?_, ?_⟩, old u⟩
        rotate_left
        simp! [b_read_files, i0, sp, ri, e1, tx1, ne]
        rfl
    · have hq : qAll ws = none := by
        cases hq : qAll ws with
        | none => rfl
        | some p =>
          obtain ⟨mm, kk⟩ := p
          obtain ⟨h1, h2, h3⟩ := qAll_iff.mp hq
          have hp2 : pAll ws = some ((mm, kk), []) := by rw [h3]; exact pAll_of h1 h2
          rw [hp] at hp2
          simp only [Option.some.injEq, Prod.mk.injEq] at hp2
          obtain ⟨⟨rfl, rfl⟩, _⟩ := hp2
          exact absurd (inc_sorted h2.inc).2 nd
      rw [hq]
      generalize WD ws = wd at *
      refine ⟨G', fn_err rfl ⟨?_, ?_⟩, old u⟩
      rotate_left
      simp! [b_read_files, i0, sp, ri, e1]
      rfl
end Ww

set_option maxRecDepth 100000
set_option maxHeartbeats 4000000
namespace Ww
open PySem PySem.Spec PyProof.Rows Fw
theorem eqTx (a b : Tx) (g : Gr) : opEq (.str (tx a)) (.str (tx b)) g = .ok (.bl (decide (a = b))) g := by
  rw [o_eqS]
  congr 2
  by_cases h : a = b
  · subst h; rw [decide_eq_true rfl]; exact beq_self_eq_true _
  · rw [decide_eq_false h]; exact beq_eq_false_iff_ne.mpr fun q => h (tx_inj q)
theorem strs_P (zs : List Tx) (g : Gr) (k : Nat) : toP g (k + 1) (.lst (zs.map fun z => .str (tx z))) = some (.list (zs.map fun z => .str (tx z))) := by
  have h : ∀ zs : List Tx, mapO (toP g k) (zs.map fun z => D.str (tx z)) = some (zs.map fun z => PyData.str (tx z)) := by
    intro zs
    induction zs with
    | nil => rfl
    | cons z r ih =>
      have e : toP g k (.str (tx z)) = some (.str (tx z)) := by cases k <;> rfl
      simp only [List.map_cons, mapO, e, ih]
  show (mapO (toP g k) _).map PyData.list = _
  rw [h]; rfl
theorem eqv_nilL (zs : List Tx) : PyData.eqv (.list (zs.map fun z => PyData.str (tx z))) (.list []) = decide (zs = []) := by
  cases zs with
  | nil => rfl
  | cons z r => simp [PyData.eqv, PyData.eqvAll]
theorem ne_nilD (zs : List Tx) (g : Gr) : opNe (.lst (zs.map fun z => .str (tx z))) (.lst []) g = .ok (.bl (!decide (zs = []))) g := by
  have h3 := strs_P zs g 7
  have h4 : toP g 8 (.lst []) = some (.list []) := rfl
  unfold opNe
  rw [h3, h4, ← eqv_nilL]
theorem eq_nilD (zs : List Tx) (g : Gr) : opEq (.lst (zs.map fun z => .str (tx z))) (.lst []) g = .ok (.bl (decide (zs = []))) g := by
  have h3 := strs_P zs g 7
  have h4 : toP g 8 (.lst []) = some (.list []) := rfl
  unfold opEq
  rw [h3, h4, ← eqv_nilL]
def odd (T t : Tx) : List Tx := (t.filter fun c => decide (c ∉ T)).map fun c => [c]
theorem odd_nil (T t : Tx) : decide (odd T t = []) = t.all fun c => decide (c ∈ T) := by
  unfold odd
  rw [Bool.eq_iff_iff, decide_eq_true_eq, List.map_eq_nil_iff, List.filter_eq_nil_iff, List.all_eq_true]
  constructor
  · intro h c hc
    have := h c hc
    simpa using this
  · intro h c hc
    have := h c hc
    simpa using this
theorem lc_odd {i : Nat} {cnd E : Exp} {ρ : En} {T : Tx} {g : Gr} (hc : ∀ c, cnd (ρ.set i (some (.str (tx [c])))) g = .ok (.bl (!decide (c ∈ T))) g) (hE : ∀ c, E (ρ.set i (some (.str (tx [c])))) g = .ok (.str (tx [c])) g) :
    ∀ (t : Tx) (acc : List Tx), acc.length + t.length ≤ 2000000 → lcLoop kpT (gVar i) cnd E ρ finF (t.map fun c => .str (tx [c])) (acc.map fun z => .str (tx z)) g = .ok (.lst ((acc ++ odd T t).map fun z => .str (tx z))) g
  | [], acc, _ => by rw [List.map_nil, Fw.v_lcNil]; unfold odd; simp; rfl
  | c :: t, acc, hz => by
    simp only [List.length_cons] at hz
    rw [List.map_cons, Fw.v_lcCons (by rw [List.length_map]; omega)]
    show fLcC kpT (gVar i) cnd E ρ finF (t.map fun c => .str (tx [c])) (acc.map fun z => .str (tx z)) (ρ.set i (some (.str (tx [c])))) (cnd (ρ.set i (some (.str (tx [c])))) g) = _
    rw [hc]
    by_cases h : c ∈ T
    · rw [decide_eq_true h]
      show lcLoop kpT (gVar i) cnd E ρ finF (t.map fun c => .str (tx [c])) (acc.map fun z => .str (tx z)) g = _
      rw [lc_odd hc hE t acc (by omega)]
      have : odd T (c :: t) = odd T t := by unfold odd; rw [List.filter_cons_of_neg (by simpa using h)]
      rw [this]
    · rw [decide_eq_false h]
      show fLcE kpT (gVar i) cnd E ρ finF (t.map fun c => .str (tx [c])) (acc.map fun z => .str (tx z)) (E (ρ.set i (some (.str (tx [c])))) g) = _
      rw [hE]
      show lcLoop kpT (gVar i) cnd E ρ finF (t.map fun c => .str (tx [c])) (acc.map (fun z => .str (tx z)) ++ [.str (tx [c])]) g = _
      have e : acc.map (fun z => D.str (tx z)) ++ [.str (tx [c])] = (acc ++ [[c]]).map fun z => .str (tx z) := by rw [List.map_append]; rfl
      rw [e, lc_odd hc hE t (acc ++ [[c]]) (by rw [List.length_append, List.length_singleton]; omega)]
      have : odd T (c :: t) = [c] :: odd T t := by unfold odd; rw [List.filter_cons_of_pos (by simpa using h)]; rfl
      rw [this, List.append_assoc]; rfl
theorem lnum_ok (w : Tx) (hl : w.length ≤ 1000000) (g : Gr) : m__law_is_number [.str (tx w)] g = .ok (.bl (numB w)) g := by
  have ln : ∀ g, fLen [.str (tx w)] g = .ok (.int (w.length : Int)) g := fun g => by simp! []
  have e0 := eqTx w []
  have ez := eqTx w [48]
  have lc : ∀ g, lcLoop kpT (gVar 1) (eBin opNotIn (eVar 1) (eC (.str (tx figL)))) (eVar 1) [some (.str (tx w)), none] finF (chD (tx w)) [] g = .ok (.lst ((odd figL w).map fun z => .str (tx z))) g := fun g => by
    rw [chD_tx]
    have := lc_odd (i := 1) (cnd := eBin opNotIn (eVar 1) (eC (.str (tx figL)))) (E := eVar 1) (ρ := [some (.str (tx w)), none]) (T := figL) (g := g) (fun c => rfl) (fun c => rfl) w [] (by simp; omega)
    exact this
  have ne := ne_nilD (odd figL w)
  rw [odd_nil] at ne
  refine pure_ret0 rfl ?_ rfl
  by_cases h0 : w = []
  · have : numB w = false := by subst h0; rfl
    rw [this]
    rw [decide_eq_true h0] at e0
    simp! [b__law_is_number, e0]
  have hp : 1 ≤ w.length := by
    cases w with
    | nil => exact (h0 rfl).elim
    | cons a b => simp
  rw [decide_eq_false h0] at e0
  by_cases h18 : (18 : Int) < (w.length : Int)
  · have : numB w = false := by unfold numB madeOf; rw [decide_eq_false (by omega)]; rfl
    rw [this]
    generalize (w.length : Int) = n at *
    simp! [b__law_is_number, e0, ln, h18]
  have hm : decide (1 ≤ w.length ∧ w.length ≤ 18) = true := decide_eq_true (by omega)
  cases ha : (w.all fun c => decide (c ∈ figL)) with
  | false =>
    have : numB w = false := by unfold numB madeOf; rw [ha, Bool.and_false]; rfl
    rw [this]
    rw [ha] at ne
    simp! [b__law_is_number, e0, ln, h18, fig_tx, lc, ne]
  | true =>
    have e1 : numB w = (decide (w.getD 0 0 ≠ 48) || decide (w = [48])) := by unfold numB madeOf; rw [ha, hm]; rfl
    rw [ha] at ne
    have ix : ∀ g, opIx (.str (tx w)) (.int 0) g = .ok (.str (tx [w.getD 0 0])) g := fun g => Fw.v_ixT (a := w) (k := 0) (g := g) (by omega) ⟨by omega, by omega⟩
    have nz : ∀ g, opNe (.str (tx [w.getD 0 0])) (.str (tx [48])) g = .ok (.bl (decide (w.getD 0 0 ≠ 48))) g := fun g => by
      have h : opNe (.str (tx [w.getD 0 0])) (.str (tx [48])) g = .ok (.bl (!(tx [w.getD 0 0] == tx [48]))) g := rfl
      rw [h]
      congr 2
      by_cases hz : w.getD 0 0 = 48
      · rw [hz]; rfl
      · have : (tx [w.getD 0 0] == tx [48]) = false := beq_eq_false_iff_ne.mpr fun q => hz (by have := tx_inj q; simpa using this)
        rw [this, decide_eq_true hz]; rfl
    rw [e1, Bool.or_comm]
    generalize decide (w.getD 0 0 ≠ 48) = b1 at *
    by_cases hz : w = [48]
    · rw [decide_eq_true hz] at ez ⊢
      generalize (w.length : Int) = n at *
      simp! [b__law_is_number, e0, ln, h18, fig_tx, lc, ne, ez, Bool.true_or]
    · rw [decide_eq_false hz] at ez ⊢
      generalize (w.length : Int) = n at *
      simp! [b__law_is_number, e0, ln, h18, fig_tx, lc, ne, ez, ix, nz, Bool.false_or]
theorem lname_ok (w : Tx) (hl : w.length ≤ 1000000) (g : Gr) : m__law_is_name [.str (tx w)] g = .ok (.bl (nameB w)) g := by
  have ln : ∀ g, fLen [.str (tx w)] g = .ok (.int (w.length : Int)) g := fun g => by simp! []
  have ni : ∀ g, opNotIn (.int (w.length : Int)) (.tup [.int 1, .int 2, .int 3, .int 4, .int 5, .int 6]) g = .ok (.bl (!decide (1 ≤ w.length ∧ w.length ≤ 6))) g := fun g => by
    have e : inD (.int (w.length : Int)) [.int 1, .int 2, .int 3, .int 4, .int 5, .int 6] = decide (1 ≤ w.length ∧ w.length ≤ 6) := by
      rw [Bool.eq_iff_iff, decide_eq_true_eq]
      simp [inD, feq]
      omega
    show R.ok (.bl (!inD (.int (w.length : Int)) [.int 1, .int 2, .int 3, .int 4, .int 5, .int 6])) g = _
    rw [e]
  have lc : ∀ g, lcLoop kpT (gVar 1) (eBin opNotIn (eVar 1) (eC (.str (tx smallL)))) (eVar 1) [some (.str (tx w)), none] finF (chD (tx w)) [] g = .ok (.lst ((odd smallL w).map fun z => .str (tx z))) g := fun g => by
    rw [chD_tx]
    have := lc_odd (i := 1) (cnd := eBin opNotIn (eVar 1) (eC (.str (tx smallL)))) (E := eVar 1) (ρ := [some (.str (tx w)), none]) (T := smallL) (g := g) (fun c => rfl) (fun c => rfl) w [] (by simp; omega)
    exact this
  have eq := eq_nilD (odd smallL w)
  rw [odd_nil] at eq
  refine pure_ret0 rfl ?_ rfl
  by_cases h1 : 1 ≤ w.length ∧ w.length ≤ 6
  · have e1 : nameB w = w.all fun c => decide (c ∈ smallL) := by unfold nameB madeOf; rw [decide_eq_true h1, Bool.true_and]
    rw [decide_eq_true h1] at ni
    rw [e1]
    generalize (w.length : Int) = n at *
    simp! [b__law_is_name, ln, ni, small_tx, lc, eq]
  · have e1 : nameB w = false := by unfold nameB madeOf; rw [decide_eq_false h1]; rfl
    rw [decide_eq_false h1] at ni
    rw [e1]
    generalize (w.length : Int) = n at *
    simp! [b__law_is_name, ln, ni]
theorem while_ret {Q : S → Prop} {c : Exp} {b : Stm} (I : Nat → En → Gr → Prop) (step : ∀ n ρ g, I n ρ g → (c ρ g = .ok (.bl false) g ∧ Q (.nx ρ g)) ∨ ∃ g1, c ρ g = .ok (.bl true) g1 ∧ ((∃ m ρ2 g2, m < n ∧ b ρ g1 = .nx ρ2 g2 ∧ I m ρ2 g2) ∨ ∃ d g2, b ρ g1 = .ret d g2 ∧ Q (.ret d g2))) {n : Nat} (hn : n < 4096) {ρ : En} {g : Gr} (h0 : I n ρ g) : Q (sWhile c b ρ g) := by
  have key : ∀ (f n : Nat), n < f → ∀ ρ g, I n ρ g → Q (whN c b f ρ g) := by
    intro f
    induction f with
    | zero => intro n h; omega
    | succ f ih =>
      intro n hn ρ g hI
      show Q ((c ρ g).toS ρ fun x g1 => x.brS (whG (whN c b f) (b ρ g1)) (sNil ρ g1))
      rcases step n ρ g hI with ⟨h1, h2⟩ | ⟨g1, h1, h2⟩
      · rw [h1]; exact h2
      · rw [h1]
        show Q (whG (whN c b f) (b ρ g1))
        rcases h2 with ⟨m, ρ2, g2, hm, h3, h4⟩ | ⟨d, g2, h3, h4⟩
        · rw [h3]; exact ih m (by omega) ρ2 g2 h4
        · rw [h3]; exact h4
  exact key 4096 n hn ρ g h0
end Ww

set_option maxRecDepth 100000
set_option maxHeartbeats 4000000
namespace Ww
open PySem PySem.Spec PyProof.Rows Fw
theorem cutLU' {ds : List D} {a b : Nat} (h : a ≤ b) (g : Gr) : cutOp (some (a : Int)) (some (b : Int)) (.lst ds) g = .ok (.lst ((ds.drop a).take (b - a))) g := by
  show R.ok (.lst (Fw.cutD ds (some (a : Int)) (some (b : Int)))) g = _
  unfold Fw.cutD
  rw [HT.sIx_nat, HT.sIx_nat]
  rcases Nat.le_total a ds.length with ha | ha
  · rw [Nat.min_eq_left ha]
    rcases Nat.le_total b ds.length with hb | hb
    · rw [Nat.min_eq_left hb]
    · rw [Nat.min_eq_right hb, List.take_of_length_le (by rw [List.length_drop]; omega), List.take_of_length_le (by rw [List.length_drop]; omega)]
  · rw [Nat.min_eq_right ha, List.drop_of_length_le (Nat.le_refl _), List.drop_of_length_le ha, List.take_nil, List.take_nil]
structure Wl (ws : List Tx) : Prop where
  n : ws.length ≤ 4000
  l : ∀ w ∈ ws, w.length ≤ 1000000
section
variable {ws : List Tx} {k : Nat} {w : Tx}
theorem ix_WD (h : ws[k]? = some w) (g : Gr) : opIx (WD ws) (.int (k : Int)) g = .ok (.str (tx w)) g := o_ixL (by rw [List.getElem?_map, h]; rfl)
theorem len_WD (ws : List Tx) (g : Gr) : fLen [WD ws] g = .ok (.int (ws.length : Int)) g := by
  show R.ok (.int ((ws.map fun p => D.str (tx p)).length : Int)) g = _
  rw [List.length_map]
theorem cut_WD {a b : Nat} (h : a ≤ b) (g : Gr) : cutOp (some (a : Int)) (some (b : Int)) (WD ws) g = .ok (WD ((ws.drop a).take (b - a))) g := by
  show cutOp (some (a : Int)) (some (b : Int)) (.lst (ws.map fun p => .str (tx p))) g = _
  rw [cutLU' h, ← List.map_drop, ← List.map_take]
theorem lc_isnum {bs : List Tx} (hl : ∀ w ∈ bs, w.length ≤ 1000000) (hn : bs.length ≤ 4000) (ρ : En) (g : Gr) (e : ∀ x, eVar 6 (ρ.set 6 (some x)) g = .ok x g) :
    lcLoop kpT (gVar 6) eYes (eArgs m__law_is_number (aCons (eVar 6) aNil)) ρ finF (bs.map fun p => .str (tx p)) [] g = .ok (.lst ((bs.map numB).map D.bl)) g := by
  rw [lc_of (fun w : Tx => .bl (numB w)) trivial (fun w hw => ?_) (by omega), List.map_map]
  · rfl
  · have h1 := lnum_ok w (hl w hw) g
    show (aCons (eVar 6) aNil (ρ.set 6 (some (.str (tx w)))) g).bind m__law_is_number = _
    unfold aCons
    rw [e]
    exact h1
theorem lc_int {bs : List Tx} (hb : ∀ w ∈ bs, numB w = true) (hn : bs.length ≤ 4000) (ρ : En) (g : Gr) (e : ∀ x, eVar 6 (ρ.set 6 (some x)) g = .ok x g) :
    lcLoop kpT (gVar 6) eYes (eArgs fInt (aCons (eVar 6) aNil)) ρ finF (bs.map fun p => .str (tx p)) [] g = .ok (li (bs.map fun w => (numV w : Int))) g := by
  rw [lc_of (fun w : Tx => .int (numV w : Int)) trivial (fun w hw => ?_) (by omega)]
  · show R.ok (D.lst _) g = R.ok (D.lst _) g
    rw [List.map_map]; rfl
  · obtain ⟨h1, h2⟩ := numV_back (hb w hw)
    have h3 := Fw.v_intT (g := g) h2
    rw [← h1] at h3
    show (aCons (eVar 6) aNil (ρ.set 6 (some (.str (tx w)))) g).bind fInt = _
    unfold aCons
    rw [e]
    exact h3
end
def ModR (ws : List Tx) (G : Gr) (r : R) : Option (List Fil × List Tx) → Prop
  | some p => ∃ (j : Nat) (G' : Gr), r = .ok (.tup [.obj G.length, .int (j : Int)]) G' ∧ G'[G.length]? = some (Cl.dic (mK p.1)) ∧ (j ≤ ws.length ∧ ws.drop j = p.2) ∧ Upd G G' 0 0
  | none => ∃ (j : Nat) (G' : Gr), r = .ok (.tup [.non, .int (j : Int)]) G' ∧ Upd G G' 0 0
def ModS (ws : List Tx) (G : Gr) (s : S) : Option (List Fil × List Tx) → Prop
  | some p => ∃ (j : Nat) (G' : Gr), s = .ret (.tup [.obj G.length, .int (j : Int)]) G' ∧ G'[G.length]? = some (Cl.dic (mK p.1)) ∧ (j ≤ ws.length ∧ ws.drop j = p.2) ∧ Upd G G' 0 0
  | none => ∃ (j : Nat) (G' : Gr), s = .ret (.tup [.non, .int (j : Int)]) G' ∧ Upd G G' 0 0
theorem ModS.toR {ws : List Tx} {G : Gr} {s : S} {o : Option (List Fil × List Tx)} (h : ModS ws G s o) {r : R} (e : ∀ d G', s = .ret d G' → r = .ok d G') : ModR ws G r o := by
  cases o with
  | none => obtain ⟨j, G', h1, h2⟩ := h; exact ⟨j, G', e _ _ h1, h2⟩
  | some p => obtain ⟨j, G', h1, h2⟩ := h; exact ⟨j, G', e _ _ h1, h2⟩
theorem lmodel_ok {ws : List Tx} (W : Wl ws) (k : Nat) (hk : k ≤ ws.length) (G : Gr) : ModR ws G (m__law_model_in [WD ws, .int (k : Int)] G) (qModel (ws.drop k)) := by
  suffices key : ModS ws G (b__law_model_in (([WD ws, .int (k : Int)] : List D).map some ++ List.replicate (7 - 2) none) G) (qModel (ws.drop k)) from key.toR fun d G' e => fn_ret rfl e
  have ln := len_WD ws
  rcases Nat.lt_or_ge k ws.length with hlt | hge
  · have h0 : ws[k]? = some ws[k] := List.getElem?_eq_getElem hlt
    have ed := List.drop_eq_getElem_cons hlt
    have wl := W.l _ (List.getElem_mem hlt)
    have ix := ix_WD h0
    have ge : ¬ ((ws.length : Int) ≤ (k : Int)) := by omega
    rw [ed]
    generalize ws[k] = w at *
    have isn := lnum_ok w wl
    show ModS ws G _ (if numB w = true then qFiles (numV w) [] (ws.drop (k + 1)) else none)
    cases nb : numB w with
    | false =>
      rw [if_neg Bool.false_ne_true]
      refine ⟨k, G, ?_, Upd.refl ..⟩
      rw [nb] at isn
      generalize WD ws = wd at *
      generalize (ws.length : Int) = n at *
      simp! [b__law_model_in, ln, ge, ix, isn]
    | true =>
      rw [if_pos rfl]
      rw [nb] at isn
      obtain ⟨ew, hv⟩ := numV_back nb
      have iv := fun g => Fw.v_intT (g := g) hv
      rw [← ew] at iv
      have c0 : (G ++ [Cl.dic []])[G.length]? = some (Cl.dic (mK [])) := by simp [gK]
      have u0 : Upd G (G ++ [Cl.dic []]) 0 0 := Upd.app
      have ixA := fun (j : Nat) (w : Tx) (h : ws[j]? = some w) => ix_WD h
      have ctA := fun (a b : Nat) (h : a ≤ b) => cut_WD (ws := ws) h
      have hWl := W.l
      have hWn := W.n
      generalize hwd : WD ws = wd at *
      generalize numV w = many at *
      simp! [b__law_model_in, ln, ge, ix, isn, iv]
      refine while_ret (Q := fun s => ModS ws G (fSeq _ s) (qFiles many [] (ws.drop (k + 1)))) (fun n ρ g' => ∃ (l0 : List Fil) (a : Tx) (j : Nat) (t5 t6 : Option D), ρ = [some wd, some (.int (j : Int)), some (.int (many : Int)), some (.obj G.length), some (.str (tx a)), t5, t6] ∧ g'[G.length]? = some (Cl.dic (mK l0)) ∧ (j ≤ ws.length ∧ n = ws.length - j ∧ l0.length ≤ j) ∧ l0.length ≤ many ∧ (∀ y ∈ keys l0, leT y a = true) ∧ qFiles many [] (ws.drop (k + 1)) = (qFiles (many - l0.length) a (ws.drop j)).map (fun q => (l0 ++ q.1, q.2)) ∧ Upd G g' 0 0) ?_ (n := ws.length - (k + 1)) (by omega) ⟨[], [], k + 1, none, none, rfl, c0, ⟨hlt, rfl, Nat.zero_le _⟩, Nat.zero_le _, fun y hy => (by cases hy), (by cases qFiles (many - ([] : List Fil).length) [] (ws.drop (k + 1)) <;> rfl), u0⟩
      rintro n ρ g' ⟨l0, a, j, t5, t6, rfl, c, ⟨hj, rfl, hl0⟩, hl, ha, hq, u⟩
      have ld := lenD_of c
      rw [mK_len] at ld
      by_cases hlm : l0.length < many
      · have hlm' : (l0.length : Int) < (many : Int) := by omega
        refine .inr ⟨g', by simp! [ld, hlm'], ?_⟩
        obtain ⟨m, hm⟩ : ∃ m, many - l0.length = m + 1 := ⟨many - l0.length - 1, by omega⟩
        rw [hm] at hq
        have bad : ∀ jj : Nat, qFiles (m + 1) a (ws.drop j) = none → ModS ws G (S.ret (.tup [.non, .int (jj : Int)]) g') (qFiles many [] (ws.drop (k + 1))) := fun jj e => by
          rw [hq, e]
          exact ⟨jj, g', rfl, u⟩
        by_cases hj1 : j + 1 < ws.length
        · have hz : ws[j]? = some ws[j] := List.getElem?_eq_getElem (by omega)
          have hc : ws[j + 1]? = some ws[j + 1] := List.getElem?_eq_getElem hj1
          have ed : ws.drop j = ws[j] :: ws[j + 1] :: ws.drop (j + 2) := by rw [List.drop_eq_getElem_cons (by omega), List.drop_eq_getElem_cons hj1]
          have wz := hWl _ (List.getElem_mem (show j < ws.length by omega))
          have wc := hWl _ (List.getElem_mem hj1)
          have ixz := ixA j _ hz
          have ixc := ixA (j + 1) _ hc
          rw [ed] at hq bad
          have wb : ∀ w ∈ ws.drop (j + 2), w.length ≤ 1000000 := fun w hw => hWl w (List.mem_of_mem_drop hw)
          generalize ws[j] = z at *
          generalize ws[j + 1] = y at *
          have isz := lname_ok z wz
          have isy := lnum_ok y wc
          have gt : ∀ g, opGtS (.str (tx z)) (.str (tx a)) g = .ok (.bl (ltT a z)) g := fun g => rfl
          have e48 := eqTx y [48]
          have EQ : qFiles (m + 1) a (z :: y :: ws.drop (j + 2)) = if (nameB z = true ∧ ltT a z = true) ∧ (numB y = true ∧ y ≠ [48]) then (qRow (numV y) (ws.drop (j + 2))).bind fun p => (qFiles m z p.2).map fun q => ((z, p.1) :: q.1, q.2) else none := rfl
          have g1 : ¬ ((ws.length : Int) ≤ (j : Int) + 1) := by omega
          have i1 : ((j + 1 : Nat) : Int) = (j : Int) + 1 := by omega
          rw [i1] at ixc
          rw [EQ] at hq bad
          clear EQ
          cases k1a : nameB z with
          | false =>
            refine .inr ⟨.tup [.non, .int (j : Int)], g', ?_, bad j (if_neg fun q => by rw [k1a] at q; exact Bool.false_ne_true q.1.1)⟩
            rw [k1a] at isz
            generalize (ws.length : Int) = n at *
            simp! [ln, g1, ixz, isz]
          | true =>
          rw [k1a] at isz
          cases k1b : ltT a z with
          | false =>
            refine .inr ⟨.tup [.non, .int (j : Int)], g', ?_, bad j (if_neg fun q => by rw [k1b] at q; exact Bool.false_ne_true q.1.2)⟩
            rw [k1b] at gt
            generalize (ws.length : Int) = n at *
            simp! [ln, g1, ixz, isz, gt]
          | true =>
          rw [k1b] at gt
          cases k2a : numB y with
          | false =>
            refine .inr ⟨.tup [.non, .int (j : Int)], g', ?_, bad j (if_neg fun q => by rw [k2a] at q; exact Bool.false_ne_true q.2.1)⟩
            rw [k2a] at isy
            generalize (ws.length : Int) = n at *
            simp! [ln, g1, ixz, isz, gt, ixc, isy]
          | true =>
          rw [k2a] at isy
          by_cases k2b : y = [48]
          · refine .inr ⟨.tup [.non, .int (j : Int)], g', ?_, bad j (if_neg fun q => q.2.2 k2b)⟩
            rw [decide_eq_true k2b] at e48
            generalize (ws.length : Int) = n at *
            simp! [ln, g1, ixz, isz, gt, ixc, isy, e48]
          rw [decide_eq_false k2b] at e48
          rw [if_pos ⟨⟨k1a, k1b⟩, k2a, k2b⟩] at hq bad
          obtain ⟨ey, hvy⟩ := numV_back k2a
          have ivy := fun g => Fw.v_intT (g := g) hvy
          rw [← ey] at ivy
          obtain ⟨bs, hbs⟩ : ∃ bs, bs = (ws.drop (j + 2)).take (min (numV y) 999) := ⟨_, rfl⟩
          obtain ⟨mv, hmv⟩ : ∃ mv, mv = min (numV y) 999 := ⟨_, rfl⟩
          have ct : ∀ g, cutOp (some ((j : Int) + 2)) (some ((j : Int) + 2 + (mv : Int))) wd g = .ok (WD bs) g := fun g => by
            have := ctA (j + 2) (j + 2 + mv) (by omega) g
            rw [show j + 2 + mv - (j + 2) = mv by omega, hmv, ← hbs, ← hmv] at this
            exact this
          have hmin : (if (999 : Int) < (numV y : Int) then (999 : Int) else (numV y : Int)) = (mv : Int) := by rw [hmv]; split <;> omega
          have EQ2 : qRow (numV y) (ws.drop (j + 2)) = if bs.length = numV y ∧ bs.all numB = true then some (bs.map fun w => (numV w : Int), (ws.drop (j + 2)).drop bs.length) else none := by rw [hbs]; rfl
          rw [EQ2] at hq bad
          clear EQ2
          have hbl : ∀ w ∈ bs, w.length ≤ 1000000 := fun w hw => wb w (List.mem_of_mem_take (by rw [hbs] at hw; exact hw))
          have hbj : j + 2 + bs.length ≤ ws.length := by rw [hbs, List.length_take, List.length_drop]; omega
          clear hbs
          have lnb := len_WD bs
          have lcn : ∀ g, lcLoop kpT (gVar 6) eYes (eArgs m__law_is_number (aCons (eVar 6) aNil)) [some wd, some (.int (j : Int)), some (.int (many : Int)), some (.obj G.length), some (.str (tx z)), some (WD bs), none] finF (bs.map fun p => .str (tx p)) [] g = .ok (.lst ((bs.map numB).map D.bl)) g := fun g => lc_isnum hbl (by omega) _ g fun x => rfl
          have hal : ((bs.map numB).all fun b => b) = bs.all numB := by rw [List.all_map]; rfl
          by_cases hb1 : bs.length = numV y
          · have hb1' : ((bs.length : Int) = (numV y : Int)) := by omega
            cases hb2 : bs.all numB with
            | false =>
              refine .inr ⟨.tup [.non, .int (j : Int)], g', ?_, bad j (by rw [if_neg (fun q => by rw [hb2] at q; exact Bool.false_ne_true q.2)]; rfl)⟩
              rw [hb2] at hal
              generalize (ws.length : Int) = n at *
              simp! [ln, g1, ixz, isz, gt, ixc, isy, e48, ivy, hmin, ct, lnb, hb1', lcn, hal]
            | true =>
              rw [hb2] at hal
              have hbn : ∀ w ∈ bs, numB w = true := fun w hw => List.all_eq_true.mp hb2 w hw
              have lci : ∀ g, lcLoop kpT (gVar 6) eYes (eArgs fInt (aCons (eVar 6) aNil)) [some wd, some (.int (j : Int)), some (.int (many : Int)), some (.obj G.length), some (.str (tx z)), some (WD bs), none] finF (bs.map fun p => .str (tx p)) [] g = .ok (li (bs.map fun w => (numV w : Int))) g := fun g => lc_int hbn (by omega) _ g fun x => rfl
              rw [if_pos ⟨hb1, hb2⟩, Option.bind_some] at hq
              have hzn : z ∉ keys l0 := fun q => ltT_iff.mp k1b (ha z q)
              have pt := fun ρ => dput_of (d := li (bs.map fun w => (numV w : Int))) (ρ := ρ) c (keyS z) (by rw [mK_len]; omega)
              rw [dPut_mK, mPut_new (mGet_none.mpr hzn)] at pt
              have us : Upd g' (g'.set G.length (.dic (mK (l0 ++ [(z, bs.map fun w => (numV w : Int))])))) G.length (G.length + 1) := Upd.set (by omega)
              refine .inl ⟨ws.length - (j + 2 + bs.length), [some wd, some (.int ((j : Int) + 2 + (bs.length : Int))), some (.int (many : Int)), some (.obj G.length), some (.str (tx z)), some (WD bs), t6], _, by omega, ?_, l0 ++ [(z, bs.map fun w => (numV w : Int))], z, j + 2 + bs.length, some (WD bs), t6, ?_, set_at c, ⟨hbj, rfl, ?_⟩, ?_, ?_, ?_, u.old us (Nat.le_refl _)⟩
              · generalize (ws.length : Int) = n at *
                generalize li (bs.map fun w => (numV w : Int)) = rowD at *
                simp! [ln, g1, ixz, isz, gt, ixc, isy, e48, ivy, hmin, ct, lnb, hb1', lcn, hal, lci, pt]
              · rw [show ((j + 2 + bs.length : Nat) : Int) = (j : Int) + 2 + (bs.length : Int) by omega]
              · rw [List.length_append, List.length_singleton]; omega
              · rw [List.length_append, List.length_singleton]; omega
              · intro x hx
                rw [keys, List.map_append, List.mem_append] at hx
                rcases hx with hx | hx
                · exact leT_trans (ha x hx) (ltT_le k1b)
                · have : x = z := by simpa using hx
                  rw [this]; exact (leT_tot z z).elim id id
              · have hdd : (ws.drop (j + 2)).drop bs.length = ws.drop (j + 2 + bs.length) := by
                  rw [List.drop_drop]
                rw [hq, List.length_append, List.length_singleton, show many - (l0.length + 1) = m by omega]
                simp only [hdd]
                cases qFiles m z (ws.drop (j + 2 + bs.length)) with
                | none => rfl
                | some q => simp
          · have hb1' : ¬ ((bs.length : Int) = (numV y : Int)) := by omega
            refine .inr ⟨.tup [.non, .int (j : Int)], g', ?_, bad j (by rw [if_neg (fun q => hb1 q.1)]; rfl)⟩
            generalize (ws.length : Int) = n at *
            simp! [ln, g1, ixz, isz, gt, ixc, isy, e48, ivy, hmin, ct, lnb, hb1']
        · have e : qFiles (m + 1) a (ws.drop j) = none := by
            have hd : (ws.drop j).length ≤ 1 := by rw [List.length_drop]; omega
            rcases hw : ws.drop j with _ | ⟨z, _ | ⟨y, r⟩⟩
            · rfl
            · rfl
            · rw [hw] at hd
              simp only [List.length_cons] at hd
              omega
          have g1 : ((ws.length : Int) ≤ (j : Int) + 1) := by omega
          refine .inr ⟨.tup [.non, .int (j : Int)], g', ?_, bad j e⟩
          generalize (ws.length : Int) = n at *
          simp! [ln, g1]
      · have hlm' : ¬ (l0.length : Int) < (many : Int) := by omega
        refine .inl ⟨by simp! [ld, hlm'], ?_⟩
        rw [hq, show many - l0.length = 0 by omega]
        show ModS ws G _ (some (l0 ++ [], ws.drop j))
        rw [List.append_nil]
        refine ⟨j, g', ?_, c, ⟨hj, rfl⟩, u⟩
        simp! []
  · have e : ws.drop k = [] := List.drop_of_length_le hge
    rw [e]
    have ge : ((ws.length : Int) ≤ (k : Int)) := by omega
    refine ⟨k, G, ?_, Upd.refl ..⟩
    generalize WD ws = wd at *
    generalize (ws.length : Int) = n at *
    simp! [b__law_model_in, ln, ge]
end Ww

set_option maxRecDepth 100000
set_option maxHeartbeats 4000000
namespace Ww
open PySem PySem.Spec PyProof.Rows Fw
def KepR (G : Gr) (r : R) : Option (List Hld) → Prop
  | some ks => ∃ (G' : Gr) (hs : Ho), r = .ok (.obj G.length) G' ∧ KtAt G' G.length hs ∧ ko hs = ks ∧ Out 0 (G.length + 1) hs ∧ Upd G G' 0 0
  | none => ∃ (G' : Gr), r = .ok .non G' ∧ Upd G G' 0 0
def KepS (G : Gr) (s : S) : Option (List Hld) → Prop
  | some ks => ∃ (G' : Gr) (hs : Ho), s = .ret (.obj G.length) G' ∧ KtAt G' G.length hs ∧ ko hs = ks ∧ Out 0 (G.length + 1) hs ∧ Upd G G' 0 0
  | none => ∃ (G' : Gr), s = .ret .non G' ∧ Upd G G' 0 0
theorem KepS.toR {G : Gr} {s : S} {o : Option (List Hld)} (h : KepS G s o) {r : R} (e : ∀ d G', s = .ret d G' → r = .ok d G') : KepR G r o := by
  cases o with
  | none => obtain ⟨G', h1, h2⟩ := h; exact ⟨G', e _ _ h1, h2⟩
  | some p => obtain ⟨G', hs, h1, h2⟩ := h; exact ⟨G', hs, e _ _ h1, h2⟩
def whole (o : Option (List Hld × List Tx)) : Option (List Hld) := o.bind fun k => if k.2 = [] then some k.1 else none
theorem lkept_ok {ws : List Tx} (W : Wl ws) (k : Nat) (hk : k ≤ ws.length) (G : Gr) : KepR G (m__law_kept_in [WD ws, .int (k : Int)] G) (qKept (ws.drop k)) := by
  suffices key : KepS G (b__law_kept_in (([WD ws, .int (k : Int)] : List D).map some ++ List.replicate (6 - 2) none) G) (qKept (ws.drop k)) from key.toR fun d G' e => fn_ret rfl e
  have ln := len_WD ws
  rcases Nat.lt_or_ge k ws.length with hlt | hge
  · have h0 : ws[k]? = some ws[k] := List.getElem?_eq_getElem hlt
    have ed := List.drop_eq_getElem_cons hlt
    have wl := W.l _ (List.getElem_mem hlt)
    have ix := ix_WD h0
    have ge : ¬ ((ws.length : Int) ≤ (k : Int)) := by omega
    rw [ed]
    generalize ws[k] = w at *
    have isn := lnum_ok w wl
    show KepS G _ (if numB w = true then whole (qHelds (numV w) [] (ws.drop (k + 1))) else none)
    cases nb : numB w with
    | false =>
      rw [if_neg Bool.false_ne_true]
      refine ⟨G, ?_, Upd.refl ..⟩
      rw [nb] at isn
      generalize WD ws = wd at *
      generalize (ws.length : Int) = n at *
      simp! [b__law_kept_in, ln, ge, ix, isn]
    | true =>
      rw [if_pos rfl]
      rw [nb] at isn
      obtain ⟨ew, hv⟩ := numV_back nb
      have iv := fun g => Fw.v_intT (g := g) hv
      rw [← ew] at iv
      have c0 : KtAt (G ++ [Cl.dic []]) G.length [] := ⟨by simp [gK], fun p hp => by cases hp⟩
      have u0 : Upd G (G ++ [Cl.dic []]) 0 0 := Upd.app
      have ixA := fun (j : Nat) (w : Tx) (h : ws[j]? = some w) => ix_WD h
      have lmA := fun (j : Nat) (h : j ≤ ws.length) (g : Gr) => lmodel_ok W j h g
      have hWl := W.l
      have hWn := W.n
      generalize hwd : WD ws = wd at *
      generalize numV w = many at *
      simp! [b__law_kept_in, ln, ge, ix, isn, iv]
      refine while_ret (Q := fun s => KepS G (fSeq _ s) (whole (qHelds many [] (ws.drop (k + 1))))) (fun n ρ g' => ∃ (h0 : Ho) (a : Tx) (j : Nat) (t5 : Option D), ρ = [some wd, some (.int (j : Int)), some (.int (many : Int)), some (.obj G.length), some (.str (tx a)), t5] ∧ KtAt g' G.length h0 ∧ Out 0 (G.length + 1) h0 ∧ (j ≤ ws.length ∧ n = ws.length - j ∧ h0.length ≤ j) ∧ h0.length ≤ many ∧ (∀ y ∈ keys h0, leT y a = true) ∧ qHelds many [] (ws.drop (k + 1)) = (qHelds (many - h0.length) a (ws.drop j)).map (fun q => (ko h0 ++ q.1, q.2)) ∧ Upd G g' 0 0) ?_ (n := ws.length - (k + 1)) (by omega) ⟨[], [], k + 1, none, rfl, c0, fun p hp => (by cases hp), ⟨hlt, rfl, Nat.zero_le _⟩, Nat.zero_le _, fun y hy => (by cases hy), (by cases qHelds (many - ([] : Ho).length) [] (ws.drop (k + 1)) <;> rfl), u0⟩
      rintro n ρ g' ⟨h0, a, j, t5, rfl, K, oo, ⟨hj, rfl, hl0⟩, hl, ha, hq, u⟩
      have ld := lenD_of K.d
      rw [gK_len] at ld
      have lG : G.length < g'.length := (List.getElem?_eq_some_iff.mp K.d).1
      by_cases hlm : h0.length < many
      · have hlm' : (h0.length : Int) < (many : Int) := by omega
        refine .inr ⟨g', by simp! [ld, hlm'], ?_⟩
        obtain ⟨m, hm⟩ : ∃ m, many - h0.length = m + 1 := ⟨many - h0.length - 1, by omega⟩
        rw [hm] at hq
        have bad : ∀ g2, Upd G g2 0 0 → qHelds (m + 1) a (ws.drop j) = none → KepS G (S.ret .non g2) (whole (qHelds many [] (ws.drop (k + 1)))) := fun g2 u2 e => by
          rw [hq, e]
          exact ⟨g2, rfl, u2⟩
        by_cases hj1 : j < ws.length
        · have hz : ws[j]? = some ws[j] := List.getElem?_eq_getElem hj1
          have ed : ws.drop j = ws[j] :: ws.drop (j + 1) := List.drop_eq_getElem_cons hj1
          have wz := hWl _ (List.getElem_mem hj1)
          have ixz := ixA j _ hz
          rw [ed] at hq bad
          generalize ws[j] = z at *
          have isz := lname_ok z wz
          have gt : ∀ g, opGtS (.str (tx z)) (.str (tx a)) g = .ok (.bl (ltT a z)) g := fun g => rfl
          have EQ : qHelds (m + 1) a (z :: ws.drop (j + 1)) = if nameB z = true ∧ ltT a z = true then (qModel (ws.drop (j + 1))).bind fun m' => (qHelds m z m'.2).map fun q => ((z, m'.1) :: q.1, q.2) else none := rfl
          have g1 : ¬ ((ws.length : Int) ≤ (j : Int)) := by omega
          rw [EQ] at hq bad
          clear EQ
          cases k1a : nameB z with
          | false =>
            refine .inr ⟨.non, g', ?_, bad g' u (if_neg fun q => by rw [k1a] at q; exact Bool.false_ne_true q.1)⟩
            rw [k1a] at isz
            generalize (ws.length : Int) = n at *
            simp! [ln, g1, ixz, isz]
          | true =>
          rw [k1a] at isz
          cases k1b : ltT a z with
          | false =>
            refine .inr ⟨.non, g', ?_, bad g' u (if_neg fun q => by rw [k1b] at q; exact Bool.false_ne_true q.2)⟩
            rw [k1b] at gt
            generalize (ws.length : Int) = n at *
            simp! [ln, g1, ixz, isz, gt]
          | true =>
          rw [k1b] at gt
          rw [if_pos ⟨k1a, k1b⟩] at hq bad
          have lm := lmA (j + 1) hj1 g'
          rw [show ((j + 1 : Nat) : Int) = (j : Int) + 1 by omega] at lm
          cases hm2 : qModel (ws.drop (j + 1)) with
          | none =>
            rw [hm2] at lm hq bad
            obtain ⟨j2, g2, e2, u2⟩ := lm
            refine .inr ⟨.non, g2, ?_, bad g2 (u.trans u2) rfl⟩
            generalize (ws.length : Int) = n at *
            simp! [ln, g1, ixz, isz, gt, e2]
          | some p =>
            rw [hm2, Option.bind_some] at hq
            rw [hm2] at lm
            obtain ⟨l, r'⟩ := p
            obtain ⟨j2, g2, e2, cm, ⟨hj2, rfl⟩, u2⟩ := lm
            simp only at cm hq
            have hjj : j + 1 < j2 := by
              have h2 := (qModel_iff.mp hm2).2
              have h3 := congrArg List.length h2
              rw [List.length_append, List.length_drop, List.length_drop] at h3
              have h4 : 1 ≤ (modW l).length := by unfold modW; rw [List.length_cons]; omega
              omega
            have hzn : z ∉ keys h0 := fun q => ltT_iff.mp k1b (ha z q)
            have lg2 : g'.length ≤ g2.length := u2.le
            have K2 := K.frame u2 (.inr (Nat.zero_le _)) Out.zero
            have pt := fun ρ => dput_of (d := .obj g'.length) (ρ := ρ) K2.d (keyS z) (by rw [gK_len]; omega)
            have ep := dPut_gK (fun q : Nat × Mo => D.obj q.1) h0 z (g'.length, l)
            rw [ep] at pt
            have K3 := K2.put' (fun p hp => by have := oo p hp; omega) z (q := (g'.length, l)) cm (by show g'.length ≠ G.length; omega)
            have us : Upd g2 (g2.set G.length (.dic (hK (mPut h0 z (g'.length, l))))) G.length (G.length + 1) := Upd.set (by omega)
            have hpn : mPut h0 z (g'.length, l) = h0 ++ [(z, (g'.length, l))] := mPut_new (mGet_none.mpr hzn)
            refine .inl ⟨ws.length - j2, [some wd, some (.int (j2 : Int)), some (.int (many : Int)), some (.obj G.length), some (.str (tx z)), some (.obj g'.length)], _, by omega, ?_, mPut h0 z (g'.length, l), z, j2, some (.obj g'.length), rfl, K3, ?_, ⟨hj2, rfl, ?_⟩, ?_, ?_, ?_, (u.trans u2).old us (Nat.le_refl _)⟩
            · have isO : ∀ g, opIsN (.obj g'.length) .non g = .ok (.bl false) g := fun _ => rfl
              generalize (ws.length : Int) = n at *
              simp! [ln, g1, ixz, isz, gt, e2, isO, pt]
            · rw [hpn]
              intro p hp
              rcases List.mem_append.mp hp with hp | hp
              · exact oo p hp
              · rw [List.mem_singleton.mp hp]
                exact .inr lG
            · rw [hpn, List.length_append, List.length_singleton]; omega
            · rw [hpn, List.length_append, List.length_singleton]; omega
            · rw [hpn]
              intro x hx
              rw [keys, List.map_append, List.mem_append] at hx
              rcases hx with hx | hx
              · exact leT_trans (ha x hx) (ltT_le k1b)
              · have : x = z := by simpa using hx
                rw [this]; exact (leT_tot z z).elim id id
            · rw [hpn, hq, List.length_append, List.length_singleton, show many - (h0.length + 1) = m by omega]
              have ek : ko (h0 ++ [(z, (g'.length, l))]) = ko h0 ++ [(z, l)] := by unfold ko; rw [List.map_append]; rfl
              rw [ek]
              cases qHelds m z (ws.drop j2) with
              | none => rfl
              | some q => simp
        · have e : ws.drop j = [] := List.drop_of_length_le (by omega)
          have g1 : ((ws.length : Int) ≤ (j : Int)) := by omega
          refine .inr ⟨.non, g', ?_, bad g' u (by rw [e]; rfl)⟩
          generalize (ws.length : Int) = n at *
          simp! [ln, g1]
      · have hlm' : ¬ (h0.length : Int) < (many : Int) := by omega
        refine .inl ⟨by simp! [ld, hlm'], ?_⟩
        rw [hq, show many - h0.length = 0 by omega]
        show KepS G _ (if ws.drop j = [] then some (ko h0 ++ []) else none)
        rw [List.append_nil]
        by_cases hje : j = ws.length
        · have hje' : ((j : Int) = (ws.length : Int)) := by omega
          rw [if_pos (List.drop_of_length_le (by omega))]
          refine ⟨g', h0, ?_, K, rfl, oo, u⟩
          generalize (ws.length : Int) = n at *
          simp! [ln, hje']
        · have hje' : ¬ ((j : Int) = (ws.length : Int)) := by omega
          rw [if_neg (fun q => by have := congrArg List.length q; rw [List.length_drop, List.length_nil] at this; omega)]
          refine ⟨g', ?_, u⟩
          generalize (ws.length : Int) = n at *
          simp! [ln, hje']
  · have e : ws.drop k = [] := List.drop_of_length_le hge
    rw [e]
    have ge : ((ws.length : Int) ≤ (k : Int)) := by omega
    refine ⟨G, ?_, Upd.refl ..⟩
    generalize WD ws = wd at *
    generalize (ws.length : Int) = n at *
    simp! [b__law_kept_in, ln, ge]
end Ww

set_option maxRecDepth 100000
set_option maxHeartbeats 4000000
namespace Ww
open PySem PySem.Spec PyProof.Rows Fw
def NoFilesT : Tx := [78, 111, 70, 105, 108, 101, 115]
theorem refn_NoFiles (a : Nat) (g : Gr) : m__law_refusalH (a, "NoFiles") [.err "NoFiles" a] g = .ok (.str (tx NoFilesT)) g := by
  have e1 : ("NoFiles" : Str) ∈ exL := by decide +kernel
  have q0 : ∀ g : Gr, opIsE exL exI (a, "NoFiles") "Full" (.err "NoFiles" a) g = .ok (.bl false) g := fun g => (w_isE e1 (by decide +kernel)).trans (by rw [show isSub "NoFiles" "Full" = false by decide +kernel])
  have q1 : ∀ g : Gr, opIsE exL exI (a, "NoFiles") "Gone" (.err "NoFiles" a) g = .ok (.bl false) g := fun g => (w_isE e1 (by decide +kernel)).trans (by rw [show isSub "NoFiles" "Gone" = false by decide +kernel])
  have q2 : ∀ g : Gr, opIsE exL exI (a, "NoFiles") "HeldAlready" (.err "NoFiles" a) g = .ok (.bl false) g := fun g => (w_isE e1 (by decide +kernel)).trans (by rw [show isSub "NoFiles" "HeldAlready" = false by decide +kernel])
  have q3 : ∀ g : Gr, opIsE exL exI (a, "NoFiles") "NoDeed" (.err "NoFiles" a) g = .ok (.bl false) g := fun g => (w_isE e1 (by decide +kernel)).trans (by rw [show isSub "NoFiles" "NoDeed" = false by decide +kernel])
  have q4 : ∀ g : Gr, opIsE exL exI (a, "NoFiles") "NoDisk" (.err "NoFiles" a) g = .ok (.bl false) g := fun g => (w_isE e1 (by decide +kernel)).trans (by rw [show isSub "NoFiles" "NoDisk" = false by decide +kernel])
  have q5 : ∀ g : Gr, opIsE exL exI (a, "NoFiles") "NoFile" (.err "NoFiles" a) g = .ok (.bl false) g := fun g => (w_isE e1 (by decide +kernel)).trans (by rw [show isSub "NoFiles" "NoFile" = false by decide +kernel])
  have q6 : ∀ g : Gr, opIsE exL exI (a, "NoFiles") "NoFiles" (.err "NoFiles" a) g = .ok (.bl true) g := fun g => (w_isE e1 (by decide +kernel)).trans (by rw [show isSub "NoFiles" "NoFiles" = true by decide +kernel])
  have q7 : ∀ g : Gr, opIsE exL exI (a, "NoFiles") "NoHouse" (.err "NoFiles" a) g = .ok (.bl false) g := fun g => (w_isE e1 (by decide +kernel)).trans (by rw [show isSub "NoFiles" "NoHouse" = false by decide +kernel])
  have q8 : ∀ g : Gr, opIsE exL exI (a, "NoFiles") "NoMark" (.err "NoFiles" a) g = .ok (.bl false) g := fun g => (w_isE e1 (by decide +kernel)).trans (by rw [show isSub "NoFiles" "NoMark" = false by decide +kernel])
  have q9 : ∀ g : Gr, opIsE exL exI (a, "NoFiles") "NoPlace" (.err "NoFiles" a) g = .ok (.bl false) g := fun g => (w_isE e1 (by decide +kernel)).trans (by rw [show isSub "NoFiles" "NoPlace" = false by decide +kernel])
  have q10 : ∀ g : Gr, opIsE exL exI (a, "NoFiles") "NoRoom" (.err "NoFiles" a) g = .ok (.bl false) g := fun g => (w_isE e1 (by decide +kernel)).trans (by rw [show isSub "NoFiles" "NoRoom" = false by decide +kernel])
  have q11 : ∀ g : Gr, opIsE exL exI (a, "NoFiles") "NoRow" (.err "NoFiles" a) g = .ok (.bl false) g := fun g => (w_isE e1 (by decide +kernel)).trans (by rw [show isSub "NoFiles" "NoRow" = false by decide +kernel])
  have q12 : ∀ g : Gr, opIsE exL exI (a, "NoFiles") "NotBlank" (.err "NoFiles" a) g = .ok (.bl false) g := fun g => (w_isE e1 (by decide +kernel)).trans (by rw [show isSub "NoFiles" "NotBlank" = false by decide +kernel])
  have q13 : ∀ g : Gr, opIsE exL exI (a, "NoFiles") "NotClosed" (.err "NoFiles" a) g = .ok (.bl false) g := fun g => (w_isE e1 (by decide +kernel)).trans (by rw [show isSub "NoFiles" "NotClosed" = false by decide +kernel])
  have q14 : ∀ g : Gr, opIsE exL exI (a, "NoFiles") "NotHeld" (.err "NoFiles" a) g = .ok (.bl false) g := fun g => (w_isE e1 (by decide +kernel)).trans (by rw [show isSub "NoFiles" "NotHeld" = false by decide +kernel])
  have q15 : ∀ g : Gr, opIsE exL exI (a, "NoFiles") "Stopped" (.err "NoFiles" a) g = .ok (.bl false) g := fun g => (w_isE e1 (by decide +kernel)).trans (by rw [show isSub "NoFiles" "Stopped" = false by decide +kernel])
  have q16 : ∀ g : Gr, opIsE exL exI (a, "NoFiles") "ValueError" (.err "NoFiles" a) g = .ok (.bl true) g := fun g => (w_isE e1 (by decide +kernel)).trans (by rw [show isSub "NoFiles" "ValueError" = true by decide +kernel])
  have ct : ∀ g, mCntB (.lst [.bl false, .bl false, .bl false, .bl false, .bl false, .bl false, .bl true, .bl false, .bl false, .bl false, .bl false, .bl false, .bl false, .bl false, .bl false, .bl false]) [.bl true] g = .ok (.int 1) g := fun g => rfl
  have ib : ∀ g, mIxB (.lst [.bl false, .bl false, .bl false, .bl false, .bl false, .bl false, .bl true, .bl false, .bl false, .bl false, .bl false, .bl false, .bl false, .bl false, .bl false, .bl false]) [.bl true] g = .ok (.int 6) g := fun g => rfl
  have tl : tyL (.lst [.bl false, .bl false, .bl false, .bl false, .bl false, .bl false, .bl true, .bl false, .bl false, .bl false, .bl false, .bl false, .bl false, .bl false, .bl false, .bl false]) g = true := rfl
  have ix : ∀ g, opIx (.lst [.str (tx [70, 117, 108, 108]), .str (tx [71, 111, 110, 101]), .str (tx [72, 101, 108, 100, 65, 108, 114, 101, 97, 100, 121]), .str (tx [78, 111, 68, 101, 101, 100]), .str (tx [78, 111, 68, 105, 115, 107]), .str (tx [78, 111, 70, 105, 108, 101]), .str (tx [78, 111, 70, 105, 108, 101, 115]), .str (tx [78, 111, 72, 111, 117, 115, 101]), .str (tx [78, 111, 77, 97, 114, 107]), .str (tx [78, 111, 80, 108, 97, 99, 101]), .str (tx [78, 111, 82, 111, 111, 109]), .str (tx [78, 111, 82, 111, 119]), .str (tx [78, 111, 116, 66, 108, 97, 110, 107]), .str (tx [78, 111, 116, 67, 108, 111, 115, 101, 100]), .str (tx [78, 111, 116, 72, 101, 108, 100]), .str (tx [83, 116, 111, 112, 112, 101, 100])]) (.int 6) g = .ok (.str (tx NoFilesT)) g := fun g => o_ixL (k := 6) rfl
  refine pure_ret0 rfl ?_ rfl
  generalize tx NoFilesT = zz at *
  simp! [b__law_refusalH, q0, q1, q2, q3, q4, q5, q6, q7, q8, q9, q10, q11, q12, q13, q14, q15, q16, tl, ct, ib, ix]
theorem qAll_okw {zs ws : List Tx} (T : Tw zs ws) {mm : List Fil} {kk : List Hld} (h : qAll ws = some (mm, kk)) : (Okw mm ∧ OkKw kk) ∧ GdM mm ∧ GdK kk ∧ ws = textL mm kk := by
  obtain ⟨h1, h2, h3⟩ := qAll_iff.mp h
  have hp : pAll ws = some ((mm, kk), []) := by rw [h3]; exact pAll_of h1 h2
  obtain ⟨p1, p2⟩ := pAll_q T.q hp
  have o1 := foldT_okw T.zl p1
  have o2 := foldK_okw T.zl p2 (inc_sorted h2.inc).2
  rw [foldT_self h1] at o1
  rw [foldK_self h2] at o2
  exact ⟨⟨o1, o2⟩, h1, h2, h3⟩
theorem Tw.wl {zs ws : List Tx} (T : Tw zs ws) : Wl ws := ⟨by have := T.q.1; omega, fun w hw => Nat.le_trans (mem_joinL hw) T.len⟩
def DueR (G : Gr) (r : R) : Option (List Fil × List Hld) → Prop
  | some p => ∃ (lm lk : Nat) (G' : Gr) (hs : Ho), r = .ok (.tup [.obj lm, .obj lk]) G' ∧ G'[lm]? = some (Cl.dic (mK p.1)) ∧ KtAt G' lk hs ∧ ko hs = p.2 ∧ Upd G G' 0 0
  | none => ∃ (G' : Gr), r = .ok .non G' ∧ Upd G G' 0 0
theorem ldue_ok {zs ws : List Tx} (T : Tw zs ws) (G : Gr) : DueR G (m__law_due [.str (tx (joinL 32 ws))] G) (qAll ws) := by
  have i0 : ∀ g, opIsT "str" (.str (tx (joinL 32 ws))) g = .ok (.bl true) g := fun g => rfl
  have sp : mSplit (.str (tx (joinL 32 ws))) [.str (tx [32])] G = .ok (WD ws) G := by
    rw [Fw.v_splT (by have := T.len; omega), splitL_join T.ne T.free]
  have lm := lmodel_ok T.wl 0 (Nat.zero_le _) G
  rw [show ((0 : Nat) : Int) = 0 from rfl, List.drop_zero] at lm
  have kp := fun (j : Nat) (h : j ≤ ws.length) (g : Gr) => lkept_ok T.wl j h g
  generalize tx (joinL 32 ws) = ts at *
  unfold qAll
  cases hm : qModel ws with
  | none =>
    rw [hm] at lm
    obtain ⟨j, G1, e1, u1⟩ := lm
    refine ⟨G1, fn_ret rfl ?_, u1⟩
    generalize WD ws = wd at *
    simp! [b__law_due, i0, sp, e1]
  | some p =>
    rw [hm] at lm
    obtain ⟨mm, r⟩ := p
    obtain ⟨j, G1, e1, c1, ⟨hj, rfl⟩, u1⟩ := lm
    have k1 := kp j hj G1
    have isO : ∀ (l : Nat) (g : Gr), opIsN (.obj l) .non g = .ok (.bl false) g := fun _ _ => rfl
    rw [Option.bind_some]
    simp only at c1 ⊢
    cases hk : qKept (ws.drop j) with
    | none =>
      rw [hk] at k1
      obtain ⟨G2, e2, u2⟩ := k1
      refine ⟨G2, fn_ret rfl ?_, u1.trans u2⟩
      generalize WD ws = wd at *
      simp! [b__law_due, i0, sp, e1, isO, e2]
    | some kk =>
      rw [hk] at k1
      obtain ⟨G2, hs, e2, K, ek, oo, u2⟩ := k1
      refine ⟨G.length, G1.length, G2, hs, fn_ret rfl ?_, u2.at c1 (.inr (Nat.zero_le _)), K, ek, u1.trans u2⟩
      generalize WD ws = wd at *
      simp! [b__law_due, i0, sp, e1, isO, e2]
section
variable {G : Gr} {lf lb lh : Nat} {hs : Ho} {l : List Fil}
theorem lrows_ok (h : FlAt G lf lb lh l hs) (o : Okw l) (gd : GdM l) : ∃ G', m__law_rows [.obj lf] G = .ok (.obj G.length) G' ∧ G'[G.length]? = some (Cl.dic (mK l)) ∧ Upd G G' 0 0 := by
  obtain ⟨s1, s2⟩ := inc_sorted gd.inc
  have ol := o.len
  have u0 : Upd G (G ++ [Cl.dic []]) 0 0 := Upd.app
  have F0 := h.frame u0 (.inr (Nat.zero_le _)) (.inr (Nat.zero_le _)) (.inr (Nat.zero_le _)) Out.zero
  obtain ⟨G1, e1, c1, u1⟩ := names_told F0 (by omega)
  have c1' : G1[(G ++ [Cl.dic []]).length]? = some (Cl.lst ((keys l).map fun z => D.str (tx z))) := by
    have : srtT (keys l) = keys l := s1
    rw [← this, ← srtA_T]; exact c1
  have hx : (G ++ [Cl.dic []]).length = G.length + 1 := by simp
  have d0 : G1[G.length]? = some (Cl.dic (mK (l.take 0))) := u1.at (by simp [gK]) (.inr (Nat.zero_le _))
  have mn := fun f as ρ => F0.m "names" f as ρ rfl
  rw [hx] at e1 c1'
  have ia := iA_of c1'
  have u01 := u0.trans u1
  have F1 := h.frame u01 (.inr (Nat.zero_le _)) (.inr (Nat.zero_le _)) (.inr (Nat.zero_le _)) Out.zero
  suffices key : ∃ G', b__law_rows (([.obj lf] : List D).map some ++ List.replicate (4 - 1) none) G = .ret (.obj G.length) G' ∧ G'[G.length]? = some (Cl.dic (mK l)) ∧ Upd G G' 0 0 by
    obtain ⟨G', q1, q2⟩ := key
    exact ⟨G', fn_ret rfl q1, q2⟩
  have lfl : lf < G.length := (List.getElem?_eq_some_iff.mp h.f).1
  have lbl : lb < G.length := (List.getElem?_eq_some_iff.mp h.b).1
  have lhl : lh < G.length := (List.getElem?_eq_some_iff.mp h.h.d).1
  simp! [b__law_rows, mn, e1, ia]
  refine loop_then (K := fun s => ∃ G', fSeq _ s = .ret (.obj G.length) G' ∧ G'[G.length]? = some (Cl.dic (mK l)) ∧ Upd G G' 0 0) (fun i ρ g' => ∃ (t2 t3 : Option D), ρ = [some (.obj lf), some (.obj G.length), t2, t3] ∧ g'[G.length]? = some (Cl.dic (mK (l.take i))) ∧ g'[G.length + 1]? = some (Cl.lst ((keys l).map fun z => D.str (tx z))) ∧ Upd G g' 0 0) ⟨none, none, rfl, d0, c1', u01⟩ (fun n ρ g' hh => by obtain ⟨_, _, _, _, c, _⟩ := hh; exact viewL_of c) ?_ ?_
  · rintro i ρ g' d hd ⟨t2, t3, rfl, c, cn, u⟩
    rw [List.getElem?_map, List.getElem?_map, Option.map_map] at hd
    obtain ⟨p, hp', rfl⟩ := Option.map_eq_some_iff.mp hd
    obtain ⟨hi, rfl⟩ := List.getElem?_eq_some_iff.mp hp'
    have hpm : l[i] ∈ l := List.getElem_mem hi
    have et : l.take (i + 1) = l.take i ++ [l[i]] := List.take_succ_eq_append_getElem hi
    have nz : mGet (l.take i) l[i].1 = none := by
      refine mGet_none.mpr fun hm => ?_
      have nd2 : ((l.take (i + 1)).map (·.1)).Nodup := by rw [List.map_take]; exact s2.sublist (List.take_sublist ..)
      rw [et, List.map_append, List.nodup_append] at nd2
      exact nd2.2.2 _ hm _ (by simp) rfl
    have ltk : (l.take i).length ≤ 40 := by rw [List.length_take]; omega
    have rr := o.row _ hpm
    have eg : mGet l l[i].1 = some l[i].2 := mGet_mem s2 hpm
    rw [et]
    generalize l.take i = pre at *
    generalize l[i] = q at *
    obtain ⟨z, row⟩ := q
    simp only at nz rr eg
    have F := h.frame u (.inr (Nat.zero_le _)) (.inr (Nat.zero_le _)) (.inr (Nat.zero_le _)) Out.zero
    have mm := fun f as ρ => F.m "many" f as ρ rfl
    have mb := fun f as ρ => F.m "birth" f as ρ rfl
    have mo := many_ok F z
    rw [show rw_ l z = row by show (mGet l z).getD [] = row; rw [eg]; rfl] at mo
    have rg := Fw.v_rng1 (g := g') (i := (row.length : Int)) (by omega)
    rw [Int.toNat_natCast] at rg
    have lc : lcLoop kpT (gVar 3) eYes (eMeth ["Files"] "birth" m_Files_birth (eVar 0) (aCons (eVar 2) (aCons (eVar 3) aNil))) [some (.obj lf), some (.obj G.length), some (.str (tx z)), none] finF (rangeD 0 row.length) [] g' = .ok (li row) g' := by
      have e : rangeD 0 row.length = (List.range row.length).map fun i => D.int (0 + (i : Nat)) := rfl
      rw [e, lc_of (fun i : Nat => D.int (row.getD i 0)) trivial (fun i hi => ?_) (by rw [List.length_range]; omega), row_all]
      have hi := List.mem_range.mp hi
      have bi := birth_in F eg i hi
      have eg2 : row.getD i 0 = row[i] := by rw [List.getD_eq_getElem?_getD, List.getElem?_eq_getElem hi]; rfl
      rw [eg2]
      rw [Int.zero_add]
      simp! [mb, bi]
    have pt := fun ρ => dput_of (d := li row) (ρ := ρ) c (keyS z) (by rw [mK_len]; omega)
    rw [dPut_mK, mPut_new nz] at pt
    have us : Upd g' (g'.set G.length (.dic (mK (pre ++ [(z, row)])))) G.length (G.length + 1) := Upd.set (by omega)
    show S.go _ (fTurn _ (gVar 2 (D.str (tx z)) _ _))
    generalize li row = rowD at *
    simp! [mm, mo, rg, lc, pt]
    exact ⟨_, _, rfl, set_at c, us.at cn (.inr (by omega)), u.old us (Nat.le_refl _)⟩
  · rintro ρ' g' ⟨t2, t3, rfl, c, cn, u⟩
    rw [List.length_map, List.length_map, List.take_length] at c
    refine ⟨g', ?_, c, u⟩
    simp! []
end
end Ww

set_option maxRecDepth 100000
set_option maxHeartbeats 4000000
namespace Ww
open PySem PySem.Spec PyProof.Rows Fw
theorem prs_gK {α : Type} (f : α → D) : ∀ ms : As α, prsD (ms.map fun p => .tup [.str (tx p.1), f p.2]) = some (gK f ms)
  | [] => rfl
  | p :: ms => by
    rw [List.map_cons]
    unfold prsD
    rw [prs_gK f ms]
    rfl
theorem mrg_gK {α : Type} (f : α → D) : ∀ (ms a : As α), (keys (a ++ ms)).Nodup → mrgD (gK f a) (gK f ms) = gK f (a ++ ms)
  | [], a, _ => by rw [List.append_nil]; rfl
  | p :: ms, a, nd => by
    have hn : mGet a p.1 = none := by
      rw [mGet_none]
      intro hm
      unfold keys at nd
      rw [List.map_append, List.nodup_append] at nd
      exact nd.2.2 p.1 hm p.1 (by simp) rfl
    show mrgD (dPut (gK f a) (.inr (tx p.1)) (f p.2)) (gK f ms) = _
    rw [dPut_gK, mPut_new hn, mrg_gK f ms (a ++ [(p.1, p.2)]) (by rw [List.append_assoc]; exact nd), List.append_assoc]
    rfl
theorem dicP_gK {α : Type} {f : α → D} {ms : As α} (nd : (keys ms).Nodup) (g : Gr) : fDicP [.lst (ms.map fun p => .tup [.str (tx p.1), f p.2])] g = .ok (.obj g.length) (g ++ [Cl.dic (gK f ms)]) := by
  rw [dicP_of (prs_gK f ms)]
  have := mrg_gK f ms [] nd
  rw [List.nil_append] at this
  rw [show (mrgD [] (gK f ms)) = gK f ms from this]
theorem lcConsK {kp : Gr → Prop} {t : Tg} {c e : Exp} {ρ : En} {fin : List D → Gr → R} {ds acc : List D} {g : Gr} {d : D} (hk : kp g) (h : acc.length < 8388608) : lcLoop kp t c e ρ fin (d :: ds) acc g = fLcT kp t c e ρ fin ds acc (t d ρ g) := by
  rw [lcLoop]
  rw [if_pos ⟨hk, Nat.lt_of_lt_of_le h sizeLine_big⟩]
  cases t d ρ g with
  | none => rfl
  | some p =>
    obtain ⟨ρ1, g1⟩ := p
    show (match c ρ1 g1 with | .ok x g2 => _ | _ => _) = fLcC kp t c e ρ fin ds acc ρ1 (c ρ1 g1)
    cases c ρ1 g1 with
    | ok x g2 =>
      show x.br (match e ρ1 g2 with | .ok y g3 => _ | _ => _) _ = x.br (fLcE kp t c e ρ fin ds acc (e ρ1 g2)) _
      cases e ρ1 g2 <;> rfl
    | _ => rfl

section
variable {G : Gr} {lf lb lh : Nat} {mm : Mo} {hs : Ho}
theorem held_lc (h : FlAt G lf lb lh mm hs) (o1 : Out lf (lf + 1) hs) (o2 : Out lh (lh + 1) hs) {kp : Gr → Prop} (kpu : ∀ g, Upd G g 0 0 → kp g) (t0 t1 t3 : Option D) :
    ∀ (ys : List Hld) (acc : Ho) (g : Gr), Upd G g 0 0 → (∀ p ∈ acc, g[p.2.1]? = some (Cl.dic (mK p.2.2))) → (∀ q ∈ ys, mGet (ko hs) q.1 = some q.2 ∧ Okw q.2 ∧ GdM q.2) → acc.length + ys.length ≤ 1000 →
      ∃ (hs' : Ho) (g' : Gr), lcLoop kp (gVar 4) eYes (eArgs fTup (aCons (eVar 4) (aCons (eArgs m__law_rows (aCons (eMeth ["Files"] "of_held" m_Files_of_held (eVar 2) (aCons (eVar 4) aNil)) aNil)) aNil))) [t0, t1, some (.obj lf), t3, none] finF (ys.map fun q => .str (tx q.1)) (acc.map fun p => .tup [.str (tx p.1), .obj p.2.1]) g = .ok (.lst (hs'.map fun p => .tup [.str (tx p.1), .obj p.2.1])) g' ∧ ko hs' = ko acc ++ ys ∧ (∀ p ∈ hs', g'[p.2.1]? = some (Cl.dic (mK p.2.2))) ∧ Upd G g' 0 0
  | [], acc, g, u, ha, _, _ => ⟨acc, g, by rw [List.map_nil, lcLoop, if_pos (kpu g u)]; rfl, (List.append_nil _).symm, ha, u⟩
  | (z, l) :: ys, acc, g, u, ha, hy, hz => by
    obtain ⟨gm, ow, gd⟩ := hy _ List.mem_cons_self
    simp only at gm ow gd
    obtain ⟨c, hg⟩ := ko_some gm
    have hmem := mGet_some hg
    have F := h.frame u (.inr (Nat.zero_le _)) (.inr (Nat.zero_le _)) (.inr (Nat.zero_le _)) Out.zero
    have nf : c ≠ lf := by have := o1 _ hmem; simp only at this; omega
    have nh : c ≠ lh := by have := o2 _ hmem; simp only at this; omega
    obtain ⟨gb, e5, F5, u5, l5⟩ := of_held_ok F hg nf nh (zs := keys l) (B := 800) ⟨ow.nd, fun z h => h, fun p hp => (ow.row p hp).2, fun p hp q => by have := (ow.row p hp).1; rw [q] at this; simp at this⟩ (by omega) (by have := ow.len; rw [List.length_map]; omega)
    change FlAt gb g.length (g.length + 1) (g.length + 2) l [] at F5
    obtain ⟨gc, e6, c6, u6⟩ := lrows_ok F5 ow gd
    have u56 := u5.trans u6
    have mo := fun f as ρ => F.m "of_held" f as ρ rfl
    obtain ⟨hs', g', e7, k7, c7, u7⟩ := held_lc h o1 o2 kpu t0 t1 t3 ys (acc ++ [(z, (gb.length, l))]) gc (u.trans u56) (fun p hp => by
      rcases List.mem_append.mp hp with hp | hp
      · exact u56.at (ha p hp) (.inr (Nat.zero_le _))
      · rw [List.mem_singleton.mp hp]; exact c6) (fun q hq => hy q (List.mem_cons_of_mem _ hq)) (by rw [List.length_append, List.length_singleton]; rw [List.length_cons] at hz; omega)
    refine ⟨hs', g', ?_, ?_, c7, u7⟩
    · rw [List.map_cons, lcConsK (kpu g u) (by rw [List.length_map]; rw [List.length_cons] at hz; omega)]
      rw [List.map_append] at e7
      rw [← e7]
      show fLcE kp (gVar 4) eYes _ _ finF _ _ (eArgs fTup (aCons (eVar 4) (aCons (eArgs m__law_rows (aCons (eMeth ["Files"] "of_held" m_Files_of_held (eVar 2) (aCons (eVar 4) aNil)) aNil)) aNil)) [t0, t1, some (.obj lf), t3, some (.str (tx z))] g) = _
      have ee : eArgs fTup (aCons (eVar 4) (aCons (eArgs m__law_rows (aCons (eMeth ["Files"] "of_held" m_Files_of_held (eVar 2) (aCons (eVar 4) aNil)) aNil)) aNil)) [t0, t1, some (.obj lf), t3, some (.str (tx z))] g = .ok (.tup [.str (tx z), .obj gb.length]) gc := by
        simp! [mo, e5, e6]
      rw [ee]
      rfl
    · rw [k7]
      unfold ko
      rw [List.map_append, List.append_assoc]
      rfl
end
theorem ltold_ok {zs ws : List Tx} (T : Tw zs ws) (G : Gr) : DueR G (m__law_told [.str (tx (joinL 32 ws))] G) (qAll ws) := by
  have rd := readf_all T G
  cases hq : qAll ws with
  | none =>
    rw [hq] at rd
    obtain ⟨G1, e1, u1⟩ := rd
    have x1 : ("NoFiles" : Str) ∈ exL := by decide +kernel
    have x2 : ("CleanError" : Str) ∈ exC := by decide +kernel
    have x3 : isSub "NoFiles" "CleanError" = true := by decide +kernel
    have eqn : ∀ g, opEq (.str (tx NoFilesT)) (.str (tx [78, 111, 70, 105, 108, 101, 115])) g = .ok (.bl true) g := fun g => eqTx NoFilesT NoFilesT g
    refine ⟨G1, fn_ret rfl ?_, u1⟩
    generalize tx (joinL 32 ws) = ts at *
    simp! [b__law_told, e1, x1, x2, x3, refn_NoFiles, eqn]
  | some p =>
    obtain ⟨mm, kk⟩ := p
    obtain ⟨⟨ow, okw⟩, gd, gk, _⟩ := qAll_okw T hq
    rw [hq] at rd
    obtain ⟨n, G1, hs, e1, F1, ek, oo, ln, u1⟩ := rd
    obtain ⟨G2, e2, c2, u2⟩ := lrows_ok F1 ow gd
    have F2 := F1.frame u2 (.inr (Nat.zero_le _)) (.inr (Nat.zero_le _)) (.inr (Nat.zero_le _)) Out.zero
    have hsl : hs.length ≤ 21 := by have := okw.len; rw [← ek, ko_len] at this; exact this
    obtain ⟨G3, e3, c3, u3⟩ := held_told F2 (by omega)
    have F3 := F2.frame u3 (.inr (Nat.zero_le _)) (.inr (Nat.zero_le _)) (.inr (Nat.zero_le _)) Out.zero
    have sk : srtT (keys kk) = hkeys kk := (inc_sorted gk.inc).1
    have c3' : G3[G2.length]? = some (Cl.lst (kk.map fun q => D.str (tx q.1))) := by
      rw [srtA_T, ek, sk, List.map_map] at c3
      exact c3
    have ia := iA_of c3'
    have mh := fun f as ρ => F2.m "held" f as ρ rfl
    obtain ⟨hs', G4, e4, k4, c4, u4⟩ := held_lc F3 (fun p hp => by have := oo p hp; omega) (fun p hp => by have := oo p hp; omega) (kp := kpL (.obj G2.length) (kk.map fun q => D.str (tx q.1))) (fun g u => viewL_of (u.at c3' (.inr (Nat.zero_le _)))) (some (.str (tx (joinL 32 ws)))) (some .non) none kk [] G3 (Upd.refl ..) (fun p hp => (by cases hp)) (fun q hq => ⟨by rw [ek]; exact mGet_mem (inc_sorted gk.inc).2 hq, okw.m _ hq, (gk.gd q hq).2⟩) (by have := okw.len; rw [List.length_nil]; omega)
    have k4 : ko hs' = kk := k4
    have ndk : (keys hs').Nodup := by rw [← ko_keys', k4]; exact (inc_sorted gk.inc).2
    have dp := dicP_gK (f := fun q : Nat × Mo => D.obj q.1) ndk G4
    have u5 : Upd G4 (G4 ++ [Cl.dic (hK hs')]) 0 0 := Upd.app
    have u14 := ((u1.trans u2).trans u3).trans u4
    refine ⟨G1.length, G4.length, G4 ++ [Cl.dic (hK hs')], hs', fn_ret rfl ?_, u5.at (u4.at (u3.at c2 (.inr (Nat.zero_le _))) (.inr (Nat.zero_le _))) (.inr (Nat.zero_le _)), ⟨by simp, fun p hp => u5.at (c4 p hp) (.inr (Nat.zero_le _))⟩, k4, u14.trans u5⟩
    rw [List.map_nil] at e4
    generalize tx (joinL 32 ws) = ts at *
    simp! [b__law_told, e1, e2, mh, e3, ia, e4, dp]
end Ww

set_option maxRecDepth 100000
set_option maxHeartbeats 4000000
namespace Ww
open PySem PySem.Spec PyProof.Rows Fw
def glue : List Tx → List Tx → List Tx
  | [], B => B
  | [p], [] => [p]
  | [p], q :: r => (p ++ q) :: r
  | p :: q :: r, B => p :: glue (q :: r) B
theorem splitL_ne (c : Nat) : ∀ l : List Nat, splitL c l ≠ []
  | [] => by simp [splitL]
  | a :: l => by
    unfold splitL
    split
    · simp
    · split <;> simp
theorem split_app (c : Nat) (b : List Nat) : ∀ a : List Nat, splitL c (a ++ b) = glue (splitL c a) (splitL c b)
  | [] => by
    rw [List.nil_append]
    show splitL c b = glue [[]] (splitL c b)
    cases h : splitL c b with
    | nil => exact absurd h (splitL_ne c b)
    | cons q r => rfl
  | x :: a => by
    have ih := split_app c b a
    have e1 : splitL c (x :: (a ++ b)) = if x = c then [] :: splitL c (a ++ b) else (match splitL c (a ++ b) with | p :: r => (x :: p) :: r | [] => [[x]]) := rfl
    have e2 : splitL c (x :: a) = if x = c then [] :: splitL c a else (match splitL c a with | p :: r => (x :: p) :: r | [] => [[x]]) := rfl
    rw [List.cons_append, e1, e2, ih]
    by_cases h : x = c
    · rw [if_pos h, if_pos h]
      cases ha : splitL c a with
      | nil => exact absurd ha (splitL_ne c a)
      | cons p r => rfl
    · rw [if_neg h, if_neg h]
      cases ha : splitL c a with
      | nil => exact absurd ha (splitL_ne c a)
      | cons p r =>
        cases r with
        | cons q r => rfl
        | nil =>
          cases hb : splitL c b with
          | nil => exact absurd hb (splitL_ne c b)
          | cons q r => rfl
theorem split_free (c : Nat) : ∀ (l : List Nat), ∀ w ∈ splitL c l, c ∉ w
  | [], w, h => by
    have : w = [] := by simpa [splitL] using h
    rw [this]; simp
  | a :: l, w, h => by
    have ih := split_free c l
    have e2 : splitL c (a :: l) = if a = c then [] :: splitL c l else (match splitL c l with | p :: r => (a :: p) :: r | [] => [[a]]) := rfl
    rw [e2] at h
    by_cases q : a = c
    · rw [if_pos q] at h
      rcases List.mem_cons.mp h with rfl | h
      · simp
      · exact ih w h
    · rw [if_neg q] at h
      cases hs : splitL c l with
      | nil => exact absurd hs (splitL_ne c l)
      | cons p r =>
        rw [hs] at h ih
        rcases List.mem_cons.mp h with rfl | h
        · intro m
          rcases List.mem_cons.mp m with m | m
          · exact q m.symm
          · exact ih p List.mem_cons_self m
        · exact ih w (List.mem_cons_of_mem _ h)
theorem join_split (c : Nat) : ∀ l : List Nat, joinL c (splitL c l) = l
  | [] => rfl
  | a :: l => by
    have ih := join_split c l
    have e2 : splitL c (a :: l) = if a = c then [] :: splitL c l else (match splitL c l with | p :: r => (a :: p) :: r | [] => [[a]]) := rfl
    rw [e2]
    cases hs : splitL c l with
    | nil => exact absurd hs (splitL_ne c l)
    | cons p r =>
      rw [hs] at ih
      by_cases q : a = c
      · rw [if_pos q]
        show [] ++ c :: joinL c (p :: r) = a :: l
        rw [ih, q]; rfl
      · rw [if_neg q]
        show joinL c ((a :: p) :: r) = a :: l
        cases r with
        | nil => rw [← ih]; rfl
        | cons q' r => rw [← ih]; rfl
theorem glue_len : ∀ (A : List Tx) {B : List Tx}, A ≠ [] → B ≠ [] → (glue A B).length + 1 = A.length + B.length
  | [], _, h, _ => absurd rfl h
  | [p], [], _, h => absurd rfl h
  | [p], q :: r, _, _ => by show r.length + 1 + 1 = 0 + 1 + (r.length + 1); omega
  | p :: q :: r, B, _, h => by
    have := glue_len (q :: r) (B := B) (by simp) h
    show (glue (q :: r) B).length + 1 + 1 = (q :: r).length + 1 + B.length
    omega
theorem glue_mem : ∀ (A : List Tx) {B : List Tx} {w : Tx}, A ≠ [] → B ≠ [] → w ∈ glue A B → w ∈ A.dropLast ∨ w ∈ B.tail ∨ w = A.getLastD [] ++ B.headD []
  | [], _, _, h, _, _ => absurd rfl h
  | [p], [], _, _, h, _ => absurd rfl h
  | [p], q :: r, w, _, _, h => by
    rcases List.mem_cons.mp h with h | h
    · exact .inr (.inr h)
    · exact .inr (.inl h)
  | p :: q :: r, B, w, _, hb, h => by
    have h : w ∈ p :: glue (q :: r) B := h
    rcases List.mem_cons.mp h with rfl | h
    · exact .inl (by simp)
    · rcases glue_mem (q :: r) (by simp) hb h with h | h | h
      · exact .inl (by rw [List.dropLast_cons_of_ne_nil (by simp)]; exact List.mem_cons_of_mem _ h)
      · exact .inr (.inl h)
      · exact .inr (.inr (by rw [h]; simp [List.getLastD_cons]))
theorem mem_glue_l : ∀ (A : List Tx) {B : List Tx} {w : Tx}, B ≠ [] → w ∈ A.dropLast → w ∈ glue A B
  | [], _, _, _, h => by cases h
  | [p], _, _, _, h => by cases h
  | p :: q :: r, B, w, hb, h => by
    rw [List.dropLast_cons_of_ne_nil (by simp)] at h
    show w ∈ p :: glue (q :: r) B
    rcases List.mem_cons.mp h with rfl | h
    · exact List.mem_cons_self
    · exact List.mem_cons_of_mem _ (mem_glue_l (q :: r) hb h)
theorem mem_glue_r : ∀ (A : List Tx) {B : List Tx} {w : Tx}, w ∈ B.tail → w ∈ glue A B
  | [], B, w, h => List.mem_of_mem_tail h
  | [p], [], w, h => by cases h
  | [p], q :: r, w, h => List.mem_cons_of_mem _ h
  | p :: q :: r, B, w, h => by
    show w ∈ p :: glue (q :: r) B
    exact List.mem_cons_of_mem _ (mem_glue_r (q :: r) h)
structure Sp (N Z L : Nat) (t : Tx) : Prop where
  cnt : (splitL 32 t).length ≤ N
  nms : ∃ zs : List Tx, zs.length ≤ Z ∧ ∀ w ∈ splitL 32 t, Nme w → w ∈ zs
  len : t.length ≤ L
theorem Sp.tw {N Z L : Nat} {t : Tx} (h : Sp N Z L t) (h1 : N ≤ 800) (h2 : Z ≤ 21) (h3 : L ≤ 1000000) : ∃ zs, Tw zs (splitL 32 t) := by
  obtain ⟨zs, z1, z2⟩ := h.nms
  exact ⟨zs, splitL_ne _ _, split_free _ _, ⟨Nat.le_trans h.cnt h1, z2⟩, Nat.le_trans z1 h2, by rw [join_split]; exact Nat.le_trans h.len h3⟩
theorem joinL_len' : ∀ (ws : List Tx), ws ≠ [] → (joinL 32 ws).length + 1 = lenW ws + ws.length
  | [], h => absurd rfl h
  | [p], _ => by simp [joinL, lenW]
  | p :: q :: r, _ => by
    have ih := joinL_len' (q :: r) (by simp)
    rw [joinL, List.length_append, List.length_cons, lenW_cons, List.length_cons]
    omega
theorem sp_join {N Z L : Nat} {vs : List Tx} (hf : ∀ w ∈ vs, 32 ∉ w) (hN : vs.length ≤ N) (h1 : 1 ≤ N) {zs : List Tx} (hz : zs.length ≤ Z) (hm : ∀ w ∈ vs, Nme w → w ∈ zs) (hL : lenW vs + vs.length ≤ L) : Sp N Z L (joinL 32 vs) := by
  by_cases h0 : vs = []
  · subst h0
    refine ⟨h1, ⟨zs, hz, fun w hw hn => ?_⟩, by show 0 ≤ L; omega⟩
    have : w = [] := by simpa [joinL, splitL] using hw
    rw [this] at hn
    exact absurd hn.1 (by simp)
  · have e := splitL_join h0 hf
    refine ⟨by rw [e]; exact hN, ⟨zs, hz, fun w hw hn => hm w (by rw [e] at hw; exact hw) hn⟩, ?_⟩
    have := joinL_len' vs h0
    omega
theorem sp_signs {N Z L : Nat} {a x b c : Tx} (h : Sp N Z L (a ++ x ++ b)) (hx : x.length ≤ 1) (hc : c.length ≤ 1) : Sp (N + 1) (Z + 2) (L + 1) (a ++ c ++ b) := by
  obtain ⟨zs, z1, z2⟩ := h.nms
  have hn := h.cnt
  have hl := h.len
  have one : ∀ y : Tx, y.length ≤ 1 → splitL 32 y = [y] ∨ splitL 32 y = [[], []] := by
    intro y hy
    cases y with
    | nil => exact .inl rfl
    | cons v r =>
      have : r = [] := List.length_eq_zero_iff.mp (by simp only [List.length_cons] at hy; omega)
      subst this
      by_cases q : v = 32
      · subst q; exact .inr rfl
      · exact .inl (splitL_one (by simpa using fun e => q e.symm))
  have nA := splitL_ne 32 a
  have nB := splitL_ne 32 b
  rw [List.append_assoc, split_app, split_app] at hn z2
  generalize hA : splitL 32 a = A at *
  generalize hB : splitL 32 b = B at *
  have gx : glue (splitL 32 x) B ≠ [] ∧ B.length ≤ (glue (splitL 32 x) B).length ∧ ∀ w ∈ B.tail, w ∈ (glue (splitL 32 x) B).tail := by
    rcases one x hx with e | e
    · rw [e]
      cases B with
      | nil => exact absurd rfl nB
      | cons q r => exact ⟨by simp [glue], by simp [glue], fun w hw => hw⟩
    · rw [e]
      cases B with
      | nil => exact absurd rfl nB
      | cons q r => exact ⟨by simp [glue], by simp [glue], fun w hw => List.mem_cons_of_mem _ hw⟩
  have gl := glue_len A nA gx.1
  have inA : ∀ w ∈ A.dropLast, Nme w → w ∈ zs := fun w hw q => z2 w (mem_glue_l A gx.1 hw) q
  have inB : ∀ w ∈ B.tail, Nme w → w ∈ zs := fun w hw q => z2 w (mem_glue_r A (gx.2.2 w hw)) q
  have e2 : splitL 32 (a ++ c ++ b) = glue A (glue (splitL 32 c) B) := by rw [List.append_assoc, split_app, split_app, hA, hB]
  refine ⟨?_, ?_, ?_⟩
  · rw [e2]
    have g2 := gx.2.1
    rcases one c hc with e | e
    · rw [e]
      cases B with
      | nil => exact absurd rfl nB
      | cons q r =>
        have := glue_len A nA (B := glue [c] (q :: r)) (by simp [glue])
        have h3 : (glue [c] (q :: r)).length = (q :: r).length := rfl
        omega
    · rw [e]
      cases B with
      | nil => exact absurd rfl nB
      | cons q r =>
        have := glue_len A nA (B := glue [[], []] (q :: r)) (by simp [glue])
        have h3 : (glue [[], []] (q :: r)).length = (q :: r).length + 1 := rfl
        omega
  · rcases one c hc with e | e
    · refine ⟨(A.getLastD [] ++ (glue [c] B).headD []) :: [] ++ zs, by simp; omega, fun w hw q => ?_⟩
      rw [e2, e] at hw
      cases B with
      | nil => exact absurd rfl nB
      | cons y r =>
        rcases glue_mem A nA (by simp [glue]) hw with k | k | k
        · exact List.mem_cons_of_mem _ (inA w k q)
        · exact List.mem_cons_of_mem _ (inB w k q)
        · rw [k]; exact List.mem_cons_self
    · refine ⟨A.getLastD [] :: B.headD [] :: zs, by simp only [List.length_cons]; omega, fun w hw q => ?_⟩
      rw [e2, e] at hw
      cases B with
      | nil => exact absurd rfl nB
      | cons y r =>
        rcases glue_mem A nA (by simp [glue]) hw with k | k | k
        · exact List.mem_cons_of_mem _ (List.mem_cons_of_mem _ (inA w k q))
        · have k : w ∈ ([] ++ y) :: r := k
          rcases List.mem_cons.mp k with k | k
          · rw [k]; exact List.mem_cons_of_mem _ List.mem_cons_self
          · exact List.mem_cons_of_mem _ (List.mem_cons_of_mem _ (inB w k q))
        · have k : w = A.getLastD [] ++ [] := k
          rw [k, List.append_nil]; exact List.mem_cons_self
  · rw [List.length_append, List.length_append] at hl ⊢
    omega
end Ww

set_option maxRecDepth 100000
set_option maxHeartbeats 4000000
namespace Ww
open PySem PySem.Spec PyProof.Rows Fw
def wsD (ws : List Tx) : D := .lst (ws.map fun p => .str (tx p))
theorem lenW_le {ws : List Tx} {a : Nat} : lenW (ws.take a) ≤ lenW ws ∧ lenW (ws.drop a) ≤ lenW ws ∧ lenW (ws.take a) + lenW (ws.drop a) = lenW ws := by
  have e : lenW (ws.take a) + lenW (ws.drop a) = lenW ws := by
    rw [← lenW_app, List.take_append_drop]
  omega
theorem lenW_at {ws : List Tx} {a : Nat} {w : Tx} (h : ws[a]? = some w) : w.length ≤ lenW ws := by
  have hm := List.mem_of_getElem? h
  obtain ⟨p, q, rfl⟩ := List.append_of_mem hm
  simp [lenW]
  omega
theorem lenW_set {ws : List Tx} {a : Nat} {w : Tx} : lenW (ws.set a w) ≤ lenW ws + w.length := by
  by_cases h : a < ws.length
  · rw [List.set_eq_take_append_cons_drop, if_pos h]
    have h1 := (lenW_le (ws := ws) (a := a)).2.2
    have h2 : lenW (ws.drop (a + 1)) ≤ lenW (ws.drop a) := by
      have : ws.drop (a + 1) = (ws.drop a).drop 1 := by rw [List.drop_drop]
      rw [this]
      exact (lenW_le (ws := ws.drop a) (a := 1)).2.1
    simp only [lenW, List.map_append, List.sum_append, List.map_cons, List.sum_cons] at h1 h2 ⊢
    omega
  · rw [List.set_eq_of_length_le (by omega)]; omega
theorem cut_cellTo {g : Gr} {l : Nat} {ws : List Tx} (h : g[l]? = some (Cl.lst (ws.map fun p => .str (tx p)))) (k : Nat) : cutOp none (some (k : Int)) (.obj l) g = .ok (wsD (ws.take k)) g := by
  have e : cutOp none (some (k : Int)) (.obj l) g = cutOp none (some (k : Int)) (.lst (ws.map fun p => .str (tx p))) g := by
    unfold cutOp
    simp only [viewL_of h]
    rfl
  rw [e, Fw.v_cutLTo (by omega), Int.toNat_natCast, ← List.map_take]; rfl
theorem cut_cellFrom {g : Gr} {l : Nat} {ws : List Tx} (h : g[l]? = some (Cl.lst (ws.map fun p => .str (tx p)))) (k : Nat) : cutOp (some (k : Int)) none (.obj l) g = .ok (wsD (ws.drop k)) g := by
  have e : cutOp (some (k : Int)) none (.obj l) g = cutOp (some (k : Int)) none (.lst (ws.map fun p => .str (tx p))) g := by
    unfold cutOp
    simp only [viewL_of h]
    rfl
  rw [e, Fw.v_cutLFrom (by omega), Int.toNat_natCast, ← List.map_drop]; rfl
theorem add_ws {a b : List Tx} (h : a.length + b.length ≤ 8000000) (g : Gr) : opAdd (wsD a) (wsD b) g = .ok (wsD (a ++ b)) g := by
  show opAdd (.lst (a.map fun p => .str (tx p))) (.lst (b.map fun p => .str (tx p))) g = _
  rw [Fw.v_appL (by simp only [List.length_map]; omega), ← List.map_append]; rfl
theorem join_ws {c : Nat} {ws : List Tx} (h : lenW ws + ws.length ≤ 8000000) (g : Gr) : mJoin (.str (tx [c])) [wsD ws] g = .ok (.str (tx (joinL c ws))) g := Fw.v_joinC (by show lenW ws + ws.length ≤ _; omega)
theorem join_cellc {c : Nat} {g : Gr} {l : Nat} {ws : List Tx} (h : g[l]? = some (Cl.lst (ws.map fun p => .str (tx p)))) (hb : lenW ws + ws.length ≤ 8000000) : mJoin (.str (tx [c])) [.obj l] g = .ok (.str (tx (joinL c ws))) g := by
  have e : mJoin (.str (tx [c])) [.obj l] g = mJoin (.str (tx [c])) [wsD ws] g := by
    have e1 : viewA g (.obj l) = some (ws.map fun p => .str (tx p)) := viewL_of h
    have e2 : viewA g (wsD ws) = some (ws.map fun p => .str (tx p)) := rfl
    unfold mJoin
    simp only [e1, e2]
  rw [e]
  exact join_ws hb g
theorem split_len (t : Tx) : lenW (splitL 32 t) + (splitL 32 t).length = t.length + 1 := by
  have := joinL_len' (splitL 32 t) (splitL_ne _ _)
  rw [join_split] at this
  exact this.symm
theorem strN_wide {m : Nat} (h : m ≤ 1000000000000000000) (g : Gr) : fStr [.int (m : Int)] g = .ok (.str (tx (nm m))) g := by
  have hl : (m : Int).natAbs.log2 < 1920 := by
    rw [Int.natAbs_natCast]
    by_cases h0 : m = 0
    · subst h0; decide
    · have : m.log2 < 64 := (Nat.log2_lt h0).mpr (Nat.lt_of_le_of_lt h (by decide))
      omega
  rw [f_str hl, nm_str]
theorem nm_len19 {m : Nat} (h : m ≤ 1000000000000000000) : (nm m).length ≤ 19 := nm_len 18 m (Nat.lt_of_le_of_lt h (by decide))
theorem free_lit {w : Tx} (h : w.all (fun c => decide (c ≠ 32)) = true) : 32 ∉ w := fun m => by
  have := List.all_eq_true.mp h 32 m
  simp at this
theorem other_ok {G : Gr} {l : Nat} (P : PotAt G l) {w : Tx} (hw : w.length ≤ 1000000) (hf : 32 ∉ w) : ∃ (v : Tx) (G' : Gr), m__law_other_word [.obj l, .str (tx w)] G = .ok (.str (tx v)) G' ∧ (32 ∉ v ∧ v.length ≤ w.length + 20) ∧ PotAt G' l ∧ Upd G G' l (l + 1) := by
  have isn := lnum_ok w hw
  have m9 : ∀ g, opMulS (.str (tx [57])) (.int 18) g = .ok (.str (tx (List.replicate 18 57))) g := fun g => rfl
  have m0 : ∀ g, opMulS (.str (tx [48])) (.int 18) g = .ok (.str (tx (List.replicate 18 48))) g := fun g => rfl
  have a1 : ∀ g, opAdd (.str (tx [49])) (.str (tx (List.replicate 18 48))) g = .ok (.str (tx (49 :: List.replicate 18 48))) g := fun g => Fw.v_addT (by simp)
  obtain ⟨fs, hfs⟩ : ∃ fs : List Tx, fs = [[48], [49], [50], [97], [97, 98], [122, 122], [65], [97, 98, 99, 100, 101, 102, 103], [97, 49], [45, 49], [43, 49], [49, 46], [48, 120, 49], [], List.replicate 18 57, 49 :: List.replicate 18 48] := ⟨_, rfl⟩
  have fok : ∀ v ∈ fs, 32 ∉ v ∧ v.length ≤ w.length + 20 := by
    have : ∀ v ∈ fs, v.all (fun c => decide (c ≠ 32)) = true ∧ v.length ≤ 20 := by rw [hfs]; decide
    intro v hv
    obtain ⟨h1, h2⟩ := this v hv
    exact ⟨free_lit h1, by omega⟩
  have fl : fs.length = 16 := by rw [hfs]; rfl
  have fD : [D.str (tx [48]), .str (tx [49]), .str (tx [50]), .str (tx [97]), .str (tx [97, 98]), .str (tx [122, 122]), .str (tx [65]), .str (tx [97, 98, 99, 100, 101, 102, 103]), .str (tx [97, 49]), .str (tx [45, 49]), .str (tx [43, 49]), .str (tx [49, 46]), .str (tx [48, 120, 49]), .str (tx []), .str (tx (List.replicate 18 57)), .str (tx (49 :: List.replicate 18 48))] = fs.map fun p => .str (tx p) := by rw [hfs]; rfl
  generalize h9 : List.replicate 18 57 = r9 at *
  generalize h0 : (49 :: List.replicate 18 48) = r0 at *
  generalize List.replicate 18 48 = r1 at *
  cases nb : numB w with
  | false =>
    rw [nb] at isn
    obtain ⟨d, G', hd, e, p, u⟩ := drawn_ok P (fs.map fun p => .str (tx p)) (by rw [List.length_map]; omega)
    obtain ⟨v, hv, rfl⟩ := List.mem_map.mp hd
    refine ⟨v, G', fn_ret rfl ?_, fok v hv, p, u⟩
    rw [← fD] at e
    simp! [b__law_other_word, m9, m0, a1, isn, e]
  | true =>
    rw [nb] at isn
    obtain ⟨ew, hv⟩ := numV_back nb
    have iv := fun g => Fw.v_intT (g := g) hv
    rw [← ew] at iv
    generalize numV w = n at *
    have s1 : ∀ g, fStr [.int ((n : Int) + 1)] g = .ok (.str (tx (nm (n + 1)))) g := fun g => strN_wide (m := n + 1) (by omega) g
    have s2 : ∀ g, fStr [.int (((n - 1 : Nat)) : Int)] g = .ok (.str (tx (nm (n - 1)))) g := fun g => strN_wide (m := n - 1) (by omega) g
    have mx : (if (n : Int) - 1 > 0 then (n : Int) - 1 else 0) = ((n - 1 : Nat) : Int) := by split <;> omega
    have a0 : ∀ g, opAdd (.str (tx [48])) (.str (tx w)) g = .ok (.str (tx (48 :: w))) g := fun g => Fw.v_addT (by simp; omega)
    obtain ⟨f2, hf2⟩ : ∃ f2 : List Tx, f2 = [nm (n + 1), nm (n - 1), 48 :: w, nm (n + 1), nm (n - 1)] := ⟨_, rfl⟩
    have l1 := nm_len19 (m := n + 1) (by omega)
    have l2 := nm_len19 (m := n - 1) (by omega)
    have f2ok : ∀ v ∈ f2, 32 ∉ v ∧ v.length ≤ w.length + 20 := by
      rw [hf2]
      intro v hv
      simp only [List.mem_cons, List.not_mem_nil, or_false] at hv
      rcases hv with rfl | rfl | rfl | rfl | rfl
      · exact ⟨nm_free _, by omega⟩
      · exact ⟨nm_free _, by omega⟩
      · exact ⟨fun m => (List.mem_cons.mp m).elim (fun q => absurd q (by decide)) hf, by rw [List.length_cons]; omega⟩
      · exact ⟨nm_free _, by omega⟩
      · exact ⟨nm_free _, by omega⟩
    obtain ⟨d, G', hd, e, p, u⟩ := drawn_ok P ((fs ++ f2).map fun p => .str (tx p)) (by rw [List.length_map, List.length_append, hf2, fl]; simp)
    obtain ⟨v, hv, rfl⟩ := List.mem_map.mp hd
    refine ⟨v, G', fn_ret rfl ?_, (List.mem_append.mp hv).elim (fok v) (f2ok v), p, u⟩
    have ad : ∀ g, opAdd (.lst (fs.map fun p => .str (tx p))) (.lst [.str (tx (nm (n + 1))), .str (tx (nm (n - 1))), .str (tx (48 :: w)), .str (tx (nm (n + 1))), .str (tx (nm (n - 1)))]) g = .ok (.lst ((fs ++ f2).map fun p => .str (tx p))) g := fun g => by
      have := add_ws (a := fs) (b := f2) (by rw [fl, hf2]; simp) g
      rw [hf2] at this ⊢
      exact this
    rw [← fD] at ad
    generalize D.lst ((fs ++ f2).map fun p => .str (tx p)) = dd at *
    generalize nm (n + 1) = y1 at *
    generalize nm (n - 1) = y2 at *
    generalize (48 :: w) = y3 at *
    generalize ((n - 1 : Nat) : Int) = n1 at *
    simp! [b__law_other_word, m9, m0, a1, isn, iv, s1, s2, mx, a0, ad, e]
theorem spoilt_ok {G : Gr} {l : Nat} (P : PotAt G l) {N Z L : Nat} {t : Tx} (S : Sp N Z L t) (hN : 1 ≤ N) (hL : L ≤ 300000) : ∃ (t' : Tx) (G' : Gr), m__law_spoilt [.obj l, .str (tx t)] G = .ok (.str (tx t')) G' ∧ Sp (N + 1) (Z + 2) (3 * L + 40) t' ∧ PotAt G' l ∧ Upd G G' l (l + 1) := by
  have hl : l < G.length := by obtain ⟨_, _, _, _, h⟩ := P; exact (List.getElem?_eq_some_iff.mp h).1
  have tl : t.length ≤ 300000 := Nat.le_trans S.len hL
  have tL := S.len
  obtain ⟨zs, z1, z2⟩ := S.nms
  have cn := S.cnt
  have hsum := split_len t
  have hne := splitL_ne 32 t
  have hfree := split_free 32 t
  have sp : mSplitC (.str (tx t)) [.str (tx [32])] G = .ok (.obj G.length) (G ++ [.lst ((splitL 32 t).map fun p => .str (tx p))]) := Fw.v_splC (by omega)
  generalize splitL 32 t = ws at *
  have wl1 : 1 ≤ ws.length := List.length_pos_iff.mpr hne
  have fr : ∀ {vs : List Tx}, (∀ w ∈ vs, w ∈ ws) → (∀ w ∈ vs, 32 ∉ w) ∧ ∀ w ∈ vs, Nme w → w ∈ zs := fun h => ⟨fun w hw => hfree w (h w hw), fun w hw => z2 w (h w hw)⟩
  obtain ⟨G1, hG1⟩ : ∃ g, g = G ++ [Cl.lst (ws.map fun p => D.str (tx p))] := ⟨_, rfl⟩
  rw [← hG1] at sp
  have c1 : G1[G.length]? = some (Cl.lst (ws.map fun p => .str (tx p))) := by rw [hG1]; simp
  have u1 : Upd G G1 0 0 := by rw [hG1]; exact Upd.app
  have P1 := P.frame u1 (.inr (Nat.zero_le _))
  have ln : fLen [.obj G.length] G1 = .ok (.int (ws.length : Int)) G1 := by rw [len_at c1, List.length_map]
  obtain ⟨a, G2, ha, e2, P2, u2⟩ := take_ok P1 ws.length (by omega)
  have c2 := u2.at c1 (by omega)
  have ln2 : fLen [.obj G.length] G2 = .ok (.int (ws.length : Int)) G2 := by rw [len_at c2, List.length_map]
  obtain ⟨o, G3, ho, e3, P3, u3⟩ := take_ok P2 ws.length (by omega)
  have c3 := u3.at c2 (by omega)
  obtain ⟨k, G4, hk, e4, P4, u4⟩ := take_ok P3 6 (by decide)
  have e4' : m__law_take [.obj l, .int 6] G3 = .ok (.int (k : Int)) G4 := e4
  have c4 := u4.at c3 (by omega)
  have u04 : Upd G G4 l (l + 1) := (((u1.none l (l + 1)).trans u2).trans u3).trans u4
  have ty : ∀ (z : Str) g, tyS (.str z) g = true := fun _ _ => rfl
  have ad1 : ∀ g, opAdd (.int (a : Int)) (.int 1) g = .ok (.int ((a + 1 : Nat) : Int)) g := fun g => by rw [o_addI]; rfl
  have ct0 := cut_cellTo c4 a
  have cf0 := cut_cellFrom c4 a
  have cf1 := cut_cellFrom c4 (a + 1)
  obtain ⟨w, hw⟩ : ∃ w, ws[a]? = some w := ⟨_, List.getElem?_eq_getElem ha⟩
  obtain ⟨v, hv⟩ : ∃ v, ws[o]? = some v := ⟨_, List.getElem?_eq_getElem ho⟩
  have wL := lenW_at hw
  have vL := lenW_at hv
  have wm := List.mem_of_getElem? hw
  have vm := List.mem_of_getElem? hv
  have l0 := lenW_le (ws := ws) (a := a)
  have l1 := lenW_le (ws := ws) (a := a + 1)
  have ixa : opIx (.obj G.length) (.int (a : Int)) G4 = .ok (.str (tx w)) G4 := ix_at c4 (by rw [List.getElem?_map, hw]; rfl)
  have ixo : opIx (.obj G.length) (.int (o : Int)) G4 = .ok (.str (tx v)) G4 := ix_at c4 (by rw [List.getElem?_map, hv]; rfl)
  have lg4 : G.length < G4.length := (List.getElem?_eq_some_iff.mp c4).1
  have fin : ∀ {t' : Tx} {G' : Gr}, b__law_spoilt (([.obj l, .str (tx t)] : List D).map some ++ List.replicate (8 - 2) none) G = .ret (.str (tx t')) G' → Sp (N + 1) (Z + 2) (3 * L + 40) t' → PotAt G' l → Upd G G' l (l + 1) → ∃ (t' : Tx) (G' : Gr), m__law_spoilt [.obj l, .str (tx t)] G = .ok (.str (tx t')) G' ∧ Sp (N + 1) (Z + 2) (3 * L + 40) t' ∧ PotAt G' l ∧ Upd G G' l (l + 1) :=
    fun h1 h2 h3 h4 => ⟨_, _, fn_ret rfl h1, h2, h3, h4⟩
  by_cases k0 : (k : Int) = 0
  · have ad := add_ws (a := ws.take a) (b := ws.drop (a + 1)) (by rw [List.length_take, List.length_drop]; omega)
    have hlen : (ws.take a ++ ws.drop (a + 1)).length ≤ ws.length := by rw [List.length_append, List.length_take, List.length_drop]; omega
    have hb : lenW (ws.take a ++ ws.drop (a + 1)) ≤ lenW ws + lenW ws := by rw [lenW_app]; omega
    have jn := join_ws (c := 32) (ws := ws.take a ++ ws.drop (a + 1)) (by omega)
    obtain ⟨f1, f2⟩ := fr (vs := ws.take a ++ ws.drop (a + 1)) fun x hx => (List.mem_append.mp hx).elim List.mem_of_mem_take List.mem_of_mem_drop
    refine fin (t' := joinL 32 (ws.take a ++ ws.drop (a + 1))) (G' := G4) ?_ (sp_join f1 (by omega) (by omega) (Nat.le_trans z1 (by omega)) f2 (by omega)) P4 u04
    clear fin
    generalize wsD (ws.take a ++ ws.drop (a + 1)) = w3 at *
    generalize wsD (ws.take a) = w1 at *
    generalize wsD (ws.drop (a + 1)) = w2 at *
    generalize ((a + 1 : Nat) : Int) = a1 at *
    simp! [b__law_spoilt, sp, ty, ln, e2, ln2, e3, e4', k0, ct0, cf1, ad1, ad, jn]
  by_cases k1 : (k : Int) = 1
  · have ad := add_ws (a := ws.take a) (b := [v]) (by rw [List.length_take, List.length_singleton]; omega)
    have ad' : ∀ g, opAdd (wsD (ws.take a)) (.lst [.str (tx v)]) g = .ok (wsD (ws.take a ++ [v])) g := ad
    have ad2 := add_ws (a := ws.take a ++ [v]) (b := ws.drop a) (by rw [List.length_append, List.length_take, List.length_drop, List.length_singleton]; omega)
    have hlen : (ws.take a ++ [v] ++ ws.drop a).length ≤ ws.length + 1 := by rw [List.length_append, List.length_append, List.length_take, List.length_drop, List.length_singleton]; omega
    have hb : lenW (ws.take a ++ [v] ++ ws.drop a) ≤ lenW ws + lenW ws := by
      rw [lenW_app, lenW_app]
      have : lenW [v] = v.length := by simp [lenW]
      omega
    have jn := join_ws (c := 32) (ws := ws.take a ++ [v] ++ ws.drop a) (by omega)
    obtain ⟨f1, f2⟩ := fr (vs := ws.take a ++ [v] ++ ws.drop a) fun x hx => (List.mem_append.mp hx).elim (fun hx => (List.mem_append.mp hx).elim List.mem_of_mem_take (fun q => by rw [List.mem_singleton.mp q]; exact vm)) List.mem_of_mem_drop
    refine fin (t' := joinL 32 (ws.take a ++ [v] ++ ws.drop a)) (G' := G4) ?_ (sp_join f1 (by omega) (by omega) (Nat.le_trans z1 (by omega)) f2 (by omega)) P4 u04
    clear fin ad
    generalize wsD (ws.take a ++ [v] ++ ws.drop a) = w3 at *
    generalize wsD (ws.take a ++ [v]) = w4 at *
    generalize wsD (ws.take a) = w1 at *
    generalize wsD (ws.drop a) = w2 at *
    simp! [b__law_spoilt, sp, ty, ln, e2, ln2, e3, e4', k0, k1, ct0, cf0, ixo, ad', ad2, jn]
  by_cases k2 : (k : Int) = 2
  · have hset1 : (ws.map fun p => D.str (tx p)).set a (.str (tx v)) = (ws.set a v).map fun p => D.str (tx p) := by rw [List.map_set]
    have hset2 : ((ws.set a v).map fun p => D.str (tx p)).set o (.str (tx w)) = ((ws.set a v).set o w).map fun p => D.str (tx p) := (List.map_set ..).symm
    have st1 := fun ρ => sub_of (d := .str (tx v)) (ρ := ρ) (k := a) c4 (by rw [List.length_map]; exact ha)
    rw [hset1] at st1
    have c5 : (G4.set G.length (.lst ((ws.set a v).map fun p => D.str (tx p))))[G.length]? = some (Cl.lst ((ws.set a v).map fun p => .str (tx p))) := set_at c4
    have st2 := fun ρ => sub_of (d := .str (tx w)) (ρ := ρ) (k := o) c5 (by rw [List.length_map, List.length_set]; exact ho)
    rw [hset2, List.set_set] at st2
    have c6 : (G4.set G.length (.lst (((ws.set a v).set o w).map fun p => D.str (tx p))))[G.length]? = some (Cl.lst (((ws.set a v).set o w).map fun p => .str (tx p))) := set_at c4
    have hb1 := lenW_set (ws := ws) (a := a) (w := v)
    have hb2 := lenW_set (ws := ws.set a v) (a := o) (w := w)
    have hlen : ((ws.set a v).set o w).length = ws.length := by rw [List.length_set, List.length_set]
    have jn := join_cellc (c := 32) c6 (by omega)
    obtain ⟨f1, f2⟩ := fr (vs := (ws.set a v).set o w) fun x hx => (List.mem_or_eq_of_mem_set hx).elim (fun hx => (List.mem_or_eq_of_mem_set hx).elim id (fun q => by rw [q]; exact vm)) (fun q => by rw [q]; exact wm)
    have us : Upd G (G4.set G.length (.lst (((ws.set a v).set o w).map fun p => D.str (tx p)))) l (l + 1) := ⟨by rw [List.length_set]; omega, fun m hm hn => by rw [List.getElem?_set_ne (by omega)]; exact u04.eq m hm hn⟩
    have P6 : PotAt (G4.set G.length (.lst (((ws.set a v).set o w).map fun p => D.str (tx p)))) l := P4.frame (Upd.set (a := G.length) (b := G.length + 1) (by omega)) (.inl hl)
    refine fin (t' := joinL 32 ((ws.set a v).set o w)) ?_ (sp_join f1 (by omega) (by omega) (Nat.le_trans z1 (by omega)) f2 (by omega)) P6 us
    clear fin
    simp! [b__law_spoilt, sp, ty, ln, e2, ln2, e3, e4', k0, k1, k2, ixa, ixo, st1, st2, jn]
  by_cases k5 : (k : Int) < 5
  · obtain ⟨x, G5, e5, ⟨hx1, hx2⟩, P5, u5⟩ := other_ok P4 (w := w) (by omega) (hfree w wm)
    have c5 := u5.at c4 (by omega)
    have hset1 : (ws.map fun p => D.str (tx p)).set a (.str (tx x)) = (ws.set a x).map fun p => D.str (tx p) := by rw [List.map_set]
    have st1 := fun ρ => sub_of (d := .str (tx x)) (ρ := ρ) (k := a) c5 (by rw [List.length_map]; exact ha)
    rw [hset1] at st1
    have c6 : (G5.set G.length (.lst ((ws.set a x).map fun p => D.str (tx p))))[G.length]? = some (Cl.lst ((ws.set a x).map fun p => .str (tx p))) := set_at c5
    have hb1 := lenW_set (ws := ws) (a := a) (w := x)
    have hlen : (ws.set a x).length = ws.length := by rw [List.length_set]
    have jn := join_cellc (c := 32) c6 (by omega)
    have f1 : ∀ y ∈ ws.set a x, 32 ∉ y := fun y hy => (List.mem_or_eq_of_mem_set hy).elim (hfree y) (fun q => by rw [q]; exact hx1)
    have f2 : ∀ y ∈ ws.set a x, Nme y → y ∈ x :: zs := fun y hy hn => (List.mem_or_eq_of_mem_set hy).elim (fun q => List.mem_cons_of_mem _ (z2 y q hn)) (fun q => by rw [q]; exact List.mem_cons_self)
    have us : Upd G (G5.set G.length (.lst ((ws.set a x).map fun p => D.str (tx p)))) l (l + 1) := ⟨by rw [List.length_set]; exact (u04.trans u5).le, fun m hm hn => by rw [List.getElem?_set_ne (by omega)]; exact (u04.trans u5).eq m hm hn⟩
    have P6 : PotAt (G5.set G.length (.lst ((ws.set a x).map fun p => D.str (tx p)))) l := P5.frame (Upd.set (a := G.length) (b := G.length + 1) (by omega)) (.inl hl)
    refine fin (t' := joinL 32 (ws.set a x)) ?_ (sp_join f1 (by omega) (by omega) (zs := x :: zs) (by rw [List.length_cons]; omega) f2 (by omega)) P6 us
    clear fin
    simp! [b__law_spoilt, sp, ty, ln, e2, ln2, e3, e4', k0, k1, k2, k5, ixa, e5, st1, jn]
  · have hk5 : (k : Int) = 5 := by omega
    have lnt : ∀ g, fLen [.str (tx t)] g = .ok (.int (t.length : Int)) g := fun g => by simp! []
    obtain ⟨i, G5, hi, e5, P5, u5⟩ := take_ok P4 (t.length + 1) (by omega)
    have e5' : m__law_take [.obj l, .int ((t.length : Int) + 1)] G4 = .ok (.int (i : Int)) G5 := e5
    obtain ⟨d, G6, hd, e6, P6, u6⟩ := drawn_ok P5 [.str (tx []), .str (tx [32]), .str (tx [48]), .str (tx [97]), .str (tx [10]), .str (tx [90]), .str (tx [95])] (by simp)
    obtain ⟨c, hc, hc1⟩ : ∃ c : Tx, d = .str (tx c) ∧ c.length ≤ 1 := by
      simp only [List.mem_cons, List.not_mem_nil, or_false] at hd
      rcases hd with rfl | rfl | rfl | rfl | rfl | rfl | rfl
      · exact ⟨[], rfl, by simp⟩
      · exact ⟨[32], rfl, by simp⟩
      · exact ⟨[48], rfl, by simp⟩
      · exact ⟨[97], rfl, by simp⟩
      · exact ⟨[10], rfl, by simp⟩
      · exact ⟨[90], rfl, by simp⟩
      · exact ⟨[95], rfl, by simp⟩
    subst hc
    obtain ⟨y, G7, hy, e7, P7, u7⟩ := take_ok P6 2 (by decide)
    have e7' : m__law_take [.obj l, .int 2] G6 = .ok (.int (y : Int)) G7 := e7
    have ctt : ∀ g, cutOp none (some (i : Int)) (.str (tx t)) g = .ok (.str (tx (t.take i))) g := fun g => by rw [Fw.v_cutTo (by omega) (by omega), Int.toNat_natCast]
    have ctf : ∀ g, cutOp (some ((i : Int) + (y : Int))) none (.str (tx t)) g = .ok (.str (tx (t.drop (i + y)))) g := fun g => by
      rw [Fw.v_cutFrom (by omega) (by omega), show ((i : Int) + (y : Int)).toNat = i + y by omega]
    have a1 : ∀ g, opAdd (.str (tx (t.take i))) (.str (tx c)) g = .ok (.str (tx (t.take i ++ c))) g := fun g => Fw.v_addT (by rw [List.length_take]; omega)
    have a2 : ∀ g, opAdd (.str (tx (t.take i ++ c))) (.str (tx (t.drop (i + y)))) g = .ok (.str (tx (t.take i ++ c ++ t.drop (i + y)))) g := fun g => Fw.v_addT (by rw [List.length_append, List.length_take, List.length_drop]; omega)
    have et : t.take i ++ (t.drop i).take y ++ t.drop (i + y) = t := by
      rw [← List.drop_drop, List.append_assoc, List.take_append_drop, List.take_append_drop]
    have S2 : Sp N Z L (t.take i ++ (t.drop i).take y ++ t.drop (i + y)) := by rw [et]; exact S
    have S3 := sp_signs (c := c) S2 (by rw [List.length_take]; omega) hc1
    refine fin (t' := t.take i ++ c ++ t.drop (i + y)) (G' := G7) ?_ ⟨S3.cnt, S3.nms, by have := S3.len; omega⟩ P7 (((u04.trans u5).trans u6).trans u7)
    clear fin
    generalize tx (t.take i ++ c ++ t.drop (i + y)) = t1 at *
    generalize tx (t.take i ++ c) = t2 at *
    generalize tx (t.take i) = t3 at *
    generalize tx (t.drop (i + y)) = t4 at *
    generalize tx c = t5 at *
    generalize tx t = t6 at *
    have k5 : ¬ (k : Int) < 5 := by omega
    simp! [b__law_spoilt, sp, ty, ln, e2, ln2, e3, e4', k0, k1, k2, k5, lnt, e5', e6, e7', ctt, ctf, a1, a2]
end Ww

set_option maxRecDepth 100000
set_option maxHeartbeats 4000000
namespace Ww
open PySem PySem.Spec PyProof.Rows Fw
theorem nm_not_name (m : Nat) : ¬ Nme (nm m) := fun h => by
  obtain ⟨c, hc⟩ := List.exists_mem_of_ne_nil _ (nm_ne m)
  have h1 := h.2.2 c hc
  have h2 := nm_fig m c hc
  unfold figL at h2
  rw [List.mem_range'_1] at h1 h2
  omega
theorem fileW_w {ms : Mo} (o : Okm ms) {z : Tx} (hz : z ∈ keys ms) : (∀ w ∈ fileW z (rw_ ms z), w.length ≤ 18 ∧ (Nme w → w ∈ keys ms)) ∧ (fileW z (rw_ ms z)).length ≤ 62 := by
  obtain ⟨h1, h2, h3⟩ := o.get (rw_mem hz)
  refine ⟨fun w hw => ?_, ?_⟩
  · unfold fileW at hw
    rcases List.mem_cons.mp hw with rfl | hw
    · exact ⟨Nat.le_trans h3.2.1 (by decide), fun _ => hz⟩
    · rcases List.mem_cons.mp hw with rfl | hw
      · exact ⟨(nm18 (by omega)).2, fun q => absurd q (nm_not_name _)⟩
      · obtain ⟨b, hb, rfl⟩ := List.mem_map.mp hw
        have := h2 b hb
        exact ⟨(nm18 (by omega)).2, fun q => absurd q (nm_not_name _)⟩
  · unfold fileW
    rw [List.length_cons, List.length_cons, List.length_map]
    omega
theorem wordsM_w {ms : Mo} (o : Okm ms) : (∀ w ∈ wordsM ms, w.length ≤ 18 ∧ (Nme w → w ∈ keys ms)) ∧ (wordsM ms).length ≤ 187 := by
  have ol := o.len
  refine ⟨fun w hw => ?_, ?_⟩
  · unfold wordsM at hw
    rcases List.mem_cons.mp hw with rfl | hw
    · exact ⟨(nm18 (by omega)).2, fun q => absurd q (nm_not_name _)⟩
    · obtain ⟨l, hl, hwl⟩ := List.mem_flatten.mp hw
      obtain ⟨z, hz, rfl⟩ := List.mem_map.mp hl
      exact (fileW_w o (srtT_mem.mp hz)).1 w hwl
  · unfold wordsM
    have := flat_bd (fun z => fileW z (rw_ ms z)) 62 (srtT (keys ms)) fun z hz => (fileW_w o (srtT_mem.mp hz)).2
    rw [srtT_len, List.length_map] at this
    have h2 : 62 * ms.length ≤ 62 * 3 := Nat.mul_le_mul_left _ ol
    rw [List.length_cons]
    omega
def zsT (ms : Mo) (ks : Ko) : List Tx := keys ms ++ keys ks ++ (ks.map fun q => keys q.2).flatten
theorem zsT_len {ms : Mo} {ks : Ko} (o : Okm ms) (k : OkKm ks) : (zsT ms ks).length ≤ 15 := by
  have h1 := o.len
  have h2 := k.len
  have h3 : ((ks.map fun q => keys q.2).flatten).length ≤ 3 * ks.length := flat_bd (fun q : Tx × Mo => keys q.2) 3 ks fun q hq => by rw [List.length_map]; exact (k.m q hq).len
  have h4 : 3 * ks.length ≤ 3 * 3 := Nat.mul_le_mul_left _ h2
  unfold zsT
  rw [List.length_append, List.length_append, List.length_map, List.length_map]
  omega
theorem textW_w {ms : Mo} {ks : Ko} (o : Okm ms) (k : OkKm ks) : (∀ w ∈ textW ms ks, w.length ≤ 18 ∧ (Nme w → w ∈ zsT ms ks)) ∧ (textW ms ks).length ≤ 752 := by
  have kl := k.len
  have kg : ∀ z ∈ keys ks, Okm (kGet ks z) ∧ ∀ y ∈ keys (kGet ks z), y ∈ (ks.map fun q => keys q.2).flatten := fun z hz => by
    obtain ⟨m, h1, h2⟩ := kGet_mem hz
    rw [h2]
    exact ⟨k.m _ (mGet_some h1), fun y hy => List.mem_flatten.mpr ⟨keys m, List.mem_map.mpr ⟨_, mGet_some h1, rfl⟩, hy⟩⟩
  refine ⟨fun w hw => ?_, ?_⟩
  · unfold textW at hw
    rcases List.mem_append.mp hw with hw | hw
    · rcases List.mem_append.mp hw with hw | hw
      · obtain ⟨h1, h2⟩ := (wordsM_w o).1 w hw
        exact ⟨h1, fun q => List.mem_append_left _ (List.mem_append_left _ (h2 q))⟩
      · rw [List.mem_singleton.mp hw]
        exact ⟨(nm18 (by omega)).2, fun q => absurd q (nm_not_name _)⟩
    · obtain ⟨l, hl, hwl⟩ := List.mem_flatten.mp hw
      obtain ⟨z, hz, rfl⟩ := List.mem_map.mp hl
      have hz := srtT_mem.mp hz
      obtain ⟨g1, g2⟩ := kg z hz
      rcases List.mem_cons.mp hwl with rfl | hwl
      · exact ⟨Nat.le_trans (k.n _ hz).2.1 (by decide), fun _ => List.mem_append_left _ (List.mem_append_right _ hz)⟩
      · obtain ⟨h1, h2⟩ := (wordsM_w g1).1 w hwl
        exact ⟨h1, fun q => List.mem_append_right _ (g2 w (h2 q))⟩
  · unfold textW
    have h1 := (wordsM_w o).2
    have h2 := flat_bd (fun z => z :: wordsM (kGet ks z)) 188 (srtT (keys ks)) fun z hz => by
      have := (wordsM_w (kg z (srtT_mem.mp hz)).1).2
      rw [List.length_cons]; omega
    rw [srtT_len, List.length_map] at h2
    have h3 : 188 * ks.length ≤ 188 * 3 := Nat.mul_le_mul_left _ kl
    rw [List.length_append, List.length_append, List.length_singleton]
    omega
theorem lenW_18 : ∀ ws : List Tx, (∀ w ∈ ws, w.length ≤ 18) → lenW ws ≤ 18 * ws.length
  | [], _ => by simp [lenW]
  | w :: ws, h => by
    have h1 := h w List.mem_cons_self
    have h2 := lenW_18 ws fun x hx => h x (List.mem_cons_of_mem _ hx)
    rw [lenW_cons, List.length_cons]
    omega
theorem sp_text {ms : Mo} {ks : Ko} (o : Okm ms) (k : OkKm ks) : Sp 752 15 20000 (textM ms ks) := by
  obtain ⟨h1, h2⟩ := textW_w o k
  have h3 := lenW_18 _ fun w hw => (h1 w hw).1
  exact sp_join (free_textW o.wide k.wide) h2 (by decide) (zsT_len o k) (fun w hw => (h1 w hw).2) (by omega)
theorem st_fl {g : Gr} {n : Nat} {d : D} (h : flD d = true) : EqST g (n + 1) d d := .inl ⟨rfl, h⟩
theorem st_ints (g : Gr) (n : Nat) : ∀ ns : List Int, EqL (EqST g (n + 1)) (ns.map .int) (ns.map .int)
  | [] => .nil
  | a :: ns => .cons (st_fl rfl) (st_ints g n ns)
theorem st_mo {g : Gr} {n l1 l2 : Nat} {ms md : Mo} (h1 : g[l1]? = some (Cl.dic (mK ms))) (h2 : g[l2]? = some (Cl.dic (mK md))) (e : Eqv ms md) : EqST g (n + 3) (.obj l1) (.obj l2) := by
  refine .inr (.inr (.inr (.inl ⟨l1, l2, _, _, viewD_of h1, viewD_of h2, ?_, fun p hp => ?_⟩)))
  · rw [mK_len, mK_len, ← e.len]
  · unfold mK gK at hp
    obtain ⟨q, hq, rfl⟩ := List.mem_map.mp hp
    refine ⟨li q.2, ?_, .inr (.inr (.inl ⟨_, _, rfl, rfl, st_ints g n _⟩))⟩
    show dGet (mK md) (.inr (tx q.1)) = _
    rw [dGet_mK, ← e.g, mGet_mem e.nd hq]; rfl
theorem st_ho {g : Gr} {n l1 l2 : Nat} {hv hs : Ho} (h1 : KtAt g l1 hv) (h2 : KtAt g l2 hs) (e : EqK (ko hv) (ko hs)) : EqST g (n + 4) (.obj l1) (.obj l2) := by
  refine .inr (.inr (.inr (.inl ⟨l1, l2, _, _, viewD_of h1.d, viewD_of h2.d, ?_, fun p hp => ?_⟩)))
  · have := e.len
    rw [ko_len, ko_len] at this
    rw [gK_len, gK_len, this]
  · unfold hK gK at hp
    obtain ⟨q, hq, rfl⟩ := List.mem_map.mp hp
    have hqk := mGet_mem e.nd (ko_mem hq)
    rcases e.g q.1 with ⟨x, _⟩ | ⟨m, m', x1, x2, x3⟩
    · rw [hqk] at x; cases x
    · rw [hqk] at x1
      cases x1
      obtain ⟨l, hl⟩ := ko_some x2
      refine ⟨.obj l, ?_, st_mo (h1.c q hq) (h2.c _ (mGet_some hl)) x3⟩
      show dGet (gK _ hs) (.inr (tx q.1)) = _
      rw [dGet_gK, hl]; rfl
theorem Eqv.self {l : List Fil} (h : GdM l) : Eqv l l := Eqv.refl (inc_sorted h.inc).2
theorem EqK.self {ks : List Hld} (h : GdK ks) : EqK ks ks := by
  have nd := (inc_sorted h.inc).2
  refine ⟨nd, nd, fun z => ?_⟩
  cases e : mGet ks z with
  | none => exact .inl ⟨rfl, rfl⟩
  | some m => exact .inr ⟨m, m, rfl, rfl, Eqv.self (h.gd _ (mGet_some e)).2⟩
theorem ne_told {g : Gr} {a b a' b' : Nat} {ms md : Mo} {hv hs : Ho} (h1 : g[a]? = some (Cl.dic (mK ms))) (h2 : g[a']? = some (Cl.dic (mK md))) (e : Eqv ms md) (k1 : KtAt g b hv) (k2 : KtAt g b' hs) (ek : EqK (ko hv) (ko hs)) :
    opNeT (.tup [.obj a, .obj b]) (.tup [.obj a', .obj b']) g = .ok (.bl false) g := neT_of (.cons (st_mo h1 h2 e) (.cons (st_ho k1 k2 ek) .nil))
end Ww

set_option maxRecDepth 100000
set_option maxHeartbeats 4000000
namespace Ww
open PySem PySem.Spec PyProof.Rows Fw
def NoS (G : Gr) (t : Tx) (d : D) : Prop := d = .non ∨ d = .int 7 ∨ d = .bl true ∨ d = .lst [] ∨ d = .tup [.str (tx t)] ∨ d = .lst [.str (tx t)] ∨ ∃ k, d = .obj k ∧ G[k]? = some (.dic [])
theorem NoS.no {G : Gr} {t : Tx} {d : D} (h : NoS G t d) : opIsT "str" d G = .ok (.bl false) G := by
  rcases h with rfl | rfl | rfl | rfl | rfl | rfl | ⟨k, rfl, hk⟩
  · rfl
  · rfl
  · rfl
  · rfl
  · rfl
  · rfl
  · have : tyD G (.obj k) = some "dict" := by
      show (match G[k]? with | some (.lst _) => some "list" | some (.dic _) => some "dict" | _ => none) = _
      rw [hk]
    unfold opIsT
    rw [this]
    rfl
def RdD (G : Gr) (d : D) (o : Option (List Fil × List Hld)) : Prop := (∃ (t : Tx) (zs : List Tx), d = .str (tx t) ∧ Tw zs (splitL 32 t) ∧ o = qAll (splitL 32 t)) ∨ ((∃ t, NoS G t d) ∧ o = none)
theorem RdD.keep {G G' : Gr} {d : D} {o : Option (List Fil × List Hld)} (h : RdD G d o) (u : Upd G G' 0 0) : RdD G' d o := by
  rcases h with h | ⟨⟨t, h⟩, e⟩
  · exact .inl h
  · refine .inr ⟨⟨t, ?_⟩, e⟩
    rcases h with h | h | h | h | h | h | ⟨k, h, hk⟩
    · exact .inl h
    · exact .inr (.inl h)
    · exact .inr (.inr (.inl h))
    · exact .inr (.inr (.inr (.inl h)))
    · exact .inr (.inr (.inr (.inr (.inl h))))
    · exact .inr (.inr (.inr (.inr (.inr (.inl h)))))
    · exact .inr (.inr (.inr (.inr (.inr (.inr ⟨k, h, u.at hk (.inr (Nat.zero_le _))⟩)))))
theorem due_any {G : Gr} {d : D} {o : Option (List Fil × List Hld)} (h : RdD G d o) : DueR G (m__law_due [d] G) o := by
  rcases h with ⟨t, zs, rfl, T, rfl⟩ | ⟨⟨t, h⟩, rfl⟩
  · have := ldue_ok T G
    rw [join_split] at this
    exact this
  · have i0 := h.no
    refine ⟨G, fn_ret rfl ?_, Upd.refl ..⟩
    simp! [b__law_due, i0]
theorem told_any {G : Gr} {d : D} {o : Option (List Fil × List Hld)} (h : RdD G d o) : DueR G (m__law_told [d] G) o := by
  rcases h with ⟨t, zs, rfl, T, rfl⟩ | ⟨⟨t, h⟩, rfl⟩
  · have := ltold_ok T G
    rw [join_split] at this
    exact this
  · have i0 := h.no
    have e1 : m_read_files [d] G = .err "NoFiles" G := by
      refine fn_err rfl ⟨?_, ?_⟩
      rotate_left
      simp! [b_read_files, i0]
      rfl
    have x1 : ("NoFiles" : Str) ∈ exL := by decide +kernel
    have x2 : ("CleanError" : Str) ∈ exC := by decide +kernel
    have x3 : isSub "NoFiles" "CleanError" = true := by decide +kernel
    have eqn : ∀ g, opEq (.str (tx NoFilesT)) (.str (tx [78, 111, 70, 105, 108, 101, 115])) g = .ok (.bl true) g := fun g => eqTx NoFilesT NoFilesT g
    refine ⟨G, fn_ret rfl ?_, Upd.refl ..⟩
    simp! [b__law_told, e1, x1, x2, x3, refn_NoFiles, eqn]
def DueV (G : Gr) (e : D) : Option (List Fil × List Hld) → Prop
  | some p => ∃ (a b : Nat) (md : Mo) (hs : Ho), e = .tup [.obj a, .obj b] ∧ G[a]? = some (Cl.dic (mK md)) ∧ KtAt G b hs ∧ Eqv p.1 md ∧ EqK p.2 (ko hs)
  | none => e = .non
theorem DueV.keep {G G' : Gr} {e : D} {o : Option (List Fil × List Hld)} (h : DueV G e o) (u : Upd G G' 0 0) : DueV G' e o := by
  cases o with
  | none => exact h
  | some p =>
    obtain ⟨a, b, md, hs, h1, h2, h3, h4, h5⟩ := h
    exact ⟨a, b, md, hs, h1, u.at h2 (.inr (Nat.zero_le _)), h3.frame u (.inr (Nat.zero_le _)) Out.zero, h4, h5⟩
theorem qAll_gd {ws : List Tx} {p : List Fil × List Hld} (h : qAll ws = some p) : GdM p.1 ∧ GdK p.2 := by
  obtain ⟨h1, h2, _⟩ := qAll_iff.mp h
  exact ⟨h1, h2⟩
def GdO (o : Option (List Fil × List Hld)) : Prop := ∀ p, o = some p → GdM p.1 ∧ GdK p.2
theorem RdD.gd {G : Gr} {d : D} {o : Option (List Fil × List Hld)} (h : RdD G d o) : GdO o := by
  rcases h with ⟨t, zs, rfl, T, rfl⟩ | ⟨_, rfl⟩
  · exact fun p hp => qAll_gd hp
  · exact fun p hp => by cases hp
theorem told_due {G : Gr} {d e : D} {o : Option (List Fil × List Hld)} (h : RdD G d o) (hv : DueV G e o) : ∃ v G', m__law_told [d] G = .ok v G' ∧ opNeT v e G' = .ok (.bl false) G' ∧ Upd G G' 0 0 := by
  have gd := h.gd
  have t := told_any h
  cases o with
  | none =>
    obtain ⟨G', e1, u⟩ := t
    have hv : e = .non := hv
    subst hv
    exact ⟨.non, G', e1, rfl, u⟩
  | some p =>
    obtain ⟨a, b, G', hs, e1, c1, k1, ek, u⟩ := t
    obtain ⟨a', b', md, hs', rfl, c2, k2, q1, q2⟩ := hv.keep u
    refine ⟨_, G', e1, ?_, u⟩
    exact ne_told c1 c2 q1 k1 k2 (by rw [ek]; exact q2)
theorem due_V {G : Gr} {d : D} {o : Option (List Fil × List Hld)} (h : RdD G d o) : ∃ e G', m__law_due [d] G = .ok e G' ∧ DueV G' e o ∧ Upd G G' 0 0 := by
  have gd := h.gd
  have t := due_any h
  cases o with
  | none =>
    obtain ⟨G', e1, u⟩ := t
    exact ⟨.non, G', e1, rfl, u⟩
  | some p =>
    obtain ⟨a, b, G', hs, e1, c1, k1, ek, u⟩ := t
    obtain ⟨g1, g2⟩ := gd p rfl
    exact ⟨_, G', e1, ⟨a, b, p.1, hs, rfl, c1, k1, Eqv.self g1, by rw [ek]; exact EqK.self g2⟩, u⟩
def Lf : Nat → Nat
  | 0 => 20000
  | i + 1 => 3 * Lf i + 40
theorem Lf_le : ∀ i, i < 3 → Lf i ≤ 300000
  | 0, _ => by decide
  | 1, _ => by decide
  | 2, _ => by decide
theorem Lf_le3 : ∀ i, i ≤ 3 → Lf i ≤ 1000000
  | 0, _ => by decide
  | 1, _ => by decide
  | 2, _ => by decide
  | 3, _ => by decide
end Ww

set_option maxRecDepth 100000
set_option maxHeartbeats 4000000
namespace Ww
open PySem PySem.Spec PyProof.Rows Fw
theorem law_ok (ns : List Int) (g : Gr) : m_law [li ns] g = .ok (.bl true) g := by
  obtain ⟨n, en, hn⟩ : ∃ n : Nat, (if (if (10 : Int) < (ns.length : Int) then 10 else (ns.length : Int)) > 1 then (if (10 : Int) < (ns.length : Int) then 10 else (ns.length : Int)) else 1) = (n : Int) ∧ n ≤ 10 := by
    generalize (ns.length : Int) = n at *
    by_cases h1 : (10 : Int) < n
    · exact ⟨10, by rw [if_pos h1]; rfl, by decide⟩
    · rw [if_neg h1]
      by_cases h3 : n > 1
      · exact ⟨n.toNat, by rw [if_pos h3]; omega, by omega⟩
      · exact ⟨1, by rw [if_neg h3]; rfl, by decide⟩
  refine pure_retX2 rfl ?_ rfl
  have hm' : ((n : Int)).toNat = n := Int.toNat_natCast n
  simp! [b_law, en]
  try rw [hm']
  refine rng_then (K := fun s => ∃ g2, fSeq _ s = .ret (.bl true) (g ++ g2)) (fun i ρ g' => ∃ (t1 t2 t3 t4 t5 t6 t7 t8 : Option D), ρ = [some (li ns), t1, t2, t3, t4, t5, t6, t7, t8] ∧ ∃ g2, g' = g ++ g2) ⟨none, none, none, none, none, none, none, none, rfl, [], (List.append_nil g).symm⟩ ?_ ?_
  · rintro i ρ g' hi ⟨t1, t2, t3, t4, t5, t6, t7, t8, rfl, pre⟩
    have glen : g.length ≤ g'.length := by obtain ⟨z, rfl⟩ := pre; simp
    obtain ⟨zc, ep, pp⟩ := pot_ok ns i g'
    obtain ⟨mm, hl, lm, G2, e2, hm, hk, om, ok, hlt, ho, p2, u2⟩ := law_models_ok pp
    have u1 : Upd g' (g' ++ [zc]) 0 0 := Upd.app
    have l1 : (g' ++ [zc]).length = g'.length + 1 := by simp
    have w2 : Upd g' G2 0 0 := u1.old u2 (Nat.le_refl _)
    have lt := ltext_ok hm hk om.wide ok.wide
    rw [l1] at e2 lt hk hlt
    have lg2 : lm < G2.length := (List.getElem?_eq_some_iff.mp hm).1
    have lk2 : g'.length + 1 < G2.length := (List.getElem?_eq_some_iff.mp hk.d).1
    have sR := sp_text om ok
    have eR : splitL 32 (textM mm (ko hl)) = textW mm (ko hl) := splitL_join (textW_ne _ _) (free_textW om.wide ok.wide)
    obtain ⟨zsR, TR⟩ := sR.tw (by decide) (by decide) (by decide)
    have qR : qAll (splitL 32 (textM mm (ko hl))) = some (srtM mm, srtK (ko hl)) := by rw [eR]; exact qAll_text om.wide ok.wide
    generalize textM mm (ko hl) = R at *
    have hRR : ∀ G, RdD G (.str (tx R)) (some (srtM mm, srtK (ko hl))) := fun G => .inl ⟨R, zsR, rfl, TR, qR.symm⟩
    obtain ⟨k4, G3, hk4, e3, p3, u3⟩ := take_ok p2 4 (by decide)
    have e3' : m__law_take [.obj g'.length, .int 4] G2 = .ok (.int (k4 : Int)) G3 := e3
    have w3 : Upd g' G3 0 0 := w2.old u3 (Nat.le_refl _)
    have hm3 := u3.at hm (.inr (by omega))
    have hk3 := hk.frame u3 (.inr (by omega)) (fun p hp => by have := ho p hp; omega)
    have rg := fun g => Fw.v_rng1 (g := g) (i := (k4 : Int)) (by omega)
    have hk4' : ((k4 : Int)).toNat = k4 := Int.toNat_natCast k4
    rw [hk4'] at rg
    have lm3 := u3.le
    simp! [ep, e2, lt, e3', rg]
    refine rng_then (K := fun s => S.go _ (fSeq _ s)) (fun j ρ g3 => ∃ (t : Tx) (t7 : Option D), ρ = [some (li ns), some (.int (i : Int)), some (.obj g'.length), some (.obj lm), some (.obj (g'.length + 1)), some (.str (tx R)), some (.str (tx t)), t7, t8] ∧ Sp (752 + j) (15 + 2 * j) (Lf j) t ∧ PotAt g3 g'.length ∧ Upd G3 g3 g'.length (g'.length + 1)) ⟨R, t7, rfl, sR, p3, Upd.refl ..⟩ ?_ ?_
    · rintro j ρ g3 hj ⟨t, t7, rfl, sp, p, u⟩
      obtain ⟨t', g4, es, sp', p', u'⟩ := spoilt_ok p sp (by omega) (Lf_le j (by omega))
      simp! [es]
      exact ⟨t', _, rfl, ⟨sp'.cnt, sp'.nms, sp'.len⟩, p', u.trans u'⟩
    · rintro ρ' g4 ⟨t, t7, rfl, sp, p, u⟩
      obtain ⟨zs, T⟩ := sp.tw (by omega) (by omega) (Lf_le3 k4 (by omega))
      obtain ⟨q, g5, hq, e5, p5, u5⟩ := take_ok p 16 (by decide)
      have e5' : m__law_take [.obj g'.length, .int 16] g4 = .ok (.int (q : Int)) g5 := e5
      have u35 := u.trans u5
      have hm5 := u35.at hm3 (.inr (by omega))
      have hk5 := hk3.frame u35 (.inr (by omega)) (fun p hp => by have := ho p hp; omega)
      have w5 : Upd g' g5 0 0 := w3.old u35 (Nat.le_refl _)
      have lm5 := u35.le
      by_cases h15 : (q : Int) = 15
      · have ud : Upd g5 (g5 ++ [Cl.dic []]) 0 0 := Upd.app
        have pd := p5.frame ud (.inr (Nat.zero_le _))
        have cd : (g5 ++ [Cl.dic []])[g5.length]? = some (Cl.dic []) := by simp
        obtain ⟨d, g6, hd, e6, p6, u6⟩ := drawn_ok pd [.non, .int 7, .bl true, .lst [], .tup [.str (tx R)], .obj g5.length, .lst [.str (tx R)]] (by simp)
        have ud6 : Upd g5 g6 g'.length (g'.length + 1) := (ud.none _ _).trans u6
        have cd6 := u6.at cd (.inr (by omega))
        have hR : RdD g6 d none := by
          refine .inr ⟨⟨R, ?_⟩, rfl⟩
          simp only [List.mem_cons, List.not_mem_nil, or_false] at hd
          rcases hd with rfl | rfl | rfl | rfl | rfl | rfl | rfl
          · exact .inl rfl
          · exact .inr (.inl rfl)
          · exact .inr (.inr (.inl rfl))
          · exact .inr (.inr (.inr (.inl rfl)))
          · exact .inr (.inr (.inr (.inr (.inl rfl))))
          · exact .inr (.inr (.inr (.inr (.inr (.inr ⟨_, rfl, cd6⟩)))))
          · exact .inr (.inr (.inr (.inr (.inr (.inl rfl)))))
        have hm6 := ud6.at hm5 (.inr (by omega))
        have hk6 := hk5.frame ud6 (.inr (by omega)) (fun p hp => by have := ho p hp; omega)
        have wg6 : Upd g' g6 0 0 := w5.old ud6 (Nat.le_refl _)
        have hVV : ∀ G, Upd g6 G 0 0 → DueV G (.tup [.obj lm, .obj (g'.length + 1)]) (some (srtM mm, srtK (ko hl))) := fun G w => ⟨lm, g'.length + 1, mm, hl, rfl, w.at hm6 (.inr (Nat.zero_le _)), hk6.frame w (.inr (Nat.zero_le _)) Out.zero, srtM_eqv om.nd, srtK_eqk ok.wide⟩
        have w6 : Upd g6 g6 0 0 := Upd.refl ..
        have pre : ∃ z, g6 = g ++ z := (wg6.none g.length g.length).pre (Nat.le_refl _) pre
        clear e2 lt e3' ep
        obtain ⟨e, g7, e7, v7, u7⟩ := due_V hR
        have hR7 := hR.keep u7
        have w7 := w6.trans u7
        have v7 : e = .non := v7
        subst v7
        obtain ⟨x8, g8, e8, n8, u8⟩ := told_due (o := none) hR7 rfl
        have w8 := w7.trans u8
        obtain ⟨x9, g9, e9, n9, u9⟩ := told_due (hRR g8) (hVV g8 w8)
        obtain ⟨x10, g10, e10, n10, u10⟩ := told_due (o := none) ((hR7.keep u8).keep u9) rfl
        have pr := ((((w8.trans u9).trans u10)).none g.length g.length).pre (Nat.le_refl _) pre
        simp! [e5', h15, e6, e7, e8, n8, e9, n9, e10, n10]
        exact ⟨_, _, _, _, _, _, _, _, rfl, pr⟩
      · have hR : RdD g5 (.str (tx t)) (qAll (splitL 32 t)) := .inl ⟨t, zs, rfl, T, rfl⟩
        have hVV : ∀ G, Upd g5 G 0 0 → DueV G (.tup [.obj lm, .obj (g'.length + 1)]) (some (srtM mm, srtK (ko hl))) := fun G w => ⟨lm, g'.length + 1, mm, hl, rfl, w.at hm5 (.inr (Nat.zero_le _)), hk5.frame w (.inr (Nat.zero_le _)) Out.zero, srtM_eqv om.nd, srtK_eqk ok.wide⟩
        have w6 : Upd g5 g5 0 0 := Upd.refl ..
        have pre : ∃ z, g5 = g ++ z := (w5.none g.length g.length).pre (Nat.le_refl _) pre
        clear e2 lt e3' ep
        generalize qAll (splitL 32 t) = o at *
        generalize tx t = ts at *
        obtain ⟨e, g7, e7, v7, u7⟩ := due_V hR
        have hR7 := hR.keep u7
        have w7 := w6.trans u7
        cases o with
        | none =>
          have v7 : e = .non := v7
          subst v7
          obtain ⟨x8, g8, e8, n8, u8⟩ := told_due (o := none) hR7 rfl
          have w8 := w7.trans u8
          obtain ⟨x9, g9, e9, n9, u9⟩ := told_due (hRR g8) (hVV g8 w8)
          obtain ⟨x10, g10, e10, n10, u10⟩ := told_due (o := none) ((hR7.keep u8).keep u9) rfl
          have pr := ((((w8.trans u9).trans u10)).none g.length g.length).pre (Nat.le_refl _) pre
          simp! [e5', h15, e7, e8, n8, e9, n9, e10, n10]
          exact ⟨_, _, _, _, _, _, _, _, rfl, pr⟩
        | some p =>
          obtain ⟨a, b, md, hs, rfl, q1, q2, q3, q4⟩ := id v7
          have nt : ∀ g, opNotN (.tup [.obj a, .obj b]) .non g = .ok (.bl true) g := fun g => rfl
          have ix1 : ∀ g, opIx (.tup [.obj a, .obj b]) (.int 1) g = .ok (.obj b) g := fun g => o_ixT (k := 1) rfl
          have ld := lenD_of q2.d
          rw [gK_len] at ld
          by_cases h4 : (4 : Int) < (hs.length : Int)
          · obtain ⟨x8, g8, e8, n8, u8⟩ := told_due (hRR g7) (hVV g7 w7)
            have w8 := w7.trans u8
            obtain ⟨x9, g9, e9, n9, u9⟩ := told_due (hRR g8) (hVV g8 w8)
            have w9 := w8.trans u9
            obtain ⟨x10, g10, e10, n10, u10⟩ := told_due (hRR g9) (hVV g9 w9)
            have pr := ((w9.trans u10).none g.length g.length).pre (Nat.le_refl _) pre
            generalize (hs.length : Int) = hsl at *
            simp! [e5', h15, e7, nt, ix1, ld, h4, e8, n8, e9, n9, e10, n10]
            exact ⟨_, _, _, _, _, _, _, _, rfl, pr⟩
          · obtain ⟨x8, g8, e8, n8, u8⟩ := told_due hR7 v7
            have w8 := w7.trans u8
            obtain ⟨x9, g9, e9, n9, u9⟩ := told_due (hRR g8) (hVV g8 w8)
            obtain ⟨x10, g10, e10, n10, u10⟩ := told_due ((hR7.keep u8).keep u9) ((v7.keep u8).keep u9)
            have pr := (((w8.trans u9).trans u10).none g.length g.length).pre (Nat.le_refl _) pre
            generalize (hs.length : Int) = hsl at *
            simp! [e5', h15, e7, nt, ix1, ld, h4, e8, n8, e9, n9, e10, n10]
            exact ⟨_, _, _, _, _, _, _, _, rfl, pr⟩
  · rintro ρ' g' ⟨t1, t2, t3, t4, t5, t6, t7, t8, rfl, g2, rfl⟩
    refine ⟨g2, ?_⟩
    simp! []
end Ww

set_option maxRecDepth 100000
set_option maxHeartbeats 0
namespace Ww
open PySem PySem.Spec PyProof.Rows L2 Fw
theorem lawX {P : Program} {w : World} {K : PySem.W.Frag} {h : Heap} {mg : Str → Option Value} {f : Addr} (KX : K.In h) (G0 : h.Ns mainGlobals mg) (hf : mg ("law" : Str) = some (.ref f)) (c : Says w h K) :
    ∃ fd : FuncData, (∀ (s : Shared) (v : Value), BindsTo s fd ⟨[v], []⟩ [("_law_script", v)]) ∧ ∀ base : Heap, K.In base → base.Ns mainGlobals mg → FnM P w K mg base none 8 f fd ["_law_script"] (spM K 1 m_law) := by
  obtain ⟨fd, F⟩ := c.t.d.def_ 45 (d := d_law) rfl
  have e := hf.symm.trans (He.glo_ok KX G0 (c.t.d.fact 87 rfl))
  cases e
  have b := FunD.bindsA (ps := ["_law_script"]) F fun _ _ _ _ _ _ us hl => match us, hl with | [_], _ => rfl
  refine ⟨fd, fun s v => b s [v] rfl, fun base _ _ => ?_⟩
  exact fnm_pure (fnm_of F sc_law (vi := [0, 1, 2, 3, 4, 5, 6, 7, 8]) (ow := [0, 1, 2, 3, 4, 5, 6, 7, 8]) (gl := ["range", "len", "min", "max", "_law_pot", "_law_models", "_law_text", "_law_take", "_law_spoilt", "_law_drawn", "_law_due", "_law_told"]) (by kernel_rfl) fun X W C => rb_law c KX G0 C)
end Ww
open PySem PySem.W PySem.Calls PyProof.Rows
theorem Ww.holds_of (hm : ∀ ns : List Int, ns.length ≤ 63 → (∀ z ∈ ns, Builtin.Int.intBits z ≤ 1048576) → ∃ g', Ww.m_law [.lst (ns.map .int)] [] = .ok (.bl true) g') : PySem.Challenge.rw_cleanrows_k24_whole_spoilt_texts_of_file.Holds := by
  w_on; o_law
  refine HandSHeadRun.head_any (r := OpenLaw.row PySem.Challenge.rw_cleanrows_k24_whole_spoilt_texts_of_file) (q := view (OpenLaw.row PySem.Challenge.rw_cleanrows_k24_whole_spoilt_texts_of_file).prog [58]) (H := Ww.hkX) (ob := Ww.obX) (M := 40000) (loose := Ww.looseN) (d := HandSHeadRun.topDef (OpenLaw.row PySem.Challenge.rw_cleanrows_k24_whole_spoilt_texts_of_file).prog 58) (kwd := []) Ww.obX_eq
    (by kernel_rfl) (fun s => by kernel_rfl) Ww.runX (by kernel_rfl) (by kernel_rfl) (by kernel_rfl) (by rfl) (by first | assumption | decide +kernel) (by decide +kernel) ⟨rfl, rfl, rfl, rfl, rfl, by decide +kernel⟩ ?hw ?hc
  case hw => w_witness2
  case hc =>
    refine Fw.walk_ofM (l := PySem.Challenge.rw_cleanrows_k24_whole_spoilt_texts_of_file) (n := 63) (k := 8) (x := "_law_script") (m := Ww.m_law) rfl (by decide) (by kernel_rfl) ⟨by decide, by decide, rfl⟩ ?F hm
    intro w mg fa h Y G hmg0
    obtain ⟨K, KX, c⟩ := Y
    have hmg : mg ("law" : PySem.Str) = some (.ref fa) := by
      have e : (HandSHeadRun.topDef (OpenLaw.row PySem.Challenge.rw_cleanrows_k24_whole_spoilt_texts_of_file).prog 58).name = ("law" : PySem.Str) := by kernel_rfl
      rw [← e]
      exact hmg0
    obtain ⟨fd, hb, hF⟩ := Ww.lawX (P := (PySem.Challenge.rw_cleanrows_k24_whole_spoilt_texts_of_file).prog) (w := w) KX G hmg c
    exact ⟨K, fd, KX, by have e := c.more; simp only [Ww.ex, Bool.and_eq_true] at e; exact e.1, hb, hF⟩

theorem PySem.Challenge.cw_cleanrows_k24_whole_spoilt_texts_of_file_holds : PySem.Challenge.rw_cleanrows_k24_whole_spoilt_texts_of_file.Holds := by
  exact Ww.holds_of fun ns _ _ => ⟨[], Ww.law_ok ns []⟩

