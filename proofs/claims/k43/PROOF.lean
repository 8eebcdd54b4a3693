import PyProof.Rows.All
import Wide.All
import OpenK.AllK
import Wide.FinOn
import HandS.Codes
import HandS.Conv
import HandS.SortInts
import HandS.Small
import HandS.Style
import HandS.Flow
import HandS.Deep
import HandS.IsInst
import HandS.TupAny
import HandS.ForExc
import HandS.ForMost
import HandS.Head0
import HandS.Head1
import HandS.Head2
import HandS.HeadEnd
import HandS.HeadHook1
import HandS.HeadHook2
import KE.KRevSl
import HandS.FStr
import HandS.Defaults
import HandS.ExcIs
import HandS.MakeKwOnly
import HandS.Star
import HandS.Property
import HandS.CallSlots
import HandS.OwnIter
import KE.KOpsOwn
import HandS.IterVal
import KE.KxField
import KE.KExcSuper
import HandS.ExcInit
import HandS.ExcSuper
import HandS.ExcField
import HandS.TryOnly
import HandS.TryMany
import HandS.ClsMeth
import KE.KDictKeyed
import KE.KDictDisplayH
import KE.KeyNested
import HandS.Iter
import HandS.More
import KE.KEqDict
import HandS.Finally
import PySem.Challenge.RW_kindnotes_k43_whole_quiet_signs
set_option Elab.async false
set_option maxRecDepth 100000
set_option linter.all false
set_option autoImplicit false
namespace Kn
open PySem L2
abbrev Fg : Type := PySem.W.Frag
def toQ (o : Obj) : List Addr := (match o.dict with
    | some d => [d]
    | none => []) ++ match o.data with
  | .seq its _ => its.toList.flatMap He.refV
  | .dict es _ => es.toList.flatMap fun e => He.refV e.val
  | .func fd => He.refV fd.code ++ (He.refV fd.defaults ++ (He.refV fd.kwdefaults ++ fd.closure.map Prod.snd))
  | .cls cd => [cd.ns]
  | .fields vs => (match o.cls with
    | .type n => if n = "property" then vs.toList.flatMap He.refV else []
    | _ => [])
  | _ => []
def asQ (g : Addr → Option Obj) : Nat → List Addr → List Addr
  | 0, fr => fr
  | n + 1, fr => fr ++ asQ g n (fr.flatMap fun a => match g a with
    | some o => toQ o
    | none => [])
def forceK {β : Type} : Fg → (Fg → β) → β
  | [], k => k []
  | (a, o) :: r, k => HandSHeadRun.frNat a fun a => forceK r fun r => k ((a, o) :: r)
theorem forceK_eq {β : Type} : ∀ (K : Fg) (k : Fg → β), forceK K k = k K
  | [], k => rfl
  | (a, o) :: r, k => by
    unfold forceK
    rw [HandSHeadRun.frNat_eq, forceK_eq r]
structure Dq where
  adr : Fg → Addr
  name : Str
  qual : Str
  st : Stmt
  dfl : List V := []
  kwd : List (Str × V) := []
  clo : List Str := []
abbrev Fq : Type := Str × Str × Arguments × FuncBody × Scope × Addr × List Str × Addr
def Dq.want (d : Dq) : Option Fq := some (d.name, d.qual, defArgs d.st, .stmts (defBody d.st), defScope d.st, mainGlobals, d.clo, builtinsNs)
def seeQ (K : Fg) (a : Addr) : Option Fq := match K.lookup a with
  | some ⟨_, _, .func z, _⟩ => some (z.name, z.qualname, z.params, z.body, z.scope, z.globals, z.closure.map Prod.fst, z.builtins)
  | _ => none
def okQ (K : Fg) (d : Dq) : Bool := PySem.W.keepIn K (.ref (d.adr K)) && match K.lookup (d.adr K) with
  | some ⟨_, _, .func z, _⟩ => PySem.W.codeIn K z.code d.qual && (He.dflB K z.defaults d.dfl && He.kwdB K z.kwdefaults d.kwd)
  | _ => false
abbrev Bf : Type := Fg → Bool
abbrev gA (x : Str) (K : Fg) : Addr := He.ga K x
abbrev mA (C m : Str) (K : Fg) : Addr := He.ma K (He.ga K C) m
def bFa (f : He.Fa) : Bf := fun K => f.ok K
def bCon (x : Str) (v : V) : Bf := fun K => match PySem.W.nsIn K mainGlobals x with
  | some (some u) => He.relB v u
  | _ => false
def bFind (C f : Str) (v : Option (Option Value)) : Bf := fun K => He.eqO (PySem.W.findIn K (.ref (He.ga K C)) f) v
def bNoSeq (C : Str) : Bf := fun K => PySem.W.noSeq K (He.ga K C)
def pgA (C m : Str) (K : Fg) : Addr := match PySem.W.recIn K (mA C m K) "property" with
  | some (.ref f :: _) => f
  | _ => 0
def bSup (C : Str) : Bf := fun K => match K.lookup (He.ga K C) with
  | some ⟨.type t, _, .cls cd, sl⟩ => decide (t = "type") && (cd.hasDict && (!cd.hasDel && ((match cd.mro with
    | .ref C' :: bm => decide (C' = He.ga K C) && PySem.HandSPX.refsVE bm
    | _ => false) && match sl.toList with
    | [_, _, _, _, some (.builtin n), _] => decide (n = "ValueError.__new__")
    | _ => false)))
  | _ => false
def bSup2 (C : Str) : Bf := fun K => He.eqO (PySem.W.findIn K (.ref (He.ga K C)) "__setattr__") (some (some (.builtin "object.__setattr__"))) && (decide (PySem.W.subIn K (.ref (He.ga K C)) (.type "BaseException") = some true) && (decide (PySem.W.typeIn K (.ref (He.ga K C)) = some (.type "type")) && (PySem.W.keepIn K (.ref (He.ga K C)) && (decide (PySem.W.mroIn K (He.ga K C) (.ref (He.ga K C)) = some true) && (decide (PySem.W.subIn K (.ref (He.ga K C)) (.type "ValueError") = some true) && (He.eqO (PySem.W.ks_superIn K (He.ga K C) (He.ga K C) "__init__") (some (some (.builtin "ValueError.__init__"))) && He.eqO (PySem.W.nsIn K cStatics "thirdparty.any") (some none)))))))
def cellA (C : Str) (K : Fg) : Addr := match K.lookup (mA C "__init__" K) with
  | some ⟨_, _, .func z, _⟩ => (match z.closure with
    | [(_, c)] => c
    | _ => 0)
  | _ => 0
def codeA (C : Str) (K : Fg) : Addr := match K.lookup (mA C "__init__" K) with
  | some ⟨_, _, .func z, _⟩ => (match z.code with
    | .ref c => c
    | _ => 0)
  | _ => 0
def isFile (file : Str) (vs : Array Value) : Bool := match vs[2]? with
  | some (Value.str x _) => file == x
  | _ => false
def bInit (C : Str) (file : Str) : Bf := fun K => (match K.lookup (cellA C K) with
  | some ⟨_, _, .cell (some (.ref D)), _⟩ => decide (D = He.ga K C)
  | _ => false) && match K.lookup (codeA C K) with
  | some ⟨_, _, .fields vs, _⟩ => isFile file vs
  | _ => false
abbrev Aq : Type := List (Option Fq) × Bool
def obsK (ds : List Dq) (bs : List Bf) (K : Fg) : Aq := (ds.map fun d => seeQ K (d.adr K), (ds.all fun d => okQ K d) && bs.all fun b => b K)
def wantK (ds : List Dq) : Aq := (ds.map Dq.want, true)
def obsG (ds : List Dq) (bs : List Bf) (g : Addr → Option Obj) : Aq := forceK (He.frG g (asQ g 5 [mainGlobals, cStatics])) (obsK ds bs)
def hookQ (ds : List Dq) (bs : List Bf) : PySem.W.Hook where
  α := Aq
  obs := fun s => obsG ds bs s.heap.get?
  val := fun _ => wantK ds
  says := fun _ h => ∃ K : Fg, K.In h ∧ obsK ds bs K = wantK ds
  of := fun _ _ e => ⟨_, He.frG_in, (forceK_eq _ _).symm.trans e⟩
  keeps := fun _ _ _ ⟨K, hK, c⟩ k => ⟨K, PySem.W.Frag.In.keeps hK k, c⟩
end Kn
set_option synthInstance.maxHeartbeats 0
set_option synthInstance.maxSize 100000
set_option Elab.async false
set_option maxRecDepth 100000
set_option linter.all false
set_option maxHeartbeats 0
set_option pp.maxSteps 30
set_option pp.deepTerms false
set_option pp.proofs false
namespace Kn
open PySem L2
def topH (i : Nat) : Stmt := PySem.Challenge.pw_kindnotes_k43_whole_quiet_signs.main.body.getD i (.Pass ⟨0, 0, 0, 0⟩)
abbrev t_Book___getitem__ : Stmt := inClass (topH 57) 1
abbrev t_Book___init__ : Stmt := inClass (topH 57) 0
abbrev t_Book___setitem__ : Stmt := inClass (topH 57) 2
abbrev t_Book_need : Stmt := inClass (topH 57) 7
abbrev t_NoWay_init : Stmt := inClass (topH 8) 0
abbrev t_Stock___init__ : Stmt := inClass (topH 24) 0
abbrev t_Table___init__ : Stmt := inClass (topH 31) 0
abbrev t_Table___setitem__ : Stmt := inClass (topH 31) 2
abbrev t_UnknownSign_init : Stmt := inClass (topH 7) 0
abbrev t__law_adds : Stmt := topH 70
abbrev t__law_around : Stmt := topH 80
abbrev t__law_book : Stmt := topH 73
abbrev t__law_cell : Stmt := topH 61
abbrev t__law_differences : Stmt := topH 75
abbrev t__law_form : Stmt := topH 66
abbrev t__law_loud_node : Stmt := topH 77
abbrev t__law_node : Stmt := topH 76
abbrev t__law_part : Stmt := topH 69
abbrev t__law_parts : Stmt := topH 79
abbrev t__law_quiet : Stmt := topH 78
abbrev t__law_right : Stmt := topH 81
abbrev t__law_rows : Stmt := topH 74
abbrev t__law_rule : Stmt := topH 67
abbrev t__law_stock : Stmt := topH 65
abbrev t__law_table : Stmt := topH 72
abbrev t__law_take : Stmt := topH 63
abbrev t__law_tape : Stmt := topH 62
abbrev t__law_way : Stmt := topH 68
abbrev t__law_words : Stmt := topH 64
abbrev t_are_integers : Stmt := topH 33
abbrev t_are_steps : Stmt := topH 32
abbrev t_ascending : Stmt := topH 34
abbrev t_check_all_ways : Stmt := topH 48
abbrev t_check_node : Stmt := topH 40
abbrev t_check_part : Stmt := topH 41
abbrev t_check_ways : Stmt := topH 42
abbrev t_fits_shapes : Stmt := topH 19
abbrev t_has_letters : Stmt := topH 18
abbrev t_is_form : Stmt := topH 17
abbrev t_is_kind : Stmt := topH 20
abbrev t_is_letter : Stmt := topH 16
abbrev t_is_noted : Stmt := topH 39
abbrev t_is_way : Stmt := topH 35
abbrev t_is_word : Stmt := topH 15
abbrev t_law : Stmt := topH 82
abbrev t_leads_back : Stmt := topH 21
abbrev t_node_differences : Stmt := topH 58
abbrev t_node_need : Stmt := topH 45
abbrev t_own_need : Stmt := topH 46
abbrev t_part_needs : Stmt := topH 47
abbrev t_quiet_signs : Stmt := topH 59
abbrev t_rows_of : Stmt := topH 49
abbrev t_rule_fits : Stmt := topH 30
abbrev t_sound_order : Stmt := topH 23
abbrev t_sound_shapes : Stmt := topH 22
abbrev t_way_fits : Stmt := topH 36
def hds0 : List Dq := [⟨gA "is_word", "is_word", "is_word", t_is_word, [], [], []⟩, ⟨gA "is_letter", "is_letter", "is_letter", t_is_letter, [], [], []⟩, ⟨gA "is_form", "is_form", "is_form", t_is_form, [], [], []⟩, ⟨gA "has_letters", "has_letters", "has_letters", t_has_letters, [], [], []⟩, ⟨gA "fits_shapes", "fits_shapes", "fits_shapes", t_fits_shapes, [], [], []⟩, ⟨gA "is_kind", "is_kind", "is_kind", t_is_kind, [], [], []⟩, ⟨gA "leads_back", "leads_back", "leads_back", t_leads_back, [], [], []⟩, ⟨gA "sound_shapes", "sound_shapes", "sound_shapes", t_sound_shapes, [], [], []⟩, ⟨gA "sound_order", "sound_order", "sound_order", t_sound_order, [], [], []⟩, ⟨gA "rule_fits", "rule_fits", "rule_fits", t_rule_fits, [], [], []⟩, ⟨gA "are_steps", "are_steps", "are_steps", t_are_steps, [], [], []⟩, ⟨gA "are_integers", "are_integers", "are_integers", t_are_integers, [], [], []⟩, ⟨gA "ascending", "ascending", "ascending", t_ascending, [], [], []⟩, ⟨gA "is_way", "is_way", "is_way", t_is_way, [], [], []⟩, ⟨gA "way_fits", "way_fits", "way_fits", t_way_fits, [], [], []⟩, ⟨gA "is_noted", "is_noted", "is_noted", t_is_noted, [], [], []⟩, ⟨gA "check_node", "check_node", "check_node", t_check_node, [], [], []⟩, ⟨gA "check_part", "check_part", "check_part", t_check_part, [], [], []⟩, ⟨gA "check_ways", "check_ways", "check_ways", t_check_ways, [], [], []⟩, ⟨gA "node_need", "node_need", "node_need", t_node_need, [], [], []⟩, ⟨gA "own_need", "own_need", "own_need", t_own_need, [], [], []⟩, ⟨gA "part_needs", "part_needs", "part_needs", t_part_needs, [], [], []⟩, ⟨gA "check_all_ways", "check_all_ways", "check_all_ways", t_check_all_ways, [], [], []⟩, ⟨gA "rows_of", "rows_of", "rows_of", t_rows_of, [], [], []⟩, ⟨gA "node_differences", "node_differences", "node_differences", t_node_differences, [], [], []⟩]
def hds1 : List Dq := [⟨gA "quiet_signs", "quiet_signs", "quiet_signs", t_quiet_signs, [], [], []⟩, ⟨gA "_law_cell", "_law_cell", "_law_cell", t__law_cell, [], [], []⟩, ⟨gA "_law_tape", "_law_tape", "_law_tape", t__law_tape, [], [], []⟩, ⟨gA "_law_take", "_law_take", "_law_take", t__law_take, [], [], []⟩, ⟨gA "_law_words", "_law_words", "_law_words", t__law_words, [], [], []⟩, ⟨gA "_law_stock", "_law_stock", "_law_stock", t__law_stock, [], [], []⟩, ⟨gA "_law_form", "_law_form", "_law_form", t__law_form, [], [], []⟩, ⟨gA "_law_rule", "_law_rule", "_law_rule", t__law_rule, [], [], []⟩, ⟨gA "_law_way", "_law_way", "_law_way", t__law_way, [], [], []⟩, ⟨gA "_law_part", "_law_part", "_law_part", t__law_part, [], [], []⟩, ⟨gA "_law_adds", "_law_adds", "_law_adds", t__law_adds, [], [], []⟩, ⟨gA "_law_table", "_law_table", "_law_table", t__law_table, [], [], []⟩, ⟨gA "_law_book", "_law_book", "_law_book", t__law_book, [], [], []⟩, ⟨gA "_law_rows", "_law_rows", "_law_rows", t__law_rows, [], [], []⟩, ⟨gA "_law_differences", "_law_differences", "_law_differences", t__law_differences, [], [], []⟩, ⟨gA "_law_node", "_law_node", "_law_node", t__law_node, [], [], []⟩, ⟨gA "_law_loud_node", "_law_loud_node", "_law_loud_node", t__law_loud_node, [], [], []⟩, ⟨gA "_law_quiet", "_law_quiet", "_law_quiet", t__law_quiet, [], [], []⟩, ⟨gA "_law_parts", "_law_parts", "_law_parts", t__law_parts, [], [], []⟩, ⟨gA "_law_around", "_law_around", "_law_around", t__law_around, [], [], []⟩, ⟨gA "_law_right", "_law_right", "_law_right", t__law_right, [], [], []⟩, ⟨gA "law", "law", "law", t_law, [], [], []⟩, ⟨mA "UnknownSign" "__init__", "__init__", "UnknownSign.__init__", t_UnknownSign_init, [], [], ["__class__"]⟩, ⟨mA "NoWay" "__init__", "__init__", "NoWay.__init__", t_NoWay_init, [], [], ["__class__"]⟩, ⟨mA "Stock" "__init__", "__init__", "Stock.__init__", t_Stock___init__, [.non], [], []⟩]
def hds2 : List Dq := [⟨mA "Table" "__init__", "__init__", "Table.__init__", t_Table___init__, [], [], []⟩, ⟨mA "Table" "__setitem__", "__setitem__", "Table.__setitem__", t_Table___setitem__, [], [], []⟩, ⟨mA "Book" "__init__", "__init__", "Book.__init__", t_Book___init__, [], [], []⟩, ⟨mA "Book" "__getitem__", "__getitem__", "Book.__getitem__", t_Book___getitem__, [], [], []⟩, ⟨mA "Book" "__setitem__", "__setitem__", "Book.__setitem__", t_Book___setitem__, [], [], []⟩, ⟨mA "Book" "need", "need", "Book.need", t_Book_need, [], [("told", .bl false)], []⟩]
def hds : List Dq := hds0 ++ (hds1 ++ (hds2))
def hbs0 : List Bf := [bFa (.glo "is_word"), bFa (.glo "is_letter"), bFa (.glo "is_form"), bFa (.glo "has_letters"), bFa (.glo "fits_shapes"), bFa (.glo "is_kind"), bFa (.glo "leads_back"), bFa (.glo "sound_shapes"), bFa (.glo "sound_order"), bFa (.glo "rule_fits"), bFa (.glo "are_steps"), bFa (.glo "are_integers"), bFa (.glo "ascending"), bFa (.glo "is_way"), bFa (.glo "way_fits"), bFa (.glo "is_noted"), bFa (.glo "check_node"), bFa (.glo "check_part"), bFa (.glo "check_ways"), bFa (.glo "node_need"), bFa (.glo "own_need"), bFa (.glo "part_needs"), bFa (.glo "check_all_ways"), bFa (.glo "rows_of"), bFa (.glo "node_differences")]
def hbs1 : List Bf := [bFa (.glo "quiet_signs"), bFa (.glo "_law_cell"), bFa (.glo "_law_tape"), bFa (.glo "_law_take"), bFa (.glo "_law_words"), bFa (.glo "_law_stock"), bFa (.glo "_law_form"), bFa (.glo "_law_rule"), bFa (.glo "_law_way"), bFa (.glo "_law_part"), bFa (.glo "_law_adds"), bFa (.glo "_law_table"), bFa (.glo "_law_book"), bFa (.glo "_law_rows"), bFa (.glo "_law_differences"), bFa (.glo "_law_node"), bFa (.glo "_law_loud_node"), bFa (.glo "_law_quiet"), bFa (.glo "_law_parts"), bFa (.glo "_law_around"), bFa (.glo "_law_right"), bFa (.glo "law"), bCon "FOUND" (.str "found"), bCon "LARGE" (.str "ABCDEFGHIJKLMNOPQRSTUVWXYZ"), bCon "LONGEST_WORD" (.int 12)]
def hbs2 : List Bf := [bCon "MOST_PARTS" (.int 3), bCon "MOST_PLACES" (.int 3), bCon "MOST_SIGNS" (.int 8), bCon "MOST_WORDS" (.int 12), bCon "NOTE" (.str ":"), bCon "SMALL" (.str "abcdefghijklmnopqrstuvwxyz"), bCon "TOLD" (.str "told"), bFa (.free "all"), bFa (.free "any"), bFa (.free "bool"), bFa (.free "dict"), bFa (.free "int"), bFa (.free "isinstance"), bFa (.free "len"), bFa (.free "list"), bFa (.free "min"), bFa (.free "range"), bFa (.free "sorted"), bFa (.free "str"), bFa (.free "sum"), bFa (.free "tuple"), bFa (.glo "BadKind"), bFa (.exc "BadKind"), bFa (.glo "BadRule"), bFa (.exc "BadRule")]
def hbs3 : List Bf := [bFa (.glo "BadWay"), bFa (.exc "BadWay"), bFa (.glo "BadProgram"), bFa (.exc "BadProgram"), bFa (.glo "NotesError"), bFa (.glo "UnknownSign"), bFa (.glo "NoWay"), bFa (.glo "Stock"), bFa (.glo "Table"), bFa (.glo "Book"), bSup "UnknownSign", bSup2 "UnknownSign", bInit "UnknownSign" PySem.Challenge.pw_kindnotes_k43_whole_quiet_signs.main.file, bFa (.meth "UnknownSign" "__init__"), bFa (.free "super"), bFind "UnknownSign" "sign" (some none), bSup "NoWay", bSup2 "NoWay", bInit "NoWay" PySem.Challenge.pw_kindnotes_k43_whole_quiet_signs.main.file, bFa (.meth "NoWay" "__init__"), bFind "NoWay" "sign" (some none), bFa (.cls "Stock"), bFa (.noat "Stock" "shapes"), bFa (.noat "Stock" "above"), bFa (.mkr "Stock")]
def hbs4 : List Bf := [bFa (.cls "Table"), bFa (.noat "Table" "stock"), bFa (.noat "Table" "rules"), bNoSeq "Table", bFa (.mkr "Table"), bFa (.meth "Table" "__setitem__"), bFa (.cls "Book"), bFa (.noat "Book" "table"), bFa (.noat "Book" "ways"), bNoSeq "Book", bFa (.mkr "Book"), bFa (.meth "Book" "__getitem__"), bFa (.meth "Book" "__setitem__"), bFa (.meth "Book" "need")]
def hbs : List Bf := hbs0 ++ (hbs1 ++ (hbs2 ++ (hbs3 ++ (hbs4))))
def loose0 : List Str := ["_wall", "NotesError", "BadKind", "BadRule", "BadWay", "BadProgram", "UnknownSign", "NoWay", "SMALL", "LARGE", "LONGEST_WORD", "MOST_PARTS", "MOST_WORDS", "is_word", "is_letter", "is_form", "has_letters", "fits_shapes", "is_kind", "leads_back", "sound_shapes", "sound_order", "Stock", "TOLD", "FOUND", "MOST_PLACES", "MOST_SIGNS", "rule_fits", "Table", "are_steps"]
def loose1 : List Str := ["are_integers", "ascending", "is_way", "way_fits", "NOTE", "is_noted", "check_node", "check_part", "check_ways", "LEVELS", "node_need", "own_need", "part_needs", "check_all_ways", "rows_of", "node_case", "bare_node", "next_level", "levels", "grows", "greatest_surplus", "Book", "node_differences", "quiet_signs", "_law_cell", "_law_tape", "_law_take", "_law_words", "_law_stock", "_law_form"]
def loose2 : List Str := ["_law_rule", "_law_way", "_law_part", "_law_adds", "_law_needs", "_law_table", "_law_book", "_law_rows", "_law_differences", "_law_node", "_law_loud_node", "_law_quiet", "_law_parts", "_law_around", "_law_right"]
def loose : List Str := loose0 ++ (loose1 ++ (loose2))
abbrev hR : PySem.W.OpenRow := PySem.W.OpenLaw.row PySem.Challenge.rw_kindnotes_k43_whole_quiet_signs
abbrev hq : Program := PySem.W.view hR.prog [82]
theorem glue3 {α β γ δ : Type} {o : Option α} {f : α → β} {g : α → γ} {h : α → δ} {a : β} {b : γ} {c : δ} (h1 : o.map f = some a) (h2 : o.map g = some b) (h3 : o.map h = some c) : o.map (fun s => (f s, g s, h s)) = some (a, b, c) := by
  cases o with
  | none => cases h1
  | some s =>
    injection h1 with h1
    injection h2 with h2
    injection h3 with h3
    subst h1 h2 h3
    rfl
open HandSHeadRun PySem PySem.W PySem.Calls PyProof.Rows in
theorem hrA (w : World) (os : OsState) : (endF (stepQ (denQ tabQ) hR.prog w) 30000 hR.prog w os).map (fun s => looksF hR.prog (boot_heap w.params) s.abs) = some true := by kernel_rfl
open HandSHeadRun PySem PySem.W PySem.Calls PyProof.Rows in
theorem hrB (w : World) (os : OsState) : (endF (stepQ (denQ tabQ) hR.prog w) 30000 hR.prog w os).map (fun s => seenQ hq loose (importedModules hR.prog.main.body) (fun s => xlAt hq [] s && recOk hR.toRowW.records s) s.abs) = some (openGood hq loose) := by kernel_rfl
open HandSHeadRun PySem PySem.W PySem.Calls PyProof.Rows in
theorem hrC (w : World) (os : OsState) : (endF (stepQ (denQ tabQ) hR.prog w) 30000 hR.prog w os).map (fun s => obsG hds hbs (HandSHeadRun.getT s)) = some ((hookQ hds hbs).val w) := by kernel_rfl
theorem hrun (w : World) : HandSHeadRun.RunEq hR hq (hookQ hds hbs) (fun s => obsG hds hbs (HandSHeadRun.getT s)) 30000 loose w := by
  intro os
  refine glue3 ?_ ?_ ?_
  · exact hrA w os
  · exact hrB w os
  · exact hrC w os
end Kn
set_option synthInstance.maxHeartbeats 0
set_option synthInstance.maxSize 100000
set_option Elab.async false
set_option maxRecDepth 100000
set_option linter.all false
namespace Kn
open PySem L2
open HandSHeadRun PySem PySem.W PySem.Calls PyProof.Rows in
theorem obsG_eqH {ds : List Dq} {bs : List Bf} (s : PySem.W.SharedT) : obsG ds bs (HandSHeadRun.getT s) = (hookQ ds bs).obs s.abs := by
  have e : HandSHeadRun.getT s = s.abs.heap.get? := funext (HandSHeadRun.getT_eq s)
  rw [e]; rfl
open HandSHeadRun PySem PySem.W PySem.Calls PyProof.Rows in
set_option synthInstance.maxHeartbeats 0 in
set_option synthInstance.maxSize 100000 in
set_option maxRecDepth 100000 in
set_option maxHeartbeats 0 in
theorem headA (call : WalkO Kn.hq Kn.loose (XL Kn.hq []) (Kn.hookQ Kn.hds Kn.hbs).says Kn.hR.toRowW (HandSHeadRun.topDef (OpenLaw.row PySem.Challenge.rw_kindnotes_k43_whole_quiet_signs).prog 82) [] fun f vs => PySem.call f vs) : PySem.Challenge.rw_kindnotes_k43_whole_quiet_signs.Holds := by
  w_on; o_law
  refine HandSHeadRun.head_any (r := Kn.hR) (q := Kn.hq) (H := Kn.hookQ Kn.hds Kn.hbs) (ob := fun s => Kn.obsG Kn.hds Kn.hbs (HandSHeadRun.getT s)) (M := 30000) (loose := Kn.loose) (d := HandSHeadRun.topDef (OpenLaw.row PySem.Challenge.rw_kindnotes_k43_whole_quiet_signs).prog 82) (kwd := []) (fun s => Kn.obsG_eqH s)
    (by kernel_rfl) (fun s => by kernel_rfl) Kn.hrun (by kernel_rfl) (by kernel_rfl) (by kernel_rfl) (by rfl) (by first | assumption | decide +kernel) (by decide +kernel) ⟨rfl, rfl, rfl, rfl, rfl, by decide +kernel⟩ ?hw call
  case hw => w_witness2
end Kn
set_option Elab.async false
set_option maxRecDepth 100000
namespace Kn
open PySem L2
structure Fz (K : PySem.W.Frag) (mg : Str → Option Value) (x : Str) (st : Stmt) (ps : List Str) : Prop where
  ex : ∃ (f : Addr) (fd : FuncData), Fun K x x st f fd ∧ mg x = some (.ref f) ∧ Binds K fd ps []
structure Fx (P : Program) (w : World) (K : PySem.W.Frag) (mg : Str → Option Value) (base : Heap) (CX : CXT) (x : Str) (k : Nat) (ps : List Str) (sp : Sp) : Prop where
  ex : ∃ (f : Addr) (fd : FuncData), FnOk P w K mg base CX k f fd ps sp ∧ mg x = some (.ref f) ∧ PySem.W.keepIn K (.ref f) = true ∧ Binds K fd ps []
theorem Fx.mono {P : Program} {w : World} {K : PySem.W.Frag} {mg : Str → Option Value} {base : Heap} {CX : CXT} {x : Str} {j k : Nat} {ps : List Str} {sp : Sp} (F : Fx P w K mg base CX x j ps sp) (h : j ≤ k) : Fx P w K mg base CX x k ps sp :=
  let ⟨f, fd, a, b⟩ := F.ex
  ⟨f, fd, a.mono h, b⟩
theorem Fz.ok {P : Program} {w : World} {K : PySem.W.Frag} {mg : Str → Option Value} {base : Heap} {x : Str} {st : Stmt} {ps N : List Str} {k : Nat} {sp : Sp} (F : Fz K mg x st ps) (S : FnScope N ps (defScope st)) (len : ∀ vs H Q E, sp vs H Q E → vs.length = ps.length)
    (hbody : ∀ (f : Addr) (cdv : Value) (A : Around) (outer : List Env) (s : Shared) (H : Hp) (vs : List V) (Q : VK) (E : XK), Room k (A.deeper (PyProof.Rows.envOfC x (defScope st) s.heap.objs.size f cdv)) → sp vs H Q E →
      ∃ t, PSs (cxOf CX0 P w K mg base N x (defScope st) f cdv A outer s H E).nox (defBody st) t ∧ t { nx := fun _ H' => Q .non H', rt := Q } (start N vs) H) : Fx P w K mg base CX0 x (k + 1) ps sp := by
  obtain ⟨f, fd, F1, m, b⟩ := F.ex
  exact ⟨f, fd, F1.ok S len (hbody f), m, F1.kp, b⟩
theorem Fz.none {P : Program} {w : World} {K : PySem.W.Frag} {mg : Str → Option Value} {base : Heap} {CX : CXT} {x : Str} {st : Stmt} {ps : List Str} {k : Nat} {sp : Sp} (F : Fz K mg x st ps) (h : ∀ vs H Q E, ¬ sp vs H Q E) : Fx P w K mg base CX x k ps sp := by
  obtain ⟨f, fd, F1, m, b⟩ := F.ex
  exact ⟨f, fd, ⟨fun vs H Q E z => (h vs H Q E z).elim, fun A outer s H args us vs Q E _ _ _ _ z => (h vs H Q E z).elim⟩, m, F1.kp, b⟩
section
variable {X : Cx} {k : Nat} {ps : List Str} {sp : Sp} {E : XK} {x : Str} {p pos : Pos} {e : Expr} {es : List Expr} {t : TA} {CX : CXT}
theorem fcall (F : Fx X.prog X.w X.K X.mg X.base CX0 x k ps sp) (hr : Room k X.A) (hg : Gl X x) (ha : PA X (e :: es) t)
    (hdb : (x == ("__debug__" : Str)) = false := by decide) (he : starEach (e :: es) X.env = (false, eval e X.env) :: starEach es X.env := by rfl) (hpl : (backTo pos (starEach es X.env)).any (·.1) = false := by rfl) :
    PE X (.Call (.Name x p) (e :: es) [] pos) (tCall sp [] E0 t) := by
  obtain ⟨f, fd, F1, m, kp, b⟩ := F.ex
  exact pe_call F1 hr hg m kp b .nil pass0 ha hdb he hpl
theorem pglob {v : V} (hg : Gl X x) (h : ∃ u, X.mg x = some u ∧ RelV v u) (hd : (x == ("__debug__" : Str)) = false := by decide) : PE X (.Name x pos) (tC v) := by
  obtain ⟨u, hm, r⟩ := h
  exact pe_glob hg hm r hd
end
def Tape (H : Hp) (t : Addr) : Prop := ∃ ns : List Int, H t = some (.lst (ns.map V.int))
structure Dr (t : Addr) (H H' : Hp) : Prop where
  tape : Tape H' t
  keep : ∀ b o, H b = some o → b ≠ t → H' b = some o
theorem Dr.trans {t : Addr} {H H1 H2 : Hp} (a : Dr t H H1) (b : Dr t H1 H2) : Dr t H H2 := ⟨b.tape, fun c o h n => b.keep c o (a.keep c o h n) n⟩
theorem Dr.refl {t : Addr} {H : Hp} (a : Tape H t) : Dr t H H := ⟨a, fun _ _ h _ => h⟩
theorem Tape.ne {H : Hp} {t b : Addr} (h : Tape H t) (hb : H b = none) : t ≠ b := by
  obtain ⟨ns, h⟩ := h
  exact ne_of_none h hb
theorem Dr.new {t : Addr} {H : Hp} {p : Addr} {o : HO} (a : Tape H t) (hp : H p = none) : Dr t H (upd H p o) := by
  have n := a.ne hp
  refine ⟨?_, fun b u h nb => ?_⟩
  · obtain ⟨ns, h⟩ := a
    exact ⟨ns, by rw [upd_ne n]; exact h⟩
  · rw [upd_ne (ne_of_none h hp)]
    exact h
theorem Dr.put {t : Addr} {H : Hp} (ns : List Int) : Dr t H (upd H t (.lst (ns.map V.int))) := ⟨⟨ns, upd_same⟩, fun b o h n => by rw [upd_ne n]; exact h⟩
theorem Dr.upd {t : Addr} {H H1 : Hp} {l : Addr} {o : HO} (d : Dr t H H1) (n : t ≠ l) (hl : H l = none) : Dr t H (upd H1 l o) := by
  refine ⟨?_, fun b u h nb => ?_⟩
  · obtain ⟨ns, h⟩ := d.tape
    exact ⟨ns, by rw [upd_ne n]; exact h⟩
  · rw [upd_ne (ne_of_none h hl)]
    exact d.keep b u h nb
def spTake : Sp := fun vs H Q _ => ∃ (t : Addr) (m : Int), vs = [.ref t, .int m] ∧ Tape H t ∧ 0 < m ∧ ∀ (r : Int) (H' : Hp), 0 ≤ r → r < m → Dr t H H' → Q (.int r) H'
section
variable {X : Cx}
theorem ix_listK (K : PySem.W.Frag) (h : X.K = K := by rfl) : IxR X (rIxL K) := by subst h; exact ix_list
theorem ix_seqK (K : PySem.W.Frag) (h : X.K = K := by rfl) : IxR X (rIx K) := by subst h; exact ix_seq
theorem sl_listK (K : PySem.W.Frag) (h : X.K = K := by rfl) : SlR X (rSlL K) := by subst h; exact sl_list
theorem sl_tupAK (K : PySem.W.Frag) (h : X.K = K := by rfl) : SlR X (rSlA K) := by subst h; exact sl_tupA
theorem op_in_seqK (K : PySem.W.Frag) (h : X.K = K := by rfl) : OpR X (compareOp .In) (rIn K false) := by subst h; exact op_in_seq
theorem op_notIn_seqK (K : PySem.W.Frag) (h : X.K = K := by rfl) : OpR X (compareOp .NotIn) (rIn K true) := by subst h; exact op_notIn_seq
theorem op_catAK (K : PySem.W.Frag) (h : X.K = K := by rfl) : OpR X (binaryOp .Add) (rCatA K) := by subst h; exact op_catA
theorem cr_sortedK (K : PySem.W.Frag) (h : X.K = K := by rfl) : CallR X (.builtin "sorted") (rSorted K) := by subst h; exact cr_sorted
theorem call_isi1K (K : PySem.W.Frag) (h : X.K = K := by rfl) : CallR X (.builtin "isinstance") (rIsi K) := by subst h; exact call_isi
theorem call_isiTK (K : PySem.W.Frag) (h : X.K = K := by rfl) : CallR X (.builtin "isinstance") (rIsiT K) := by subst h; exact call_isiT
theorem op_eqDK (K : PySem.W.Frag) (hu : X.A.units + 64 < cLine) (h : X.K = K := by rfl) : OpR X (compareOp .Eq) (rEqD K) := by subst h; exact op_eqD hu
theorem op_neDK (K : PySem.W.Frag) (hu : X.A.units + 64 < cLine) (h : X.K = K := by rfl) : OpR X (compareOp .NotEq) (rNeD K) := by subst h; exact op_neD hu
theorem op_inDK (K : PySem.W.Frag) (hu : X.A.units + 65 < cLine) (h : X.K = K := by rfl) : OpR X (compareOp .In) (rInD K) := by subst h; exact op_inD hu
theorem op_notInDK (K : PySem.W.Frag) (hu : X.A.units + 65 < cLine) (h : X.K = K := by rfl) : OpR X (compareOp .NotIn) (rNotInD K) := by subst h; exact op_notInD hu
theorem cr_sumK (K : PySem.W.Frag) (hu : X.calm = true) (h : X.K = K := by rfl) : CallR X (.builtin "sum") (rSum K) := by subst h; exact cr_sum hu
theorem cr_allK (K : PySem.W.Frag) (hu : X.calm = true) (h : X.K = K := by rfl) : CallR X (.builtin "all") (rAll K) := by subst h; exact cr_all hu
theorem cr_anyK (K : PySem.W.Frag) (hu : X.calm = true) (h : X.K = K := by rfl) : CallR X (.builtin "any") (rAny K) := by subst h; exact cr_any hu
def rLenSq (K : PySem.W.Frag) : List V → Hp → VK → Prop := fun xs H Q => ∃ p ys, xs = [.ref p] ∧ (SqL K H p ys ∨ SqT K H p ys) ∧ Q (.int ys.length) H
theorem call_len_seqK (K : PySem.W.Frag) (h : X.K = K := by rfl) : CallR X (.builtin "len") (rLenSq K) := by subst h; exact call_len_seq
def rTupleOf (K : PySem.W.Frag) : List V → Hp → VK → Prop := fun xs H Q => ∃ p ys, xs = [.ref p] ∧ ((SqL K H p ys ∧ ∀ l, H l = none → Q (.ref l) (upd H l (.tup ys))) ∨ (SqT K H p ys ∧ Q (.ref p) H))
theorem call_tuple_ofK (K : PySem.W.Frag) (h : X.K = K := by rfl) : CallR X (.type "tuple") (rTupleOf K) := by subst h; exact call_tuple_of
def rListOf (K : PySem.W.Frag) : List V → Hp → VK → Prop := fun xs H Q => ∃ p ys, xs = [.ref p] ∧ (SqL K H p ys ∨ SqT K H p ys) ∧ ∀ l, H l = none → Q (.ref l) (upd H l (.lst ys))
theorem call_list_ofK (K : PySem.W.Frag) (h : X.K = K := by rfl) : CallR X (.type "list") (rListOf K) := by subst h; exact call_list_of
variable {T : String} {name : Str} {id : String} {r : V → List V → Hp → VK → Prop} {o e : Expr} {es : List Expr} {to : TE} {t : TA} {apos cpos : Pos} {tg l : Expr} {tl : TE}
theorem pe_bmK (K : PySem.W.Frag) (pa : PlainAttrs T) (slot : Slot T name id) (hty : typeOf (.builtin id) = pure (.type "method_descriptor")) (hm : MtR X id r) (ho : PE X o to) (ha : PA X (e :: es) t) (h : X.K = K := by rfl)
    (hbase : attributeBase o name X.env (eval o X.env) = eval o X.env := by rfl)
    (hfew : ((backTo cpos (starEach (e :: es) X.env)).all (fun x => !x.1) && (backToKw cpos (keywordEach [] X.env)).all (fun x => x.1.isSome)
      && decide ((e :: es).length + ([] : List Keyword).length + (if ([] : List Keyword).isEmpty then 0 else 1) < 30)) = true := by rfl)
    (hline : (apos.endLine == cpos.line) = true := by rfl) (hs : starEach (e :: es) X.env = (false, eval e X.env) :: starEach es X.env := by rfl) (hplain : (backTo cpos (starEach es X.env)).any (·.1) = false := by rfl) :
    PE X (.Call (.Attribute o name apos) (e :: es) [] cpos) (tBM K T r to t) := by subst h; exact pe_bm pa slot hty hm ho ha hbase hfew hline hs hplain
end
end Kn
set_option Elab.async false
set_option maxRecDepth 100000
set_option linter.all false
namespace L2
open PySem
theorem Rd.same {H H' : Hp} {a : Addr} {u : HO} (e : Same H H') (h : Rd H a u) : Rd H' a u := by
  rcases h with h | ⟨o, h⟩
  · exact .inl (e _ _ h)
  · exact .inr ⟨o, e _ _ h⟩
theorem SqT.same {K : PySem.W.Frag} {H H' : Hp} {a : Addr} {xs : List V} (e : Same H H') (h : SqT K H a xs) : SqT K H' a xs := by
  rcases h with h | h
  · exact .inl (Rd.same e h)
  · exact .inr h
mutual
theorem Dp.same {K : PySem.W.Frag} {H H' : Hp} (e : Same H H') : ∀ (d : PyData) {v : V}, Dp K H v d → Dp K H' v d
  | .none, _, .non => .non
  | .bool b, _, .bl _ => .bl b
  | .int i, _, .int _ => .int i
  | .str x, _, .str _ => .str x
  | .list ds, _, .lst h a => .lst (Same.seq e h) (DpAll.same e ds a)
  | .tuple ds, _, .tup h a => .tup (SqT.same e h) (DpAll.same e ds a)
theorem DpAll.same {K : PySem.W.Frag} {H H' : Hp} (e : Same H H') : ∀ (ds : List PyData) {vs : List V}, DpAll K H vs ds → DpAll K H' vs ds
  | [], _, .nil => .nil
  | d :: ds, _, .cons h a => .cons (Dp.same e d h) (DpAll.same e ds a)
end
def Tups (H H' : Hp) : Prop := ∀ b xs, Rd H b (.tup xs) → Rd H' b (.tup xs)
theorem Tups.trans {H H1 H2 : Hp} (a : Tups H H1) (b : Tups H1 H2) : Tups H H2 := fun c xs h => b c xs (a c xs h)
theorem Tups.refl (H : Hp) : Tups H H := fun _ _ h => h
theorem same_new {H : Hp} {t : Addr} {o : HO} (ht : H t = none) : Same H (upd H t o) := fun b u h => by rw [upd_ne (ne_of_none h ht)]; exact h
theorem DpAll.len {K : PySem.W.Frag} {H : Hp} : ∀ {vs : List V} {ds : List PyData}, DpAll K H vs ds → vs.length = ds.length
  | _, _, .nil => rfl
  | _, _, .cons _ a => by simp [DpAll.len a]
theorem DpAll.get {K : PySem.W.Frag} {H : Hp} : ∀ {vs : List V} {ds : List PyData} {i : Nat} {v : V}, DpAll K H vs ds → vs[i]? = some v → ∃ d, ds[i]? = some d ∧ Dp K H v d
  | _, _, _, _, .nil, e => by simp at e
  | _, _, 0, _, .cons h _, e => by simp at e; subst e; exact ⟨_, rfl, h⟩
  | _, _, i + 1, v, .cons _ a, e => by
    obtain ⟨d, h1, h2⟩ := DpAll.get (i := i) (v := v) a (by simpa using e)
    exact ⟨d, by simpa using h1, h2⟩
theorem DpAll.snoc {K : PySem.W.Frag} {H : Hp} : ∀ {vs : List V} {ds : List PyData} {v : V} {d : PyData}, DpAll K H vs ds → Dp K H v d → DpAll K H (vs ++ [v]) (ds ++ [d])
  | _, _, _, _, .nil, h => .cons h .nil
  | _, _, _, _, .cons g a, h => .cons g (DpAll.snoc a h)
theorem DpAll.app {K : PySem.W.Frag} {H : Hp} : ∀ {vs ws : List V} {ds es : List PyData}, DpAll K H vs ds → DpAll K H ws es → DpAll K H (vs ++ ws) (ds ++ es)
  | _, _, _, _, .nil, h => h
  | _, _, _, _, .cons g a, h => .cons g (DpAll.app a h)
theorem DpAll.ints {K : PySem.W.Frag} {H : Hp} : ∀ (ns : List Int), DpAll K H (ns.map V.int) (ns.map PyData.int)
  | [] => .nil
  | n :: ns => .cons (.int n) (DpAll.ints ns)
theorem DpAll.ints_inv {K : PySem.W.Frag} {H : Hp} : ∀ {ns : List Int} {vs : List V}, DpAll K H vs (ns.map PyData.int) → vs = ns.map V.int
  | [], _, .nil => rfl
  | n :: ns, _, .cons (.int _) a => by rw [DpAll.ints_inv a]; rfl
theorem DpAll.take {K : PySem.W.Frag} {H : Hp} : ∀ (n : Nat) {vs : List V} {ds : List PyData}, DpAll K H vs ds → DpAll K H (vs.take n) (ds.take n)
  | 0, _, _, _ => by simp; exact .nil
  | _ + 1, _, _, .nil => .nil
  | n + 1, _, _, .cons h a => .cons h (DpAll.take n a)
theorem DpAll.drop {K : PySem.W.Frag} {H : Hp} : ∀ (n : Nat) {vs : List V} {ds : List PyData}, DpAll K H vs ds → DpAll K H (vs.drop n) (ds.drop n)
  | 0, _, _, a => a
  | _ + 1, _, _, .nil => .nil
  | n + 1, _, _, .cons _ a => DpAll.drop n a
end L2
namespace Kn
open PySem L2
def tyD : PyData → String
  | .none => "NoneType"
  | .bool _ => "bool"
  | .int _ => "int"
  | .str _ => "str"
  | .list _ => "list"
  | .tuple _ => "tuple"
  | .dict _ => "dict"
theorem Dp.ty {K : PySem.W.Frag} {H : Hp} : ∀ {v : V} {d : PyData}, Dp K H v d → TyX K H v (.type (tyD d))
  | _, _, .non => .base .non
  | _, _, .bl b => .base (.bl b)
  | _, _, .int i => .base (.int i)
  | _, _, .str x => .base (.str x)
  | _, _, .lst h _ => by
    rcases h with (h | ⟨o, h⟩) | ⟨o, its, n, h, c, _⟩
    · exact .base (.lst h)
    · exact .base (.frz h)
    · exact .kList h c
  | _, _, .tup h _ => by
    rcases h with (h | ⟨o, h⟩) | ⟨o, its, n, h, c, _⟩
    · exact .base (.tup h)
    · exact .fTuple h
    · exact .kTuple h c
theorem sIx_nat {n d i : Nat} {z : Int} (e : z = (i : Int)) (h : i ≤ n) : HT.sIx n d (some z) = i := by
  subst e
  rw [show HT.sIx n d (some (i : Int)) = (if (i : Int) < 0 then ((i : Int) + (n : Int)).toNat else min (i : Int).toNat n) from rfl, if_neg (by omega)]
  omega
def Hid (A : List Addr) (H : Hp) : Hp := fun b => if b ∈ A then none else H b
theorem Hid.get {A : List Addr} {H : Hp} {b : Addr} {o : HO} (h : H b = some o) (n : b ∉ A) : Hid A H b = some o := by unfold Hid; rw [if_neg n]; exact h
theorem Hid.of {A : List Addr} {H : Hp} {b : Addr} {o : HO} (h : Hid A H b = some o) : H b = some o ∧ b ∉ A := by
  unfold Hid at h
  by_cases c : b ∈ A
  · rw [if_pos c] at h; cases h
  · rw [if_neg c] at h; exact ⟨h, c⟩
theorem Hid.sub {A : List Addr} {H : Hp} : Same (Hid A H) H := fun b o h => (Hid.of h).1
theorem Hid.keep {A : List Addr} {H H' : Hp} (k : ∀ b o, H b = some o → b ∉ A → H' b = some o) : Same (Hid A H) (Hid A H') := fun b o h => Hid.get (k b o (Hid.of h).1 (Hid.of h).2) (Hid.of h).2
theorem Hid.same {A : List Addr} {H H' : Hp} (e : Same H H') : Same (Hid A H) (Hid A H') := Hid.keep fun b o h _ => e b o h
theorem Hid.upd {A : List Addr} {H : Hp} {a : Addr} {o : HO} (ha : a ∈ A) : Same (Hid A H) (Hid A (upd H a o)) := Hid.keep fun b u h n => by
  have nb : b ≠ a := fun z => n (by rw [z]; exact ha)
  rw [upd_ne nb]; exact h
section
variable {K : PySem.W.Frag} {a : Addr} {xs : List V} {g : TG} {tt : TT} {te : TE} {vs : List Nat} {σ : St} {H1 : Hp} {D : Addr} {Qd : Hp → Prop}
end
structure Lay (n : Nat) (d : PyData) : Prop where
  can : d.canLay0 = true
  dep : d.depth ≤ n
theorem Lay.mono {m n : Nat} {d : PyData} (h : Lay m d) (k : m ≤ n) : Lay n d := ⟨h.can, Nat.le_trans h.dep k⟩
theorem Lay.non (n : Nat) : Lay n .none := ⟨by simp [PyData.canLay0], by simp [PyData.depth]⟩
theorem Lay.bl (n : Nat) (b : Bool) : Lay n (.bool b) := ⟨by simp [PyData.canLay0], by simp [PyData.depth]⟩
theorem Lay.int (n : Nat) (i : Int) : Lay n (.int i) := ⟨by simp [PyData.canLay0], by simp [PyData.depth]⟩
theorem Lay.str (n : Nat) {x : Str} (h : PyData.strOk x = true) : Lay n (.str x) := ⟨by simpa [PyData.canLay0] using h, by simp [PyData.depth]⟩
theorem lay_all {n : Nat} : ∀ {ds : List PyData}, (∀ d ∈ ds, Lay n d) → PyData.canLayAll0 ds = true ∧ PyData.depthAll ds ≤ n
  | [], _ => ⟨by simp [PyData.canLayAll0], by simp [PyData.depthAll]⟩
  | d :: ds, h => by
    obtain ⟨h1, h2⟩ := lay_all (ds := ds) fun e he => h e (by simp [he])
    have h3 := h d (by simp)
    refine ⟨by rw [PyData.canLayAll0, h3.can, h1]; rfl, ?_⟩
    rw [PyData.depthAll]
    have := h3.dep
    omega
theorem Lay.tup {n : Nat} {ds : List PyData} (h : ∀ d ∈ ds, Lay n d) : Lay (n + 1) (.tuple ds) := by
  obtain ⟨h1, h2⟩ := lay_all h
  refine ⟨by rw [PyData.canLay0]; exact h1, ?_⟩
  rw [PyData.depth]; omega
theorem Lay.lst {n : Nat} {ds : List PyData} (h : ∀ d ∈ ds, Lay n d) : Lay (n + 1) (.list ds) := by
  obtain ⟨h1, h2⟩ := lay_all h
  refine ⟨by rw [PyData.canLay0]; exact h1, ?_⟩
  rw [PyData.depth]; omega
theorem Lay.shaped {n : Nat} {d : PyData} (h : Lay n d) (k : n ≤ 64 := by decide) : SeqAt.shaped d = true := by
  have := h.dep
  unfold SeqAt.shaped
  rw [h.can, decide_eq_true (show d.depth ≤ 64 by omega)]; rfl
theorem Lay.ints (n : Nat) (l : List Int) : ∀ d ∈ l.map PyData.int, Lay n d := fun d hd => by
  obtain ⟨i, _, rfl⟩ := List.mem_map.mp hd
  exact .int n i
end Kn
set_option Elab.async false
set_option maxRecDepth 100000
set_option linter.all false
namespace Kn
open PySem L2
section
open PySem.Spec PyProof.Rows
variable {prog : Program} {w : World} {A : Around} {E : Value → Shared → Prop} {s : Shared}
end
section
open PySem.Spec
variable {X : Cx} {e k : Expr} {te : TE} {tk : TO} {pos p2 : Pos}
end
end Kn
set_option Elab.async false
set_option maxRecDepth 100000
set_option linter.all false
namespace Kn
open PySem L2
def SqS (K : PySem.W.Frag) (H : Hp) (a : Addr) (xs : List V) : Prop := SqL K H a xs ∨ SqT K H a xs
theorem SqS.same {K : PySem.W.Frag} {H H' : Hp} {a : Addr} {xs : List V} (e : Same H H') (h : SqS K H a xs) : SqS K H' a xs := by
  rcases h with h | h
  · exact .inl (Same.seq e h)
  · exact .inr (SqT.same e h)
section
variable {X : Cx} {tg l : Expr} {tl : TE}
end
section
variable {X : Cx} {CX : CXT} {k : Nat} {f : Addr} {fd : FuncData} {ps ks : List Str} {sp : Sp} {E : XK} {x : Str} {p pos : Pos} {kws : List Keyword} {tk : TA} {g : List Value → List Value → List Value} {gV : List V → List V → List V}
end
end Kn
set_option Elab.async false
set_option maxRecDepth 100000
set_option linter.all false
namespace Kn
open PySem L2
def clsA (mg : Str → Option Value) (x : Str) : Addr := match mg x with
  | some (.ref a) => a
  | _ => 0
theorem clsA_of {mg : Str → Option Value} {x : Str} {a : Addr} (h : mg x = some (.ref a)) : clsA mg x = a := by unfold clsA; rw [h]
structure ExcF (K : PySem.W.Frag) (mg : Str → Option Value) (x : Str) : Prop where
  g : mg x = some (.ref (clsA mg x))
  ex : PySem.W.excIn K (clsA mg x) [.type "ValueError", .type "Exception", .type "BaseException", .type "object"] "ValueError.__new__" = true
  k : PySem.W.keepIn K (.ref (clsA mg x)) = true
  b : PySem.W.subIn K (.ref (clsA mg x)) (.type "BaseException") = some true
  t : PySem.W.typeIn K (.ref (clsA mg x)) = some (.type "type")
theorem Fz.okX {P : Program} {w : World} {K : PySem.W.Frag} {mg : Str → Option Value} {base : Heap} {x : Str} {st : Stmt} {ps N : List Str} {k : Nat} {sp : Sp} (F : Fz K mg x st ps) (S : FnScope N ps (defScope st)) (len : ∀ vs H Q E, sp vs H Q E → vs.length = ps.length)
    (hbody : ∀ (f : Addr) (cdv : Value) (A : Around) (outer : List Env) (s : Shared) (H : Hp) (vs : List V) (Q : VK) (E : XK), Room k (A.deeper (PyProof.Rows.envOfC x (defScope st) s.heap.objs.size f cdv)) → sp vs H Q E →
      ∃ t, PSs (cxOf (L2.CX P w) P w K mg base N x (defScope st) f cdv A outer s H E) (defBody st) t ∧ t { nx := fun _ H' => Q .non H', rt := Q } (start N vs) H) : Fx P w K mg base (L2.CX P w) x (k + 1) ps sp := by
  obtain ⟨f, fd, F1, m, b⟩ := F.ex
  exact ⟨f, fd, F1.okX S len (hbody f), m, F1.kp, b⟩
structure FzB (K : PySem.W.Frag) (mg : Str → Option Value) (x : Str) (st : Stmt) (B : FuncData → Prop) : Prop where
  ex : ∃ (f : Addr) (fd : FuncData), Fun K x x st f fd ∧ mg x = some (.ref f) ∧ B fd
structure FxB (P : Program) (w : World) (K : PySem.W.Frag) (mg : Str → Option Value) (base : Heap) (CX : CXT) (x : Str) (k : Nat) (ps : List Str) (sp : Sp) (B : FuncData → Prop) : Prop where
  ex : ∃ (f : Addr) (fd : FuncData), FnOk P w K mg base CX k f fd ps sp ∧ mg x = some (.ref f) ∧ PySem.W.keepIn K (.ref f) = true ∧ B fd
theorem FzB.okX {P : Program} {w : World} {K : PySem.W.Frag} {mg : Str → Option Value} {base : Heap} {x : Str} {st : Stmt} {ps N : List Str} {k : Nat} {sp : Sp} {B : FuncData → Prop} (F : FzB K mg x st B) (S : FnScope N ps (defScope st)) (len : ∀ vs H Q E, sp vs H Q E → vs.length = ps.length)
    (hbody : ∀ (f : Addr) (cdv : Value) (A : Around) (outer : List Env) (s : Shared) (H : Hp) (vs : List V) (Q : VK) (E : XK), Room k (A.deeper (PyProof.Rows.envOfC x (defScope st) s.heap.objs.size f cdv)) → sp vs H Q E →
      ∃ t, PSs (cxOf (L2.CX P w) P w K mg base N x (defScope st) f cdv A outer s H E) (defBody st) t ∧ t { nx := fun _ H' => Q .non H', rt := Q } (start N vs) H) : FxB P w K mg base (L2.CX P w) x (k + 1) ps sp B := by
  obtain ⟨f, fd, F1, m, b⟩ := F.ex
  exact ⟨f, fd, F1.okX S len (hbody f), m, F1.kp, b⟩
section
variable {X : Cx} {k : Nat} {ps ks : List Str} {sp : Sp} {x : Str} {p pos : Pos} {kws : List Keyword} {tk : TA} {B : FuncData → Prop} {gV : List V → List V → List V} {CX : CXT} {E : XK}
end
section
variable {X : Cx} {k : Nat} {ps : List Str} {sp : Sp} {E : XK} {x : Str} {p pos : Pos} {e : Expr} {es : List Expr} {t : TA}
theorem fcallX {W : WX} (tk : Takes X W) (F : Fx X.prog X.w X.K X.mg X.base (L2.CX X.prog X.w) x k ps sp) (hr : Room k X.A) (hg : Gl X x) (ha : PA X (e :: es) t)
    (hdb : (x == ("__debug__" : Str)) = false := by decide) (he : starEach (e :: es) X.env = (false, eval e X.env) :: starEach es X.env := by rfl) (hpl : (backTo pos (starEach es X.env)).any (·.1) = false := by rfl) :
    PE X (.Call (.Name x p) (e :: es) [] pos) (tCallS sp (WE W) t) := by
  obtain ⟨f, fd, F1, m, kp, b⟩ := F.ex
  exact pe_callS F1 hr hg m kp b (fun σ => passAt tk σ) ha hdb he hpl
end
section
variable {X : Cx} {k n : Nat} {f : Addr} {fd : FuncData} {ps ks : List Str} {sp : Sp} {E : St → XK} {x : Str} {p pos : Pos} {kws : List Keyword} {tk : TA} {B : FuncData → Prop} {g : List Value → List Value → List Value} {gV : List V → List V → List V} {CX : CXT}
end
end Kn
set_option Elab.async false
set_option maxRecDepth 100000
set_option linter.all false
namespace Kn
open PySem L2
structure FxR (P : Program) (w : World) (K : PySem.W.Frag) (mg : Str → Option Value) (base : Heap) (CX : CXT) (x : Str) (k : Nat) (sp : Sp) : Prop where
  ex : ∃ f : Addr, FnR P w K mg base CX k f sp ∧ mg x = some (.ref f) ∧ PySem.W.keepIn K (.ref f) = true
structure FzS (K : PySem.W.Frag) (mg : Str → Option Value) (x : Str) (st : Stmt) (ps : List Str) (pv : Str) : Prop where
  ex : ∃ (f : Addr) (fd : FuncData), Fun K x x st f fd ∧ mg x = some (.ref f) ∧ ∀ us rest : List Value, us.length = ps.length → bindArgs fd ⟨us ++ rest, []⟩ = (newTuple rest >>= fun t => pure (ps.zip us ++ [(pv, t)]))
def starSp (n : Nat) (sp : Sp) : Sp := fun vs H Q E => ∃ ws rest, vs = ws ++ rest ∧ ws.length = n ∧ rest.length ≤ sizeLine ∧ ∀ p, H p = none → sp (ws ++ [V.ref p]) (upd H p (.tup rest)) Q E
theorem FzS.okX {P : Program} {w : World} {K : PySem.W.Frag} {mg : Str → Option Value} {base : Heap} {x pv : Str} {st : Stmt} {ps N : List Str} {k : Nat} {sp : Sp} (F : FzS K mg x st ps pv) (S : FnScope N (ps ++ [pv]) (defScope st))
    (hbody : ∀ (f : Addr) (cdv : Value) (A : Around) (outer : List Env) (s : Shared) (H : Hp) (vs : List V) (Q : VK) (E : XK), Room k (A.deeper (PyProof.Rows.envOfC x (defScope st) s.heap.objs.size f cdv)) → sp vs H Q E →
      ∃ t, PSs (cxOf (L2.CX P w) P w K mg base N x (defScope st) f cdv A outer s H E) (defBody st) t ∧ t { nx := fun _ H' => Q .non H', rt := Q } (start N vs) H) : FxR P w K mg base (L2.CX P w) x (k + 1) (starSp ps.length sp) := by
  obtain ⟨f, fd, F1, m, b⟩ := F.ex
  obtain ⟨oc, od, kV, doc, pm, an, cdv, ct, osl, rfl, lk, hcd⟩ := F1.ex
  exact ⟨f, StX.fn_star lk hcd S StX.cxUp b (hbody f cdv), m, F1.kp⟩
section
variable {X : Cx} {CX : CXT} {k : Nat} {sp : Sp} {x : Str} {p pos : Pos} {e : Expr} {es : List Expr} {t : TA}
end
end Kn
set_option Elab.async false
set_option maxRecDepth 100000
set_option linter.all false
namespace Kn
open PySem L2
def FunC (K : PySem.W.Frag) (m qual : Str) (st : Stmt) (f : Addr) (fd : FuncData) : Prop := ∃ dv kw, FunD K m qual (defArgs st) (defBody st) (defScope st) dv kw f fd
theorem FunC.okX {P : Program} {w : World} {K : PySem.W.Frag} {mg : Str → Option Value} {base : Heap} {m qual : Str} {st : Stmt} {f : Addr} {fd : FuncData} {ps N : List Str} {k : Nat} {sp : Sp} (F : FunC K m qual st f fd) (S : FnScope N ps (defScope st)) (len : ∀ vs H Q E, sp vs H Q E → vs.length = ps.length)
    (hbody : ∀ (cdv : Value) (A : Around) (outer : List Env) (s : Shared) (H : Hp) (vs : List V) (Q : VK) (E : XK), Room k (A.deeper (PyProof.Rows.envOfC qual (defScope st) s.heap.objs.size f cdv)) → sp vs H Q E →
      ∃ t, PSs (cxOf (L2.CX P w) P w K mg base N qual (defScope st) f cdv A outer s H E) (defBody st) t ∧ t { nx := fun _ H' => Q .non H', rt := Q } (start N vs) H) : FnOk P w K mg base (L2.CX P w) (k + 1) f fd ps sp := by
  obtain ⟨dv, kw, F⟩ := F
  exact F.ok S len hbody
structure Mz (K : PySem.W.Frag) (C : Addr) (m qual : Str) (st : Stmt) (ps : List Str) (dvs : List V) : Prop where
  ex : ∃ (f : Addr) (fd : FuncData) (ds : List Value), FunC K m qual st f fd ∧ Meth K C m f ∧ Binds K fd ps ds ∧ Vals dvs ds
structure Mx (P : Program) (w : World) (K : PySem.W.Frag) (mg : Str → Option Value) (base : Heap) (C : Addr) (m : Str) (k : Nat) (ps : List Str) (dvs : List V) (sp : Sp) : Prop where
  ex : ∃ (f : Addr) (fd : FuncData) (ds : List Value), FnOk P w K mg base (L2.CX P w) k f fd ps sp ∧ Meth K C m f ∧ Binds K fd ps ds ∧ Vals dvs ds
theorem Mz.okX {P : Program} {w : World} {K : PySem.W.Frag} {mg : Str → Option Value} {base : Heap} {C : Addr} {m qual : Str} {st : Stmt} {ps N : List Str} {dvs : List V} {k : Nat} {sp : Sp} (F : Mz K C m qual st ps dvs) (S : FnScope N ps (defScope st)) (len : ∀ vs H Q E, sp vs H Q E → vs.length = ps.length)
    (hbody : ∀ (f : Addr) (cdv : Value) (A : Around) (outer : List Env) (s : Shared) (H : Hp) (vs : List V) (Q : VK) (E : XK), Room k (A.deeper (PyProof.Rows.envOfC qual (defScope st) s.heap.objs.size f cdv)) → sp vs H Q E →
      ∃ t, PSs (cxOf (L2.CX P w) P w K mg base N qual (defScope st) f cdv A outer s H E) (defBody st) t ∧ t { nx := fun _ H' => Q .non H', rt := Q } (start N vs) H) : Mx P w K mg base C m (k + 1) ps dvs sp := by
  obtain ⟨f, fd, ds, F1, m, b, v⟩ := F.ex
  exact ⟨f, fd, ds, F1.okX S len (hbody f), m, b, v⟩
def tMethX (C : Addr) (m : Str) (sp : Sp) (dvs : List V) (E : St → XK) (ta : TE) (t : TA) : TE := fun σ H Q => ta σ H fun x H1 => ∃ a dx fs, x = .ref a ∧ H1 a = some (.ins C dx fs) ∧ fs.lookup m = none ∧
  t σ H1 fun vs H2 => sp (x :: (vs ++ dvs)) H2 Q (E σ)
def tMakeX (C : Addr) (sp : Sp) (dvs : List V) (E : St → XK) (t : TA) : TE := fun σ H Q => t σ H fun vs H1 => ∀ x dx, H1 x = none → H1 dx = none → dx ≠ x →
  sp (.ref x :: (vs ++ dvs)) (upd (upd H1 dx (.own x)) x (.ins C dx [])) (fun v H2 => v = .non ∧ Q (.ref x) H2) (E σ)
section
variable {X : Cx} {k : Nat} {C : Addr} {ps : List Str} {sp : Sp} {dvs : List V} {x m : Str} {p pos apos : Pos} {e o : Expr} {es : List Expr} {ta : TE} {t : TA} {W : WX}
theorem mcallX {pl : Sem Bool} (tk : Takes X W) (c : Cls X.K C) (M : Mx X.prog X.w X.K X.mg X.base C m k ps dvs sp) (hr : Room k X.A) (he : PE X o ta) (ha : PA X (e :: es) t)
    (hst : starEach (e :: es) X.env = (false, eval e X.env) :: starEach es X.env := by rfl) (hpl : (backTo pos (starEach es X.env)).any (·.1) = false := by rfl)
    (ht : eval (.Call (.Attribute o m apos) (e :: es) [] pos) X.env = (do
      let ov ← eval o X.env
      standAt apos.atName
      let (f, first) ← holding [ov] (getMethod ov m pl)
      callWith pos f first (backTo pos (starEach (e :: es) X.env)) (backToKw pos (keywordEach [] X.env))) := by rfl) :
    PE X (.Call (.Attribute o m apos) (e :: es) [] pos) (tMethX C m sp dvs (WE W) ta t) := by
  obtain ⟨f, fd, ds, F, hm, hb, hd⟩ := M.ex
  refine ⟨fun pins s σ H Q I h => ?_⟩
  refine PySem.W.methodCall_KW (pl := pl) (thn (he.run pins s σ H _ I h) fun u s1 ⟨x, H1, I1, rx, a, dx, fs, ex, ea, l, q⟩ => ?_) ht
  subst ex
  obtain rfl : u = Value.ref a := rx
  refine getmeth_ok I1 ea c hm l ?_
  refine PySem.W.callWith_K (first := [.ref a]) (h₀ := X.base) I.ok.mod.kin hm.kp (thn (ha.run pos pins s1 σ H1 _ I1 q) fun us s2 ⟨vs, H2, I2, r, q2⟩ => ⟨I2.kIn, ?_⟩) hst hpl
  exact run_fnSD (E := WE W) (us := .ref a :: us) (vs := .ref a :: vs) F hr hb hd (passAt tk σ) I2 (.cons rfl r) q2
end
structure Kz (K : PySem.W.Frag) (C : Addr) (qual : Str) (st : Stmt) (ps : List Str) (dvs : List V) : Prop where
  ex : ∃ (f : Addr) (fd : FuncData) (ds : List Value), FunC K "__init__" qual st f fd ∧ Mk K C f ∧ Binds K fd ps ds ∧ Vals dvs ds
structure Kx (P : Program) (w : World) (K : PySem.W.Frag) (mg : Str → Option Value) (base : Heap) (C : Addr) (k : Nat) (ps : List Str) (dvs : List V) (sp : Sp) : Prop where
  ex : ∃ (f : Addr) (fd : FuncData) (ds : List Value), FnOk P w K mg base (L2.CX P w) k f fd ps sp ∧ Mk K C f ∧ Binds K fd ps ds ∧ Vals dvs ds
theorem Kz.okX {P : Program} {w : World} {K : PySem.W.Frag} {mg : Str → Option Value} {base : Heap} {C : Addr} {qual : Str} {st : Stmt} {ps N : List Str} {dvs : List V} {k : Nat} {sp : Sp} (F : Kz K C qual st ps dvs) (S : FnScope N ps (defScope st)) (len : ∀ vs H Q E, sp vs H Q E → vs.length = ps.length)
    (hbody : ∀ (f : Addr) (cdv : Value) (A : Around) (outer : List Env) (s : Shared) (H : Hp) (vs : List V) (Q : VK) (E : XK), Room k (A.deeper (PyProof.Rows.envOfC qual (defScope st) s.heap.objs.size f cdv)) → sp vs H Q E →
      ∃ t, PSs (cxOf (L2.CX P w) P w K mg base N qual (defScope st) f cdv A outer s H E) (defBody st) t ∧ t { nx := fun _ H' => Q .non H', rt := Q } (start N vs) H) : Kx P w K mg base C (k + 1) ps dvs sp := by
  obtain ⟨f, fd, ds, F1, m, b, v⟩ := F.ex
  exact ⟨f, fd, ds, F1.okX S len (hbody f), m, b, v⟩
section
variable {X : Cx} {CX : CXT} {k : Nat} {f C : Addr} {fd : FuncData} {ps : List Str} {sp : Sp} {dvs : List V} {ds : List Value} {E : St → XK} {x : Str} {p pos : Pos} {e : Expr} {es : List Expr} {t : TA} {W : WX}
theorem run_makeAt {pins : List (Addr × Obj)} {σ : St} {H : Hp} {s : Shared} {Q : VK} {us : List Value} {vs : List V} (M : Mk X.K C f) (F : FnOk X.prog X.w X.K X.mg X.base CX k f fd ps sp) (hr : Room (k + 1) X.A) (hb : Binds X.K fd ps ds) (hd : Vals dvs ds)
    (hx : PassesAt CX X σ (E σ)) (I : Inv X pins σ H s) (r : Vals vs us)
    (h : ∀ x dx, H x = none → H dx = none → dx ≠ x → sp (.ref x :: (vs ++ dvs)) (upd (upd H dx (.own x)) x (.ins C dx [])) (fun v H2 => v = .non ∧ Q (.ref x) H2) (E σ)) :
    wpAny (model X.prog X.w) X.A (call (.ref C) us) (EP X pins σ Q) X.xe s := by
  have hq := h (s.heap.objs.size + 1) s.heap.objs.size (I.hok.fresh (Nat.le_succ _)) (I.hok.fresh (Nat.le_refl _)) (Nat.ne_of_lt (Nat.lt_succ_self _))
  have I2 := Inv.made (C := C) I
  have r2 : Vals (V.ref (s.heap.objs.size + 1) :: (vs ++ dvs)) (Value.ref (s.heap.objs.size + 1) :: (us ++ ds)) := .cons rfl (r.append hd)
  have hl : (Value.ref (s.heap.objs.size + 1) :: us ++ ds).length = ps.length := (r2.length.symm.trans (F.len _ _ _ _ hq) :)
  refine wpAny_call (make_map (f := f) I.kIn M.makes M.init (beq_iff_eq.mp M.fn) (codeAny_mono (F.run _ X.stack _ _ ⟨Value.ref (s.heap.objs.size + 1) :: us, []⟩ (Value.ref (s.heap.objs.size + 1) :: (us ++ ds)) _ _ (E σ) (hr.make C us [])
    (I2.env0.make C us []) (hb _ (Value.ref (s.heap.objs.size + 1) :: us) I2.kIn hl) r2 hq) fun fl s' hq' => ?_))
  match fl, hq' with
  | .error e, hq' => exact hx pins _ _ e s' I2 hq'
  | .ok (.ret u), hq' =>
    obtain ⟨v, H', I3, rv, ev, q3⟩ := I2.after hq'
    subst ev
    exact ⟨rv, ⟨V.ref (s.heap.objs.size + 1), H', I3, rfl, q3⟩⟩
  | .ok .next, hq' => exact hq'.elim
  | .ok .brk, hq' => exact hq'.elim
  | .ok .cont, hq' => exact hq'.elim
theorem makeX (tk : Takes X W) (M : Kx X.prog X.w X.K X.mg X.base C k ps dvs sp) (hr : Room (k + 1) X.A) (hg : Gl X x) (hm : X.mg x = some (.ref C)) (ha : PA X (e :: es) t)
    (hdb : (x == ("__debug__" : Str)) = false := by decide) (he : starEach (e :: es) X.env = (false, eval e X.env) :: starEach es X.env := by rfl) (hpl : (backTo pos (starEach es X.env)).any (·.1) = false := by rfl) :
    PE X (.Call (.Name x p) (e :: es) [] pos) (tMakeX C sp dvs (WE W) t) := by
  obtain ⟨f, fd, ds, F, M, hb, hd⟩ := M.ex
  refine ⟨fun pins s σ H Q I h => ?_⟩
  refine wpAny_Call_Name_kw (ld_glob I hg hm ?_ hdb)
  refine PySem.W.callWith_K (h₀ := X.base) I.ok.mod.kin M.kp (thn (ha.run pos pins s σ H _ I h) fun us s1 ⟨vs, H1, I1, r, q⟩ => ⟨I1.kIn, ?_⟩) he hpl
  exact run_makeAt (E := WE W) M F hr hb hd (passAt tk σ) I1 r q
end
structure Fd (K : PySem.W.Frag) (C : Addr) (f : Str) : Prop where
  c : Cls K C
  n : NoAttr K C f
def tFldC (C : Addr) (f : Str) (ta : TE) : TE := fun σ H Q => ta σ H fun x H1 => ∃ a dx fs v, x = .ref a ∧ H1 a = some (.ins C dx fs) ∧ fs.lookup f = some v ∧ Q v H1
def sFldC (C : Addr) (f : Str) (ta tv : TE) : TS := fun D σ H => tv σ H fun y H1 => ta σ H1 fun x H2 => ∃ a dx fs, x = .ref a ∧ H2 a = some (.ins C dx fs) ∧ fs.length < 1000 ∧ D.nx σ (upd H2 a (.ins C dx (putF f y fs)))
section
variable {X : Cx} {C : Addr} {o e value : Expr} {f : Str} {pos pos' : Pos} {ta tv : TE}
theorem fldX (h : Fd X.K C f) (he : PE X e ta) (hb : attributeBase e f X.env (eval e X.env) = eval e X.env := by rfl) : PE X (.Attribute e f pos) (tFldC C f ta) := by
  refine ⟨fun pins s σ H Q I q => ?_⟩
  refine attr_of hb (thn (he.run pins s σ H _ I q) fun u s1 ⟨x, H1, I1, rx, a, dx, fs, v, ex, ea, l, q⟩ => ?_)
  subst ex
  obtain rfl : u = Value.ref a := rx
  exact getattr_ok I1 ea h.c h.n l fun u' s2 I2 ru => ⟨v, H1, I2, ru, q⟩
theorem setX (h : Fd X.K C f) (ha : PE X o ta) (hv : PE X value tv) (hs : swapsWith value (some (.Attribute o f pos')) pos.line X.env = pure false := by rfl) : PS X (.Assign [.Attribute o f pos'] value pos) (sFldC C f ta tv) := by
  refine ⟨fun pins s σ H D I q => ?_⟩
  refine plainObj_wpAny_Assign_Attribute (thn (hv.run pins s σ H _ I q) fun u s1 ⟨y, H1, I1, ry, q⟩ => thn (ha.run pins s1 σ H1 _ I1 q) fun ov s2 ⟨x, H2, I2, rx, a, dx, fs, ex, ea, l, q2⟩ => ?_) hs
  subst ex
  obtain rfl : ov = Value.ref a := rx
  exact setattr_ok I2 ea h.c h.n l ry fun s3 I3 => ⟨σ, _, I3, q2⟩
end
structure Pz (K : PySem.W.Frag) (C : Addr) (m qual : Str) (st : Stmt) (ps : List Str) : Prop where
  ex : ∃ (f : Addr) (fd : FuncData) (p : Addr), FunC K m qual st f fd ∧ PropOf K C m p f ∧ Binds K fd ps []
structure Pp (P : Program) (w : World) (K : PySem.W.Frag) (mg : Str → Option Value) (base : Heap) (C : Addr) (m : Str) (k : Nat) (ps : List Str) (sp : Sp) : Prop where
  ex : ∃ (f : Addr) (fd : FuncData) (p : Addr), FnOk P w K mg base (L2.CX P w) k f fd ps sp ∧ PropOf K C m p f ∧ Binds K fd ps []
theorem Pz.okX {P : Program} {w : World} {K : PySem.W.Frag} {mg : Str → Option Value} {base : Heap} {C : Addr} {m qual : Str} {st : Stmt} {ps N : List Str} {k : Nat} {sp : Sp} (F : Pz K C m qual st ps) (S : FnScope N ps (defScope st)) (len : ∀ vs H Q E, sp vs H Q E → vs.length = ps.length)
    (hbody : ∀ (f : Addr) (cdv : Value) (A : Around) (outer : List Env) (s : Shared) (H : Hp) (vs : List V) (Q : VK) (E : XK), Room k (A.deeper (PyProof.Rows.envOfC qual (defScope st) s.heap.objs.size f cdv)) → sp vs H Q E →
      ∃ t, PSs (cxOf (L2.CX P w) P w K mg base N qual (defScope st) f cdv A outer s H E) (defBody st) t ∧ t { nx := fun _ H' => Q .non H', rt := Q } (start N vs) H) : Pp P w K mg base C m (k + 1) ps sp := by
  obtain ⟨f, fd, p, F1, m, b⟩ := F.ex
  exact ⟨f, fd, p, F1.okX S len (hbody f), m, b⟩
end Kn
set_option Elab.async false
set_option maxRecDepth 100000
set_option linter.all false
namespace Kn
open PySem L2 PySem.Spec
structure Ox (P : Program) (w : World) (K : PySem.W.Frag) (mg : Str → Option Value) (base : Heap) (C : Addr) (m : Str) (k : Nat) (ps : List Str) (sp : Sp) : Prop where
  ex : ∃ (f : Addr) (fd : FuncData), FnOk P w K mg base (L2.CX P w) k f fd ps sp ∧ Meth K C m f ∧ Binds K fd ps [] ∧ PySem.W.fnIn K f = true ∧ PySem.W.noSeq K C = true
theorem FunC.fnIn {K : PySem.W.Frag} {m qual : Str} {st : Stmt} {f : Addr} {fd : FuncData} (F : FunC K m qual st f fd) : PySem.W.fnIn K f = true := by
  obtain ⟨dv, kw, F⟩ := F
  obtain ⟨⟨_, _, _, _, _, _, _, _, _, _, e, l, _⟩, _⟩ := F
  unfold PySem.W.fnIn
  rw [l]
theorem Mz.okO {P : Program} {w : World} {K : PySem.W.Frag} {mg : Str → Option Value} {base : Heap} {C : Addr} {m qual : Str} {st : Stmt} {ps N : List Str} {k : Nat} {sp : Sp} (F : Mz K C m qual st ps []) (ns : PySem.W.noSeq K C = true) (S : FnScope N ps (defScope st)) (len : ∀ vs H Q E, sp vs H Q E → vs.length = ps.length)
    (hbody : ∀ (f : Addr) (cdv : Value) (A : Around) (outer : List Env) (s : Shared) (H : Hp) (vs : List V) (Q : VK) (E : XK), Room k (A.deeper (PyProof.Rows.envOfC qual (defScope st) s.heap.objs.size f cdv)) → sp vs H Q E →
      ∃ t, PSs (cxOf (L2.CX P w) P w K mg base N qual (defScope st) f cdv A outer s H E) (defBody st) t ∧ t { nx := fun _ H' => Q .non H', rt := Q } (start N vs) H) : Ox P w K mg base C m (k + 1) ps sp := by
  obtain ⟨f, fd, ds, F1, m, b, v⟩ := F.ex
  cases v
  exact ⟨f, fd, F1.okX S len (hbody f), m, b, F1.fnIn, ns⟩
section
variable {X : Cx} {k : Nat} {C : Addr} {ps : List Str} {sp : Sp} {m : Str} {pos pos' : Pos} {o i value : Expr} {to ti tv : TE} {W : WX}
theorem run_in1 {CX : CXT} {k : Nat} {f : Addr} {fd : FuncData} {ps : List Str} {sp : Sp} {dvs : List V} {ds : List Value} {E : St → XK} {pins : List (Addr × Obj)} {σ : St} {H : Hp} {s : Shared} {Q : VK} {us : List Value} {vs : List V} (F : FnOk X.prog X.w X.K X.mg X.base CX k f fd ps sp) (hr : Room (k + 1) X.A) (hb : Binds X.K fd ps ds) (hd : Vals dvs ds) (hx : PassesAt CX X σ (E σ))
    (I : Inv X pins σ H s) (r : Vals vs us) (h : sp (vs ++ dvs) H Q (E σ)) : wpAny (model X.prog X.w) X.A.in1 (call (.ref f) us) (EP X pins σ Q) X.xe s := by
  have r2 : Vals (vs ++ dvs) (us ++ ds) := r.append hd
  have hl : (us ++ ds).length = ps.length := by rw [← r2.length]; exact F.len _ _ _ _ h
  refine wpAny_call (codeAny_mono (F.run X.A.in1 X.stack s H ⟨us, []⟩ (us ++ ds) (vs ++ dvs) Q (E σ) hr.in1 I.env0.in1 (hb s us I.kIn hl) r2 h) fun r s' hq => ?_)
  cases r with
  | error e => exact hx pins H s e s' I hq
  | ok fl =>
    cases fl with
    | ret u => exact I.after hq
    | next => exact False.elim hq
    | brk => exact False.elim hq
    | cont => exact False.elim hq
def tOGet (C : Addr) (sp : Sp) (E : St → XK) (to ti : TE) : TE := fun σ H Q => to σ H fun x H1 => ti σ H1 fun y H2 => ∃ a dx fs, x = .ref a ∧ H2 a = some (.ins C dx fs) ∧ sp [x, y] H2 Q (E σ)
theorem ogetX (tk : Takes X W) (M : Ox X.prog X.w X.K X.mg X.base C "__getitem__" k ps sp) (hr : Room (k + 1) X.A) (ho : PE X o to) (hi : PE X i ti)
    (hsl : ∀ u iv, subscripted i true u iv = runValue (.builtin "lifetime.subscript" ⟨[u, iv], []⟩) := by intro _ _; rfl) : PE X (.Subscript o i pos) (tOGet C sp (WE W) to ti) := by
  obtain ⟨f, fd, F, hm, hb, hf, ns⟩ := M.ex
  refine ⟨fun pins s σ H Q I h => ?_⟩
  refine PyProof.Rows.Subscript_ (thn (ho.run pins s σ H _ I h) fun u s1 ⟨x, H1, I1, rx, q1⟩ => thn (hi.run pins s1 σ H1 _ I1 q1) fun iv s2 ⟨y, H2, I2, ry, a, dx, fs, ex, ha, q2⟩ => ?_)
  subst ex
  obtain rfl : u = Value.ref a := rx
  obtain ⟨mA, J, _⟩ := ins_get I2.hok ha
  obtain ⟨od, J, _⟩ := J.look
  obtain ⟨m, hF⟩ := I2.fr
  exact PySem.W.sub_K hF I2.ok.mod.kin J hm.at_ hf hm.fn (run_in1 (E := WE W) (us := [.ref a, iv]) (vs := [.ref a, y]) (dvs := []) F hr hb .nil (passAt tk σ) I2 (.cons rfl (.cons ry .nil)) q2) (hsl _ _)
def sOSet (C : Addr) (sp : Sp) (E : St → XK) (to ti tv : TE) : TS := fun D σ H => tv σ H fun v H1 => to σ H1 fun x H2 => ti σ H2 fun y H3 => ∃ a dx fs, x = .ref a ∧ H3 a = some (.ins C dx fs) ∧ sp [x, y, v] H3 (fun _ H' => D.nx σ H') (E σ)
theorem osetX (tk : Takes X W) (M : Ox X.prog X.w X.K X.mg X.base C "__setitem__" k ps sp) (hr : Room k X.A) (ho : PE X o to) (hi : PE X i ti) (hv : PE X value tv) (hs : swapsWith value (some (.Subscript o i pos')) pos.line X.env = pure false := by rfl) :
    PS X (.Assign [.Subscript o i pos'] value pos) (sOSet C sp (WE W) to ti tv) := by
  obtain ⟨f, fd, F, hm, hb, hf, ns⟩ := M.ex
  refine ⟨fun pins s σ H D I h => ?_⟩
  refine wpAny_Assign_Subscript (thn (hv.run pins s σ H _ I h) fun r s1 ⟨v, H1, I1, rv, q1⟩ => thn (ho.run pins s1 σ H1 _ I1 q1) fun u s2 ⟨x, H2, I2, rx, q2⟩ => thn (hi.run pins s2 σ H2 _ I2 q2) fun iv s3 ⟨y, H3, I3, ry, a, dx, fs, ex, ha, q3⟩ => ?_) hs
  subst ex
  obtain rfl : u = Value.ref a := rx
  obtain ⟨mA, J, _⟩ := ins_get I3.hok ha
  obtain ⟨od, J, _⟩ := J.look
  obtain ⟨m, hF⟩ := I3.fr
  refine PySem.W.ksp_setItem hF I3.ok.mod.kin J ns hm.at_ hm.fn (thn (run_fnSD (E := WE W) (us := [.ref a, iv, r]) (vs := [.ref a, y, v]) (dvs := []) F hr hb .nil (passAt tk σ) I3 (.cons rfl (.cons ry (.cons rv .nil))) q3) fun z s4 ⟨zv, H4, I4, rz, q4⟩ => ?_)
  exact ⟨σ, H4, I4, q4⟩
end
end Kn
set_option Elab.async false
set_option maxRecDepth 100000
set_option linter.all false
namespace Kn
open PySem L2 PySem.Spec
end Kn
set_option Elab.async false
set_option maxRecDepth 100000
set_option linter.all false
namespace Kn
open PySem L2 PySem.Spec
end Kn
set_option Elab.async false
set_option maxRecDepth 100000
set_option linter.all false
namespace Kn
open PySem L2 PySem.Spec PySem.Calls PyProof.Rows
section
variable {prog : Program} {w : World} {A : Around} {E : Value → Shared → Prop} {s : Shared} {K : PySem.W.Frag} {x C L f : Addr} {h₀ : Heap} {m : Str → Option Value} {ox : Obj} {od : Option Obj}
end
end Kn
set_option Elab.async false
set_option maxRecDepth 100000
set_option linter.all false
namespace Kn
open PySem L2 PySem.Spec
structure MzK (K : PySem.W.Frag) (C : Addr) (m qual : Str) (st : Stmt) (ps : List Str) (n : Nat) (ks : List Str) : Prop where
  ex : ∃ (f : Addr) (fd : FuncData), FunC K m qual st f fd ∧ Meth K C m f ∧ KBn K fd ps n ks (fun us ws => us ++ ws) (fun vs zs => vs ++ zs)
structure MxK (P : Program) (w : World) (K : PySem.W.Frag) (mg : Str → Option Value) (base : Heap) (C : Addr) (m : Str) (k : Nat) (ps : List Str) (n : Nat) (ks : List Str) (sp : Sp) : Prop where
  ex : ∃ (f : Addr) (fd : FuncData), FnOk P w K mg base (L2.CX P w) k f fd ps sp ∧ Meth K C m f ∧ KBn K fd ps n ks (fun us ws => us ++ ws) (fun vs zs => vs ++ zs)
theorem MzK.okX {P : Program} {w : World} {K : PySem.W.Frag} {mg : Str → Option Value} {base : Heap} {C : Addr} {m qual : Str} {st : Stmt} {ps N : List Str} {n : Nat} {ks : List Str} {k : Nat} {sp : Sp} (F : MzK K C m qual st ps n ks) (S : FnScope N ps (defScope st)) (len : ∀ vs H Q E, sp vs H Q E → vs.length = ps.length)
    (hbody : ∀ (f : Addr) (cdv : Value) (A : Around) (outer : List Env) (s : Shared) (H : Hp) (vs : List V) (Q : VK) (E : XK), Room k (A.deeper (PyProof.Rows.envOfC qual (defScope st) s.heap.objs.size f cdv)) → sp vs H Q E →
      ∃ t, PSs (cxOf (L2.CX P w) P w K mg base N qual (defScope st) f cdv A outer s H E) (defBody st) t ∧ t { nx := fun _ H' => Q .non H', rt := Q } (start N vs) H) : MxK P w K mg base C m (k + 1) ps n ks sp := by
  obtain ⟨f, fd, F1, m, b⟩ := F.ex
  exact ⟨f, fd, F1.okX S len (hbody f), m, b⟩
def tMethK (C : Addr) (m : Str) (sp : Sp) (n nk : Nat) (E : St → XK) (ta : TE) (t tk : TA) : TE := fun σ H Q => ta σ H fun x H1 => ∃ a dx fs, x = .ref a ∧ H1 a = some (.ins C dx fs) ∧ fs.lookup m = none ∧
  t σ H1 fun vs H2 => tk σ H2 fun zs H3 => vs.length + 1 = n ∧ zs.length = nk ∧ sp (x :: (vs ++ zs)) H3 Q (E σ)
section
variable {X : Cx} {k n : Nat} {C : Addr} {ps ks : List Str} {sp : Sp} {m : Str} {pos apos : Pos} {e o : Expr} {es : List Expr} {kws : List Keyword} {ta : TE} {t tkk : TA} {W : WX}
theorem mcallKX {pl : Sem Bool} (tk : Takes X W) (c : Cls X.K C) (M : MxK X.prog X.w X.K X.mg X.base C m k ps n ks sp) (hr : Room k X.A) (he : PE X o ta) (ha : PA X (e :: es) t) (hkw : PK X kws tkk)
    (hall : (backToKw pos (keywordEach kws X.env)).all (·.1.isSome) = true := by rfl) (hks : (backToKw pos (keywordEach kws X.env)).filterMap (·.1) = ks := by rfl)
    (hst : starEach (e :: es) X.env = (false, eval e X.env) :: starEach es X.env := by rfl) (hpl : ((backTo pos (starEach (e :: es) X.env)).any (·.1) || (backToKw pos (keywordEach kws X.env)).any (·.1.isNone)) = false := by rfl)
    (ht : eval (.Call (.Attribute o m apos) (e :: es) kws pos) X.env = (do
      let ov ← eval o X.env
      standAt apos.atName
      let (f, first) ← holding [ov] (getMethod ov m pl)
      callWith pos f first (backTo pos (starEach (e :: es) X.env)) (backToKw pos (keywordEach kws X.env))) := by rfl) :
    PE X (.Call (.Attribute o m apos) (e :: es) kws pos) (tMethK C m sp n ks.length (WE W) ta t tkk) := by
  obtain ⟨f, fd, F, hm, hb⟩ := M.ex
  refine ⟨fun pins s σ H Q I h => ?_⟩
  refine PySem.W.methodCall_KW (pl := pl) (thn (he.run pins s σ H _ I h) fun u s1 ⟨x, H1, I1, rx, a, dx, fs, ex, ea, l, q⟩ => ?_) ht
  subst ex
  obtain rfl : u = Value.ref a := rx
  refine getmeth_ok I1 ea c hm l ?_
  refine PySem.W.callWith_KW (first := [.ref a]) (h₀ := X.base) I.ok.mod.kin hm.kp hall (thn (ha.run pos pins s1 σ H1 _ I1 q) fun us s2 ⟨vs, H2, I2, r, q2⟩ => ?_) hpl hst
  refine thn (hkw.run pos pins s2 σ H2 _ I2 q2) fun ws s3 ⟨zs, H3, I3, rz, l1, l2, q3⟩ => ⟨I3.kIn, ?_⟩
  rw [hks]
  have r2 : Vals (V.ref a :: vs) (Value.ref a :: us) := .cons rfl r
  have r3 := hb.rel r2 rz
  have lu : (Value.ref a :: us).length = n := by rw [← r2.length]; exact l1
  have lw : ws.length = ks.length := by rw [← rz.length]; exact l2
  refine wpAny_call (codeAny_mono (F.run X.A X.stack s3 H3 ⟨Value.ref a :: us, ks.zip ws⟩ _ _ Q (WE W σ) hr I3.env0 (hb.to s3 (Value.ref a :: us) ws I3.kIn lu lw) r3 q3) fun r s' hq => ?_)
  cases r with
  | error e => exact passAt tk σ pins H3 s3 e s' I3 hq
  | ok fl =>
    cases fl with
    | ret u => exact I3.after hq
    | next => exact False.elim hq
    | brk => exact False.elim hq
    | cont => exact False.elim hq
end
end Kn
set_option Elab.async false
set_option maxRecDepth 100000
set_option linter.all false
namespace Kn
open PySem L2 PySem.Spec PySem.Calls PyProof.Rows
end Kn
set_option Elab.async false
set_option maxRecDepth 100000
set_option linter.all false
namespace Kn
open PySem L2 PySem.Spec PySem.Calls PyProof.Rows
section
variable {prog : Program} {w : World} {A : Around} {E : Value → Shared → Prop} {s : Shared} {t : Tok}
end
end Kn
set_option Elab.async false
set_option maxRecDepth 100000
set_option linter.all false
namespace Kn
open PySem L2
theorem Dr.same {t : Addr} {H H' : Hp} (tp : Tape H t) (e : Same H H') : Dr t H H' := by
  obtain ⟨ns, h⟩ := tp
  exact ⟨⟨ns, e _ _ h⟩, fun b o h _ => e b o h⟩
end Kn
set_option Elab.async false
set_option maxRecDepth 100000
set_option linter.all false
namespace Kn
open PySem L2
def LitE (K : PySem.W.Frag) (te : TE) (d : PyData) : Prop := ∀ σ H (Q : VK), (∀ v H', Same H H' → Dp K H' v d → Q v H') → te σ H Q
def LitA (K : PySem.W.Frag) (t : TA) (ds : List PyData) : Prop := ∀ σ H (Q : List V → Hp → Prop), (∀ vs H', Same H H' → DpAll K H' vs ds → Q vs H') → t σ H Q
section
variable {K : PySem.W.Frag} {te : TE} {t : TA} {d : PyData} {ds : List PyData}
theorem lit_str {x : Str} : LitE K (tC (.str x)) (.str x) := fun _ H Q k => k _ H (Same.refl _) (.str _)
theorem lit_int {x : Int} : LitE K (tC (.int x)) (.int x) := fun _ H Q k => k _ H (Same.refl _) (.int _)
theorem lit_non : LitE K (tC .non) .none := fun _ H Q k => k _ H (Same.refl _) .non
theorem lit_nil : LitA K tNil [] := fun _ H Q k => k _ H (Same.refl _) .nil
theorem lit_cons (a : LitE K te d) (b : LitA K t ds) : LitA K (tCons te t) (d :: ds) := fun σ H Q k => a σ H _ fun v H1 s1 h1 => b σ H1 _ fun vs H2 s2 h2 => k _ H2 (Same.trans s1 s2) (.cons (Dp.same s2 _ h1) h2)
theorem lit_tup (a : LitA K t ds) (hz : ds.length ≤ 1000 := by decide) : LitE K (tTup t) (.tuple ds) := fun σ H Q k => a σ H _ fun vs H1 s1 h1 => ⟨Nat.le_trans (by rw [h1.len]; exact hz) (show 1000 ≤ sizeLine by decide), fun p hp => k _ _ (Same.trans s1 (same_new hp)) (.tup (SqT.of upd_same) (DpAll.same (same_new hp) _ h1))⟩
end
theorem Dr.base {t : Addr} {H H1 H2 : Hp} (ht : H t = none) (sm : Same H H1) (d : Dr t H1 H2) : Same H H2 := fun b o h => d.keep b o (sm b o h) (ne_of_none h ht)
end Kn
set_option Elab.async false
set_option maxRecDepth 100000
set_option linter.all false
namespace Kn
open PySem L2
def FnRK (P : Program) (w : World) (K : PySem.W.Frag) (mg : Str → Option Value) (base : Heap) (CX : CXT) (k : Nat) (f : Addr) (kw : Str) (sp : Sp) : Prop :=
  ∀ (A : Around) (outer : List Env) (s : Shared) (H : Hp) (us : List Value) (u : Value) (vs : List V) (v : V) (Q : VK) (E : XK), Room k A → Env0 P w K mg base A outer s H → Vals vs us → RelV v u → sp (v :: vs) H Q E →
    codeAny (model P w) A (.call (.ref f) ⟨us, [(kw, u)]⟩) (CR CX outer P w H s Q E) s
structure FxRK (P : Program) (w : World) (K : PySem.W.Frag) (mg : Str → Option Value) (base : Heap) (CX : CXT) (x : Str) (k : Nat) (kw : Str) (sp : Sp) : Prop where
  ex : ∃ f : Addr, FnRK P w K mg base CX k f kw sp ∧ mg x = some (.ref f) ∧ PySem.W.keepIn K (.ref f) = true
structure FzSK (K : PySem.W.Frag) (mg : Str → Option Value) (x : Str) (st : Stmt) (pv kw : Str) : Prop where
  ex : ∃ (f : Addr) (fd : FuncData), Fun K x x st f fd ∧ mg x = some (.ref f) ∧ ∀ (rest : List Value) (u : Value), bindArgs fd ⟨rest, [(kw, u)]⟩ = (newTuple rest >>= fun t => pure [(kw, u), (pv, t)])
theorem FxRK.imp {P : Program} {w : World} {K : PySem.W.Frag} {mg : Str → Option Value} {base : Heap} {CX : CXT} {x : Str} {k : Nat} {kw : Str} {sp sp' : Sp} (F : FxRK P w K mg base CX x k kw sp) (h : ∀ vs H Q E, sp' vs H Q E → sp vs H Q E) : FxRK P w K mg base CX x k kw sp' :=
  let ⟨f, F1, m⟩ := F.ex
  ⟨f, fun A outer s H us u vs v Q E hr e0 r r2 hs => F1 A outer s H us u vs v Q E hr e0 r r2 (h _ _ _ _ hs), m⟩
def starKSp (sp : Sp) : Sp := fun vs H Q E => ∃ v rest, vs = v :: rest ∧ rest.length ≤ sizeLine ∧ ∀ p, H p = none → sp [v, V.ref p] (upd H p (.tup rest)) Q E
theorem FzSK.okX {P : Program} {w : World} {K : PySem.W.Frag} {mg : Str → Option Value} {base : Heap} {x pv kw : Str} {st : Stmt} {N : List Str} {k : Nat} {sp : Sp} (F : FzSK K mg x st pv kw) (S : FnScope N [kw, pv] (defScope st))
    (hbody : ∀ (f : Addr) (cdv : Value) (A : Around) (outer : List Env) (s : Shared) (H : Hp) (vs : List V) (Q : VK) (E : XK), Room k (A.deeper (PyProof.Rows.envOfC x (defScope st) s.heap.objs.size f cdv)) → sp vs H Q E →
      ∃ t, PSs (cxOf (L2.CX P w) P w K mg base N x (defScope st) f cdv A outer s H E) (defBody st) t ∧ t { nx := fun _ H' => Q .non H', rt := Q } (start N vs) H) : FxRK P w K mg base (L2.CX P w) x (k + 1) kw (starKSp sp) := by
  obtain ⟨f, fd, F1, m, hb⟩ := F.ex
  obtain ⟨oc, od, kV, doc, pm, an, cdv, ct, osl, rfl, lk, hcd⟩ := F1.ex
  refine ⟨f, ?_, m, F1.kp⟩
  intro A outer s H us u vs v Q E hr e0 r ru hsp
  obtain ⟨v, rest, ev, hz, hq⟩ := hsp
  cases ev
  have hn : H s.heap.objs.size = none := e0.hok.fresh (Nat.le_refl _)
  have hl2 : us.length ≤ sizeLine := by rw [← r.length]; exact hz
  refine StX.run_bnd lk hcd S hr e0 (G := fun xs H2 => ∃ p, H p = none ∧ xs = [v, V.ref p] ∧ H2 = upd H p (.tup vs)) (fun A' Ex Q' h => ?_) fun s2 H2 xs ⟨p, hp, ex, eH⟩ hr' => ?_
  · rw [hb us u]
    refine wpAny_bind (wpAny_newTuple (wpAny_pure ?_) hl2)
    have new : ObjOk P w (upd H s.heap.objs.size (.tup vs)) (s.heap.push ({ cls := .type "tuple", data := .seq us.toArray } : Obj)) s.heap.objs.size (.tup vs) := ⟨hz, us, r, ⟨_, Heap.get?_push_size _ rfl, rfl, _, rfl⟩⟩
    have un := StX.un_laid (fs := frs outer) (s := s) (o := ({ cls := .type "tuple", data := .seq us.toArray } : Obj)) (u := .tup vs) hn
    exact h _ _ [v, V.ref s.heap.objs.size] [u, Value.ref s.heap.objs.size] (StX.env0_laid e0 new) un rfl (fun e s' => StX.cxUp outer s H _ _ E e s' un (fun b o q => Heap.get?_push_of_some _ q) rfl) (.cons ru (.cons rfl .nil)) rfl ⟨_, hn, rfl, rfl⟩
  · subst ex eH
    exact hbody f cdv A outer s2 _ _ Q E hr' (hq p hp)
section
variable {X : Cx} {CX : CXT} {k : Nat} {sp : Sp} {x kw : Str} {p pos : Pos} {e : Expr} {es : List Expr} {t tk : TA} {kws : List Keyword}
end
end Kn
set_option Elab.async false
set_option maxRecDepth 100000
set_option linter.all false
namespace Kn
open PySem L2 PySem.Spec
section
variable {M : Model} {A : Around} {E : Value → Shared → Prop} {s : Shared} {Z : Obj → Prop} {B : Heap} {env : Env} {outer : List Env} {L L' x : Addr}
end
section
variable {X : Cx} {E : XK}
end
end Kn
set_option Elab.async false
set_option maxRecDepth 100000
set_option linter.all false
namespace Kn
open PySem L2 PySem.Spec
def cxS (CX : CXT) (P : Program) (w : World) (K : PySem.W.Frag) (mg : Str → Option Value) (base : Heap) (N : List Str) (qual : Str) (scope : Scope) (f : Addr) (cd : Value) (cc : Addr) (A : Around) (outer : List Env) (s : Shared) (H : Hp) (E : XK) : Cx :=
  let env := PySem.W.ksEnv qual scope s.heap.objs.size f cd cc
  { prog := P, w := w, K := K, mg := mg, base := base, A := A.deeper env, N := N, s_0 := s, H_0 := H, env := env, outer := outer, stack := env :: outer, ex := [], calm := true, fn := fun _ => false, pn := [],
    xe := fun e s' => wpAny (model P w) (A.deeper env) (leaving env e) (fun _ s'' => CX outer H s E e s'') (fun e' s'' => CX outer H s E e' s'') s' }
structure FsS (ps : List Str) (scope : Scope) : Prop where
  kind : scope.kind = .function
  co : scope.isCoroutine = false
  gen : scope.isGenerator = false
  nd : ps.Nodup
  par : ∀ x ∈ ps, scope.names.lookup x = some .local
  nocell : ∀ y ∈ scope.names, y.2 ≠ .cell
  free : ∀ y ∈ scope.names, y.2 = .free → y.1 = "__class__"
theorem lookup_mem {α : Type} : ∀ {l : List (Str × α)} {x : Str} {u : α}, (l.map (·.1)).Nodup → (x, u) ∈ l → l.lookup x = some u
  | (k, v) :: l, x, u, hn, h => by
    rw [List.map_cons, List.nodup_cons] at hn
    rcases List.mem_cons.mp h with e | h
    · cases e; rw [List.lookup_cons_self]
    · have : x ≠ k := fun z => hn.1 (z ▸ List.mem_map.mpr ⟨(x, u), h, rfl⟩)
      rw [List.lookup_cons, beq_eq_false_iff_ne.mpr this]
      exact lookup_mem hn.2 h
theorem inv_startS {CX : CXT} {P : Program} {w : World} {K : PySem.W.Frag} {mg : Str → Option Value} {base : Heap} {ps : List Str} {qual : Str} {scope : Scope} {f cc D : Addr} {cd : Value} {A : Around} {outer : List Env} {s : Shared} {H : Hp} {E : XK} {us : List Value} {vs : List V} {h1 : Heap} {tk : Nat} {cl : Value} {cld : Option Addr} {csl : Array (Option Value)}
    (S : FsS ps scope) (hd : A.handled = none) (e0 : Env0 P w K mg base A outer s H) (hl : vs.length = ps.length) (r : Vals vs us) (hc : K.lookup cc = some ⟨cl, cld, .cell (some (.ref D)), csl⟩)
    (ns : h1.Ns s.heap.objs.size fun x => (ps.zip us).reverse.lookup x) (hk : ∀ b o, s.heap.get? b = some o → h1.get? b = some o) :
    Inv (cxS CX P w K mg base ps qual scope f cd cc A outer s H E) [] (start ps vs) H { s with heap := h1, toks := tk } := by
  have bc : base.get? cc = some ⟨cl, cld, .cell (some (.ref D)), csl⟩ := e0.mod.kin _ _ hc
  have one : ∀ {y c}, ([(("__class__" : Str), cc)] : List (Str × Addr)).lookup y = some c → y = "__class__" ∧ c = cc := fun {y c} h => by
    rw [List.lookup_cons] at h
    cases q : y == ("__class__" : Str) with
    | true => rw [q] at h; cases h; exact ⟨by simpa using q, rfl⟩
    | false => rw [q] at h; cases h
  have noA : ∀ b : Addr, b ∉ (cxS CX P w K mg base ps qual scope f cd cc A outer s H E).ex := fun b z => absurd (show b ∈ ([] : List Addr) from z) (by simp)
  refine ⟨⟨e0.mod, S.kind, rfl, rfl, Nat.le_refl _, fun y z c h1 h2 => ?_, fun y hy => ?_, fun y c z h => ?_, fun _ => hd, Around.frames_deeper e0.frames, .inr ⟨rfl, rfl⟩, fun b z => absurd z (noA b), e0.bs, e0.bsz, fun b _ _ => noA b, fun b z => absurd z (noA b), e0.funs, e0.frf⟩,
    rfl, e0.bare, Un.kept hk, ⟨_, ns, fun i y v h1 h2 h3 => ?_⟩, fun y c h => ?_, e0.hok.fresh (Nat.le_refl _), fun y c h => ?_, fun p hp => absurd (show p ∈ ([] : List (Addr × Obj)) from hp) (by simp), e0.hok.kept hk, ?_⟩
  · exact (one h1).1.trans (one h2).1.symm
  · have hy : scope.names.lookup y = some .cell ∨ scope.names.lookup y = some .free := hy
    rcases hy with hy | hy
    · exact absurd rfl (S.nocell _ (PySem.mem_of_lookup hy))
    · have := S.free _ (PySem.mem_of_lookup hy) rfl
      have this : y = "__class__" := this
      subst this
      exact ⟨cc, rfl⟩
  · cases z
  · have hi : i < vs.length := by
      by_cases hi : i < vs.length
      · exact hi
      · unfold L2.start at h2
        rw [List.getElem?_append_right (by simpa using hi), List.getElem?_replicate] at h2
        split at h2 <;> cases h2
    have ha : vs[i]? = some v := by
      unfold L2.start at h2
      rw [List.getElem?_append_left (by simpa using hi), List.getElem?_map] at h2
      cases e : vs[i]? with
      | none => rw [e] at h2; cases h2
      | some a => rw [e] at h2; cases h2; rfl
    obtain ⟨u, hu, rv⟩ := r.get ha
    have h1 : ps[i]? = some y := h1
    refine ⟨u, rv, .inl ⟨S.par y (List.mem_of_getElem? h1), ?_⟩⟩
    have lu : us.length = ps.length := by rw [← r.length]; exact hl
    refine lookup_mem ?_ (List.mem_reverse.mpr (List.mem_of_getElem? (i := i) (by rw [List.getElem?_zip_eq_some]; exact ⟨h1, hu⟩)))
    rw [List.map_reverse, List.map_fst_zip (by omega)]
    exact (List.reverse_perm ps).nodup_iff.mpr S.nd
  · obtain ⟨_, rfl⟩ := one h
    exact ⟨_, _, hk _ _ (e0.bs _ _ bc).1, rfl⟩
  · obtain ⟨_, rfl⟩ := one h
    exact (e0.bs _ _ bc).2
  · show (start ps vs).length = ps.length
    unfold L2.start
    rw [List.length_append, List.length_map, List.length_replicate]; omega
theorem call_mw {prog : Program} {w : World} {A : Around} {E : Value → Shared → Prop} {h : Heap} {g : Array GenState} {d : Drawn} {t : Nat} {os : OsState} {nm q : Str} {C N : Addr} {bs bm : List Value} {hdct : Bool} {sn : List Str} {sub : List Value} {ab : Bool} {col : Option Bool} {dd : Option Addr} {k0 k1 k2 k3 k5 : Option Value} {u e t0 : Addr} {rest : List Value} {Q : Value → Shared → Prop}
    (hC : h.get? C = some (excClassObj nm q C N bs bm hdct sn sub ab col dd k0 k1 k2 k3 k5 "ValueError.__new__")) (he : h.get? e = some (HandSPX.excO C t0)) (hu : h.get? u = some (PySem.W.kxs_mw "ValueError.__init__" e)) (hr : rest.length ≤ sizeLine)
    (hq : ∀ h' t1, (∀ b o, b ≠ e → h.get? b = some o → h'.get? b = some o) → h'.get? e = some (HandSPX.excO C t1) → Q .none ⟨h', g, d, t, os⟩) :
    wpAny (model prog w) A (call (.ref u) rest) Q E ⟨h, g, d, t, os⟩ := by
  refine wpAny_call (codeAny_of_tree ?_)
  show wpAny _ A.in1 (callAny (.ref u) ⟨rest, []⟩) _ _ _
  simp only [callAny]
  refine wpAny_bind (wpAny_load hu ?_)
  have c1 : (Value.type "method-wrapper" == Value.type "method" || Value.type "method-wrapper" == Value.type "builtin_function_or_method" || Value.type "method-wrapper" == Value.type "method-wrapper") = true := by decide
  simp only [PySem.W.kxs_mw, c1, if_true]
  refine PySem.W.KFB.if_so (by decide) ?_
  refine wpAny_bind (PySem.ESX.check_bound F.excBase_ValueError hC he rfl ?_)
  refine wpAny_bind (wpAny_pure (wpAny_pure ?_))
  refine ⟨Code.quiet_builtin _ (by decide +kernel), codeAny_builtin F.excBase_ValueError.initEntry ?_⟩
  rw [Around.under_plainId F.excBase_ValueError.init.plain _]
  wp_walk
  refine hq _ h.objs.size (fun b o hb ho => ?_) ?_
  · rw [Heap.get?_update_other _ _ (Ne.symm hb)]; exact Heap.get?_push_of_some _ ho
  · rw [Heap.get?_update_self _ (Heap.get?_push_of_some _ he) rfl]; rfl
structure SupT (P : Program) (K : PySem.W.Frag) (mg : Str → Option Value) (C : Addr) : Prop where
  oex : OexC K C
  cls : ∃ cd, PySem.W.clsIn K C = some cd
  self : PySem.W.mroIn K C (.ref C) = some true
  ve : PySem.W.subIn K (.ref C) (.type "ValueError") = some true
  sup : PySem.W.ks_superIn K C C "__init__" = some (some (.builtin "ValueError.__init__"))
  nosup : mg "super" = none
  opq : PySem.W.nsIn K cStatics "thirdparty.any" = some none
  top : (P.main.scope.names.lookup ("super" : Str)).isSome = false
def spS (ps : List Str) (C : Addr) (ta : TA) (tr : TS) : Sp := fun vs H Q _ => vs.length = ps.length ∧ ∃ a ws, vs = .ref a :: ws ∧ H a = some (exo a C none) ∧
  ta (start ps vs) H fun us H1 => us.length ≤ 1000 ∧ H1 a = some (exo a C none) ∧ tr { nx := fun _ H' => Q .non H', rt := fun _ _ => False } (start ps vs) H1
theorem fn_super {CX : CXT} {P : Program} {w : World} {K : PySem.W.Frag} {mg : Str → Option Value} {base : Heap} {k : Nat} {f C cc cda : Addr} {name qual : Str} {params : Arguments} {rest : List Stmt} {scope : Scope} {dV kV doc pm ct oc cl ccl : Value} {an od cld cdd : Option Addr} {osl csl ccs : Array (Option Value)} {vs0 : Array Value} {file : Str} {tf : Tok} {ps : List Str} {p0 p1 ap pos ep : Pos} {e : Expr} {es : List Expr} {ar : Arg} {ta : TA} {tr : TS}
    (T : SupT P K mg C)
    (lk : K.lookup f = some ⟨oc, od, .func (PySem.W.ksFn name qual params (.Expr (.Call (.Attribute (.Call (.Name "super" p0) [] [] p1) "__init__" ap) (e :: es) [] pos) ep :: rest) scope dV kV doc pm an (.ref cda) ct cc), osl⟩) (hcd : PySem.W.codeIn K (.ref cda) qual = true)
    (hcode : K.lookup cda = some ⟨ccl, cdd, .fields vs0, ccs⟩) (hvs : vs0[2]? = some (.str file tf)) (hfile : ((P.main.file : Str) == file) = true) (hcell : K.lookup cc = some ⟨cl, cld, .cell (some (.ref C)), csl⟩)
    (S : FsS ps scope) (hp : (params.posonlyargs ++ params.args).head? = some ar) (har : ps[0]? = some ar.arg) (hks : scope.names.lookup ("super" : Str) = some .globalImplicit) (hkc : scope.names.lookup ("__class__" : Str) = some .free)
    (hta : ∀ A outer s H E, PA (cxS CX P w K mg base ps qual scope f (.ref cda) cc A outer s H E) (e :: es) ta) (htr : ∀ A outer s H E, PSs (cxS CX P w K mg base ps qual scope f (.ref cda) cc A outer s H E) rest tr)
    (hst : ∀ env, starEach (e :: es) env = (false, eval e env) :: starEach es env := by intro env; rfl) (hpl : ∀ env, (backTo pos (starEach es env)).any (·.1) = false := by intro env; rfl) (hsw : ∀ env, swapsWith (.Call (.Attribute (.Call (.Name "super" p0) [] [] p1) "__init__" ap) (e :: es) [] pos) none ep.line env = pure false := by intro env; rfl)
    {pl : Sem Bool} (hev : ∀ env, eval (.Call (.Attribute (.Call (.Name "super" p0) [] [] p1) "__init__" ap) (e :: es) [] pos) env = (do
      let ov ← attributeBase (.Call (.Name "super" p0) [] [] p1) "__init__" env (eval (.Call (.Name "super" p0) [] [] p1) env)
      standAt ap.atName
      let (f, first) ← holding [ov] (getMethod ov "__init__" pl)
      callWith pos f first (backTo pos (starEach (e :: es) env)) []) := by intro env; rfl) :
    FnOk P w K mg base CX (k + 1) f (PySem.W.ksFn name qual params (.Expr (.Call (.Attribute (.Call (.Name "super" p0) [] [] p1) "__init__" ap) (e :: es) [] pos) ep :: rest) scope dV kV doc pm an (.ref cda) ct cc) ps (spS ps C ta tr) := by
  refine ⟨fun vs H Q E h => h.1, fun A outer s H args us vs Q E hr e0 hb r hsp => ?_⟩
  obtain ⟨hl, a, ws, rfl, ea, hsp⟩ := hsp
  have KX : K.In s.heap := e0.mod.kin.keeps fun b o e => (e0.bs b o e).1
  refine PySem.ks_codeAny_call_defAt (binds := ps.zip us) hr.depth (KX _ _ lk) rfl (e0.mod.nolimit.keeps fun b o e => (e0.bs b o e).1) (PySem.W.codeRec_of KX hcd) rfl hb S.nocell (fun y hy => S.par y.1 (List.of_mem_zip (a := y.1) (b := y.2) hy).1) (fun h1 ns hk => ?_) S.co S.gen S.kind
  have I0 : Inv (cxS CX P w K mg base ps qual scope f (.ref cda) cc A outer s H E) [] (start ps (.ref a :: ws)) H { s with heap := h1, toks := s.toks + (ps.zip us).length } := inv_startS S hr.hd e0 hl r hcell ns hk
  have hA := hta A outer s H E
  have hR := htr A outer s H E
  have hx : (cxS CX P w K mg base ps qual scope f (.ref cda) cc A outer s H E).xe = fun e s' => wpAny (model P w) (A.deeper (PySem.W.ksEnv qual scope s.heap.objs.size f (.ref cda) cc)) (leaving (PySem.W.ksEnv qual scope s.heap.objs.size f (.ref cda) cc) e) (fun _ s'' => CX outer H s E e s'') (fun e' s'' => CX outer H s E e' s'') s' := rfl
  generalize hXX : cxS CX P w K mg base ps qual scope f (.ref cda) cc A outer s H E = X at I0 hA hR hx
  have eK : X.K = K := by rw [← hXX]; rfl
  have eP : X.prog = P := by rw [← hXX]; rfl
  have eW : X.w = w := by rw [← hXX]; rfl
  have eA : X.A = A.deeper (PySem.W.ksEnv qual scope s.heap.objs.size f (.ref cda) cc) := by rw [← hXX]; rfl
  have eE : X.env = PySem.W.ksEnv qual scope s.heap.objs.size f (.ref cda) cc := by rw [← hXX]; rfl
  have eN : X.N = ps := by rw [← hXX]; rfl
  have eM : X.mg = mg := by rw [← hXX]; rfl
  have fin : ∀ {σ' : St} {H' : Hp} {s' : Shared}, Inv X [] σ' H' s' → Q .non H' → CE outer P w H s Q .none s' := fun {σ' H' s'} J q => by
    subst hXX
    exact ⟨.non, H', J.os, J.bare, J.base, J.hok, rfl, q⟩
  show wpAt (model P w) (A.deeper (PySem.W.ksEnv qual scope s.heap.objs.size f (.ref cda) cc)) (.func _ (PySem.W.ksEnv qual scope s.heap.objs.size f (.ref cda) cc)) (execs _ (PySem.W.ksEnv qual scope s.heap.objs.size f (.ref cda) cc)) _ _ _
  have ka : scope.names.lookup ar.arg = some .local := S.par _ (List.mem_of_getElem? har)
  have f1 : interactive X.env = false := by rw [eE]; unfold interactive; simp [S.kind]
  have f2 : X.env.kindOf "super" = some .globalImplicit := by rw [eE]; exact hks
  have f3 : X.env.kindOf "__class__" = some .free := by rw [eE]; exact hkc
  have f4 : X.env.func = some f := by rw [eE]
  have f5 : X.env.code = .ref cda := by rw [eE]
  have f6 : X.env.cells.lookup ("__class__" : Str) = some cc := by rw [eE]; rfl
  have f7 : X.env.kindOf ar.arg = some .local := by rw [eE]; exact ka
  rw [← eA, ← eE] at hx ⊢
  refine PySem.ks_wpAt_mono (E := X.xe) ?_ (fun _ _ z => z) fun e' s' z => by rw [hx, eA, eE] at z; exact z
  subst eP eW eK eM
  refine PySem.ks_wpAt_execs_cons (PySem.ks_wpAt_Expr_any ?_ f1 (hsw _))
  refine PySem.ks_wpAt_MethodCall ?_ (hev _)
  obtain ⟨cdC, hcC⟩ := T.cls
  obtain ⟨nm, q, NN, bs, bm, sn, sub, ab, col, dd, k0, k1, k2, k3, k5, hC, hbm⟩ := T.oex.cls
  obtain ⟨hh, g, d, t, os⟩ := s
  obtain ⟨t1, ho⟩ := exo_at I0.hok ea
  have XI := I0.kIn
  obtain ⟨mb, b1, b2⟩ := I0.mod.blt
  refine PySem.ks_wpAt_super_base f2 f3 (by decide) f4 (XI _ _ lk) rfl hp f5 (XI _ _ hcode) rfl hvs hfile T.top ?_
  refine PySem.W.ks_loadName_global I0.ok.kind f2 (Calls.loadGlobal_builtin (by rw [I0.ok.glob]; exact I0.mod.glob.keeps I0.bk) T.nosup (by rw [I0.ok.blt]; exact b1.keeps I0.bk) ((b2 "super" (by decide)).trans (show bootBuiltins "super" = some (.type "super") by decide +kernel)) ⟨rfl, ?_⟩)
  refine wpAny_loadName_free I0.ok.kind f3 f6 ⟨_, XI _ _ hcell, rfl⟩ ?_
  obtain ⟨m, hn, hloc⟩ := I0.loc
  obtain ⟨u, ru, lk0⟩ := hloc 0 ar.arg (.ref a) (by rw [eN]; exact har) rfl (.inl f7)
  have ru : u = Value.ref a := ru
  subst ru
  have lk0 : m ar.arg = some (.ref a) := by
    rcases lk0 with ⟨_, z⟩ | ⟨z, _⟩
    · exact z
    · rw [f7] at z
      rcases z with z | z <;> cases z
  refine wpAny_loadName_local I0.ok.kind f7 hn lk0 ?_
  have hC' := XI _ _ hC
  refine PySem.ks_wpAny_isType_cls hC' rfl ⟨rfl, ?_⟩
  refine PySem.ks_wpAny_call_super hC' rfl ho rfl (fun c z => by cases z) (PySem.W.looks_mroIn XI T.self) (fun h2 e2 kk2 => ?_)
  have I2 := I0.kept (t' := t + (ps.zip us).length) (h' := h2) kk2
  have XI2 := I2.kIn
  have ne : a ≠ C := fun z => by rw [z, hC'] at ho; cases ho
  have sup := T.sup
  unfold PySem.W.ks_superIn at sup
  rw [hcC, Option.bind_some] at sup
  refine PySem.W.kxs_getMethod PySem.W.kxs_ValueError e2 (PySem.W.looks_opaque XI2 T.opq) (l₀ := cdC.mro) (fun A Q E s k q => wpAny_bind ((PySem.W.looks_clsIn XI2 hcC) A _ E s k (wpAny_pure q))) rfl XI2 sup ?_ ne (by decide) ?_
  · have LT : PySem.W.Looks (model X.prog X.w) h2 (typeOf (.ref a)) (.ref C) := fun A Q E s k q => wpAny_typeOf_ref (k _ _ (kk2 _ _ ho)) q
    exact LT.andThen (PySem.W.looks_subIn XI2 T.ve)
  have kk3 : ∀ b o, h2.get? b = some o → (h2.push (PySem.W.kxs_mw "ValueError.__init__" a)).get? b = some o := fun b o q => Heap.get?_push_of_some _ q
  have I3 := I2.kept (t' := t + (ps.zip us).length + 1) (h' := h2.push (PySem.W.kxs_mw "ValueError.__init__" a)) kk3
  have hu3 : (h2.push (PySem.W.kxs_mw "ValueError.__init__" a)).get? h2.objs.size = some (PySem.W.kxs_mw "ValueError.__init__" a) := Heap.get?_push_at rfl rfl
  have fpu : FpOk X [] H h2.objs.size := I2.fpOk (Nat.le_refl _) (I2.hok.fresh (Nat.le_refl _))
  have I4 : Inv X [(h2.objs.size, PySem.W.kxs_mw "ValueError.__init__" a)] (start ps (.ref a :: ws)) H _ := I3.pins_of fun p hp => by
    have := List.mem_singleton.mp hp
    subst this
    exact ⟨hu3, fpu.1, fpu.2.1, fpu.2.2.1, fun v z => by cases z⟩
  show wpAny _ _ (callWith pos (.ref h2.objs.size) [] (backTo pos (starEach (e :: es) X.env)) []) _ _ _
  have hc := hA.run pos _ _ _ H _ I4 hsp
  refine PySem.W.kxs_callWith1 (h₀ := X.base) (L := X.env.locals) (news := [(h2.objs.size, PySem.W.kxs_mw "ValueError.__init__" a)]) (i := "ValueError.__init__") (x := a) ?_ (by simp) (thn hc fun vs1 s5 ⟨xs, H5, I5, r5, z5, ea5, q5⟩ => ?_) (hst _) (hpl _)
  · intro p hp
    have := List.mem_singleton.mp hp
    subst this
    refine ⟨hu3, fpu.2.1, ?_⟩
    cases z : X.base.get? h2.objs.size with
    | none => rfl
    | some o => exact absurd (Heap.lt_size (I2.bk _ _ z)) (Nat.lt_irrefl _)
  have pin5 := (I5.pin (h2.objs.size, PySem.W.kxs_mw "ValueError.__init__" a) (by simp)).1
  refine ⟨pin5, ?_⟩
  have I6 : Inv X [] (start ps (.ref a :: ws)) H5 s5 := I5.pins_of fun p hp => by cases hp
  obtain ⟨h5, g5, d5, t5, os5⟩ := s5
  obtain ⟨t6, ho6⟩ := exo_at I6.hok ea5
  refine call_mw (I6.kIn _ _ hC) ho6 pin5 (by rw [← r5.length, sizeLine_eq]; omega) fun h7 t7 k7 e7 => ?_
  have J := I6.write (t' := t5) (x := a) (e := a) (o := exo a C none) (by rw [ea5]; exact True.intro) (.inl rfl) k7 ⟨_, e7⟩ (exo_ok e7)
  have eu : upd H5 a (exo a C none) = H5 := by
    funext b
    by_cases hb : b = a
    · rw [hb, upd_same, ea5]
    · rw [upd_ne hb]
  rw [eu] at J
  refine wpAt_of_wpAny (wpAny_mono (hR.run [] _ _ H5 _ J q5) (fun fl s' hs => ?_) fun e' s' hs => hs)
  cases fl with
  | ret u =>
    obtain ⟨v, σ', H', J', rv, q⟩ := hs
    exact False.elim q
  | next =>
    obtain ⟨σ', H', J', q⟩ := hs
    exact fin J' q
  | brk =>
    obtain ⟨_, _, _, q⟩ := hs
    exact False.elim q
  | cont =>
    obtain ⟨_, _, _, q⟩ := hs
    exact False.elim q
end Kn
namespace Kn
open PySem L2 PySem.Spec
def okV (m : Bool) (vs : List V) : Prop := m = true → ∃ y, vs = [.str y] ∧ y.length ≤ 1000
def tMkS (C : Addr) (fs : List Str) (m : Bool) (ta : TA) : L2.St → Hp → XK → Prop := fun σ H Q => ta σ H fun vs H1 => vs.length = fs.length ∧ okV m vs ∧ ∀ d, H1 d = none → Q (.ref C) (some d) (upd H1 d (.xd (fs.zip vs).reverse))
structure RaiseT (P : Program) (w : World) (K : PySem.W.Frag) (mg : Str → Option Value) (base : Heap) (x : Str) (fs : List Str) (m : Bool) : Prop where
  ex : ∃ fI fd sp, mg x = some (.ref (clsA mg x)) ∧ OexC K (clsA mg x) ∧ PySem.W.findIn K (.ref (clsA mg x)) "__init__" = some (some (.ref fI)) ∧ PySem.W.typeIn K (.ref fI) = some (.type "function") ∧ FnOk P w K mg base CX0 1 fI fd ("self" :: fs) sp ∧ Binds K fd ("self" :: fs) [] ∧
    ∀ vs H1 (Q : XK), vs.length = fs.length → okV m vs → (∀ d, H1 d = none → Q (.ref (clsA mg x)) (some d) (upd H1 d (.xd (fs.zip vs).reverse))) → ∀ a, H1 a = none → sp (.ref a :: (vs ++ [])) (upd H1 a (exo a (clsA mg x) none))
      (fun v H2 => v = .non ∧ ∃ (d : Addr) (fs : List (Str × V)), H2 a = some (exo a (clsA mg x) (some d)) ∧ H2 d = some (exd d fs) ∧ H1 d = none ∧ Q (.ref (clsA mg x)) (some d) (upd (del H2 a) d (.xd fs))) (fun _ _ _ => False)
theorem pmkS {X : Cx} {x : Str} {fs : List Str} {m : Bool} {p pos : Pos} {e : Expr} {es : List Expr} {ta : TA} (R : RaiseT X.prog X.w X.K X.mg X.base x fs m) (hr : Room 2 X.A) (hfs : fs.length ≤ 1000) (hg : Gl X x) (ha : PA X (e :: es) ta)
    (hdb : (x == ("__debug__" : Str)) = false := by decide) (he : starEach (e :: es) X.env = (false, eval e X.env) :: starEach es X.env := by rfl) (hpl : (backTo pos (starEach es X.env)).any (·.1) = false := by rfl) : PMk X (.Call (.Name x p) (e :: es) [] pos) (tMkS (clsA X.mg x) fs m ta) := by
  obtain ⟨fI, fd, sp, hm, T, iC, tI, F1, hb, imp⟩ := R.ex
  have h0 : PA X (e :: es) fun σ H Q => ∃ P : List V → Hp → Prop, ta σ H P ∧ ∀ vs H1, P vs H1 → Q vs H1 :=
    ⟨fun pos pins s σ H Q I ⟨P, h, k⟩ => thn (ha.run pos pins s σ H _ I h) fun us s1 ⟨vs, H1, I1, r, q⟩ => ⟨vs, H1, I1, r, k vs H1 q⟩⟩
  have key := pmk_oex (p := p) (pos := pos) (dvs := []) T iC tI F1 hr hb .nil pass0 hg hm h0 hdb he hpl
  intro pins s σ H Q I h
  exact key pins s σ H Q I ⟨_, h, fun vs H1 ⟨l, o, q⟩ => ⟨by rw [l]; exact hfs, fun a ha => imp vs H1 Q l o q a ha⟩⟩
theorem raise1 {P : Program} {w : World} {K : PySem.W.Frag} {mg : Str → Option Value} {base : Heap} {x f : Str} {m : Bool} {fI : Addr} {fd : FuncData} {ta : TA} (hm : mg x = some (.ref (clsA mg x))) (T : OexC K (clsA mg x)) (iC : PySem.W.findIn K (.ref (clsA mg x)) "__init__" = some (some (.ref fI))) (tI : PySem.W.typeIn K (.ref fI) = some (.type "function"))
    (nf : PySem.W.findIn K (.ref (clsA mg x)) f = some none) (F1 : FnOk P w K mg base CX0 1 fI fd ["self", f] (spS ["self", f] (clsA mg x) ta (tOst K f (tVar 0) (tVar 1)))) (hb : Binds K fd ["self", f] [])
    (hta : ∀ a y H (Q : List V → Hp → Prop), okV m [y] → (∀ us, us.length ≤ 1000 → Q us H) → ta [some (.ref a), some y] H Q) : RaiseT P w K mg base x [f] m := by
  refine ⟨fI, fd, _, hm, T, iC, tI, F1, hb, fun vs H1 Q hl ho q a ha => ?_⟩
  obtain ⟨y, rfl⟩ : ∃ y, vs = [y] := by
    match vs, hl with
    | [y], _ => exact ⟨y, rfl⟩
  refine ⟨rfl, a, [y], rfl, upd_same, hta a y _ _ ho fun us hu => ⟨hu, upd_same, y, rfl, .ref a, rfl, a, clsA mg x, rfl, T, nf, .inl ⟨upd_same, fun dx hd hne => ⟨rfl, dx, [(f, y)], upd_same, ?_, ?_, ?_⟩⟩⟩⟩
  · rw [upd_ne hne, upd_same]
  · rw [upd_ne hne] at hd; exact hd
  · rw [upd_ne hne] at hd
    have e : upd (del (upd (upd (upd H1 a (exo a (clsA mg x) none)) dx (exd dx [(f, y)])) a (exo a (clsA mg x) (some dx))) a) dx (.xd [(f, y)]) = upd H1 dx (.xd [(f, y)]) := by
      funext b
      by_cases c : b = dx
      · rw [c, upd_same, upd_same]
      · rw [upd_ne c, upd_ne c]
        by_cases c2 : b = a
        · rw [c2, del_same, ha]
        · rw [del_ne c2, upd_ne c2, upd_ne c, upd_ne c2]
    rw [e]
    exact q dx hd
end Kn
set_option Elab.async false
set_option maxRecDepth 100000
set_option linter.all false
namespace Kn
open PySem L2 PySem.Spec
section
variable {prog : Program} {w : World} {A : Around} {E : Value → Shared → Prop} {s : Shared} {K : PySem.W.Frag} {x D : Addr} {ox : Obj} {od : Option Obj}
end
end Kn
set_option Elab.async false
set_option maxRecDepth 100000
set_option linter.all false
namespace Kn
open PySem L2 PySem.Spec
structure Cz (K : PySem.W.Frag) (C : Addr) (qual : Str) (st : Stmt) (ps : List Str) (dvs : List V) : Prop where
  ex : ∃ (f : Addr) (fd : FuncData) (ds : List Value), FunC K "__call__" qual st f fd ∧ Meth K C "__call__" f ∧ Binds K fd ps ds ∧ Vals dvs ds
structure Cq (P : Program) (w : World) (K : PySem.W.Frag) (mg : Str → Option Value) (base : Heap) (C : Addr) (k : Nat) (ps : List Str) (dvs : List V) (sp : Sp) : Prop where
  ex : ∃ (f : Addr) (fd : FuncData) (ds : List Value), FnOk P w K mg base (L2.CX P w) k f fd ps sp ∧ StX.CallO K C f ∧ Binds K fd ps ds ∧ Vals dvs ds
theorem Cz.okX {P : Program} {w : World} {K : PySem.W.Frag} {mg : Str → Option Value} {base : Heap} {C : Addr} {qual : Str} {st : Stmt} {ps N : List Str} {dvs : List V} {k : Nat} {sp : Sp} (F : Cz K C qual st ps dvs) (S : FnScope N ps (defScope st)) (len : ∀ vs H Q E, sp vs H Q E → vs.length = ps.length)
    (hbody : ∀ (f : Addr) (cdv : Value) (A : Around) (outer : List Env) (s : Shared) (H : Hp) (vs : List V) (Q : VK) (E : XK), Room k (A.deeper (PyProof.Rows.envOfC qual (defScope st) s.heap.objs.size f cdv)) → sp vs H Q E →
      ∃ t, PSs (cxOf (L2.CX P w) P w K mg base N qual (defScope st) f cdv A outer s H E) (defBody st) t ∧ t { nx := fun _ H' => Q .non H', rt := Q } (start N vs) H) : Cq P w K mg base C (k + 1) ps dvs sp := by
  obtain ⟨f, fd, ds, F1, m, b, v⟩ := F.ex
  exact ⟨f, fd, ds, F1.okX S len (hbody f), ⟨m.at_, m.fn, F1.fnIn⟩, b, v⟩
section
variable {X : Cx} {k : Nat} {C : Addr} {ps : List Str} {sp : Sp} {dvs : List V} {pos : Pos} {e fe : Expr} {es : List Expr} {tf : TE} {t : TA} {W : WX}
end
end Kn
set_option Elab.async false
set_option maxRecDepth 100000
set_option linter.all false
namespace Kn
open PySem L2 PySem.Spec
end Kn
set_option Elab.async false
set_option maxRecDepth 100000
set_option linter.all false
namespace Kn
open PySem L2
abbrev NK := NestedKey
def ndE (w : World) (x : NK × Addr × Value) : DictEntry := ⟨x.1.hash w, .ref x.2.1, x.2.2⟩
abbrev XR (p : NK × Addr × V) (q : NK × Addr × Value) : Prop := p.1 = q.1 ∧ p.2.1 = q.2.1 ∧ RelV p.2.2 q.2.2
def NdOk (w : World) (a : Addr) (o : Obj) (xs : List (NK × Addr × V)) (h : Heap) : Prop :=
  (a == sysModules) = false ∧ xs.length ≤ sizeLine ∧ h.get? a = some o ∧ o.ExactDict ∧ ∃ (es : Array DictEntry) (ep : Nat) (ys : List (NK × Addr × Value)), o.data = .dict es ep ∧ Paired XR xs ys ∧ es.toList = ys.map (ndE w) ∧ (ys.map (·.1)).Nodup
def ndO (w : World) (a : Addr) (o : Obj) (xs : List (NK × Addr × V)) : HO := .ext (NdOk w a o xs)
mutual
inductive KyV (K : PySem.W.Frag) (H : Hp) : NK → V → Prop
  | none : KyV K H .none .non
  | int (i : Int) : KyV K H (.num i) (.int i)
  | str (x : Str) : KyV K H (.text x) (.str x)
  | tup {a : Addr} {xs : List V} {ks : List NK} (h : SqT K H a xs) (t : KyL K H ks xs) : KyV K H (.tup ks) (.ref a)
inductive KyL (K : PySem.W.Frag) (H : Hp) : List NK → List V → Prop
  | nil : KyL K H [] []
  | cons {k : NK} {v : V} {ks : List NK} {vs : List V} (h : KyV K H k v) (t : KyL K H ks vs) : KyL K H (k :: ks) (v :: vs)
end
mutual
theorem KyV.is {X : Cx} {pins : List (Addr × Obj)} {σ : St} {H : Hp} {s : Shared} (I : Inv X pins σ H s) : ∀ {k : NK} {v : V} {u : Value}, KyV X.K H k v → RelV v u → NestedIs s.heap k u
  | _, _, u, .none, r => by
    obtain rfl : u = Value.none := r
    exact .none
  | _, _, u, .int i, r => by
    obtain ⟨t, rfl⟩ := (show ∃ t, u = Value.int i t from r)
    exact .int i t
  | _, _, u, .str x, r => by
    obtain ⟨t, rfl⟩ := (show ∃ t, u = Value.str x t from r)
    exact .text x t
  | _, _, u, .tup (a := a) h t, r => by
    obtain rfl : u = Value.ref a := r
    obtain ⟨its, hv, ht, _⟩ := I.tuple h
    obtain ⟨o, h1, h2, n, h3⟩ := ht
    exact .tup h1 h2 h3 (KyL.is I t (by simpa using hv))
theorem KyL.is {X : Cx} {pins : List (Addr × Obj)} {σ : St} {H : Hp} {s : Shared} (I : Inv X pins σ H s) : ∀ {ks : List NK} {vs : List V} {us : List Value}, KyL X.K H ks vs → Vals vs us → NestedAll s.heap ks us
  | _, _, _, .nil, .nil => .nil
  | _, _, _, .cons h t, .cons r q => .cons (KyV.is I h r) (KyL.is I t q)
end
def atN (xs : List (NK × Addr × V)) (k : NK) : Option V := (xs.find? fun x => decide (x.1 = k)).map (·.2.2)
def stN (xs : List (NK × Addr × V)) (k : NK) (b : Addr) (v : V) : List (NK × Addr × V) :=
  if (atN xs k).isSome then xs.map fun x => if x.1 = k then (x.1, x.2.1, v) else x else xs ++ [(k, b, v)]
theorem XR.at_ {k : NK} : ∀ {xs : List (NK × Addr × V)} {ys : List (NK × Addr × Value)}, Paired XR xs ys → RelO (atN xs k) ((atKey ys k).map (·.2))
  | _, _, .nil => True.intro
  | x :: xs, y :: ys, .cons h t => by
    have h : XR x y := h
    by_cases c : x.1 = k
    · have c2 : y.1 = k := h.1 ▸ c
      unfold atN atKey
      rw [List.find?_cons_of_pos (by simpa using c), List.find?_cons_of_pos (by simpa using c2)]
      exact h.2.2
    · have c2 : ¬ y.1 = k := h.1 ▸ c
      unfold atN atKey
      rw [List.find?_cons_of_neg (by simpa using c), List.find?_cons_of_neg (by simpa using c2)]
      exact XR.at_ t
theorem XR.some_ {k : NK} {xs : List (NK × Addr × V)} {ys : List (NK × Addr × Value)} (h : Paired XR xs ys) : (atN xs k).isSome = (atKey ys k).isSome := by
  have q := XR.at_ (k := k) h
  have e := q.isSome_eq
  rw [Option.isSome_map] at e
  exact e
theorem XR.map_ {k : NK} {v : V} {u : Value} (r : RelV v u) : ∀ {xs : List (NK × Addr × V)} {ys : List (NK × Addr × Value)}, Paired XR xs ys → Paired XR (xs.map fun x => if x.1 = k then (x.1, x.2.1, v) else x) (ys.map (putAt k u))
  | _, _, .nil => .nil
  | x :: xs, y :: ys, .cons h t => by
    rw [List.map_cons, List.map_cons]
    refine .cons ?_ (XR.map_ r t)
    have h : XR x y := h
    show XR (if x.1 = k then (x.1, x.2.1, v) else x) (putAt k u y)
    unfold putAt
    by_cases c : x.1 = k
    · have c2 : y.1 = k := h.1 ▸ c
      rw [if_pos c, if_pos c2]
      exact ⟨h.1, h.2.1, r⟩
    · have c2 : ¬ y.1 = k := h.1 ▸ c
      rw [if_neg c, if_neg c2]
      exact h
theorem XR.app {x : NK × Addr × V} {y : NK × Addr × Value} (r : XR x y) : ∀ {xs : List (NK × Addr × V)} {ys : List (NK × Addr × Value)}, Paired XR xs ys → Paired XR (xs ++ [x]) (ys ++ [y])
  | _, _, .nil => .cons r .nil
  | _, _, .cons h t => .cons h (XR.app r t)
theorem XR.put {k : NK} {b : Addr} {v : V} {u : Value} {xs : List (NK × Addr × V)} {ys : List (NK × Addr × Value)} (h : Paired XR xs ys) (r : RelV v u) : Paired XR (stN xs k b v) (storedH ys k b u) := by
  unfold stN storedH
  rw [XR.some_ h]
  split
  · exact XR.map_ r h
  · exact XR.app ⟨rfl, rfl, r⟩ h
section
variable {X : Cx} {pins : List (Addr × Obj)} {σ : St} {H : Hp} {s : Shared} {a : Addr} {o : Obj} {xs : List (NK × Addr × V)}
end
section
variable {X : Cx} {o i e value : Expr} {pos pos' tpos : Pos} {td ty tv : TE} {K : PySem.W.Frag} {w : World} {n : Nat}
end
section
variable {X : Cx} {pos : Pos} {n : Nat}
end
theorem XR.get {xs : List (NK × Addr × V)} {ys : List (NK × Addr × Value)} (h : Paired XR xs ys) {i : Nat} {y : NK × Addr × Value} (e : ys[i]? = some y) : ∃ v, xs[i]? = some (y.1, y.2.1, v) := by
  induction h generalizing i with
  | nil => simp at e
  | @cons x y' xs ys r t ih =>
    have r : XR x y' := r
    cases i with
    | zero =>
      simp only [List.getElem?_cons_zero, Option.some.injEq] at e
      subst e
      exact ⟨x.2.2, by rw [← r.1, ← r.2.1]; rfl⟩
    | succ j =>
      simp only [List.getElem?_cons_succ] at e ⊢
      exact ih e
end Kn
set_option Elab.async false
set_option maxRecDepth 100000
set_option linter.all false
namespace Kn
open PySem L2
def repS (x : Str) (n : Nat) : Str := ⟨((List.replicate n x.cps.toList).flatten).toArray⟩
theorem foldl_app (l : List (Array Nat)) : ∀ a : Array Nat, (l.foldl (· ++ ·) a).toList = a.toList ++ (l.map Array.toList).flatten := by
  induction l with
  | nil => intro a; simp
  | cons b l ih => intro a; rw [List.foldl_cons, ih]; simp
theorem repS_fold (x : Str) (n : Nat) : (⟨(List.replicate n x.cps).foldl (· ++ ·) #[]⟩ : Str) = repS x n := by
  unfold repS
  congr 1
  apply Array.ext'
  rw [foldl_app, List.map_replicate]
  simp
def rMulS : V → V → Hp → VK → Prop := fun x y H Q => ∃ (z : Str) (n : Nat), x = .str z ∧ y = .int (n : Int) ∧ z.length ≤ 1000 ∧ n ≤ 1000 ∧ Q (.str (repS z n)) H
theorem op_mul_str {X : Cx} : OpR X (binaryOp .Mult) rMulS := by
  intro pins s σ H x y v u Q I rx ry h
  obtain ⟨z, n, rfl, rfl, h1, h2, q⟩ := h
  obtain ⟨t, rfl⟩ := rx
  obtain ⟨t', rfl⟩ := ry
  have hz : z.length * n ≤ 1000 * 1000 := Nat.mul_le_mul h1 h2
  refine PySem.P.mul_str ?_ ?_ ?_ ?_
  · rw [decide_eq_false (by omega), decide_eq_false (by omega)]; rfl
  · intro c _
    have c : 1 ≤ n := by omega
    have : (1 : Int) ≤ n := by omega
    have h3 : (1000 : Int) ≤ (2 ^ 63 - 1) / n := by
      rw [Int.le_ediv_iff_mul_le (by omega)]
      omega
    omega
  · intro _ _
    show decide (z.length * ((n : Int)).toNat > sizeLine) = false
    rw [Int.toNat_natCast, decide_eq_false]
    have : (1000000 : Nat) ≤ sizeLine := by decide
    omega
  · have fin : ∀ t, EP X pins σ Q (.str (repS z n) t) { s with toks := s.toks + 1 } := fun t => ⟨.str (repS z n), H, I.tok _, ⟨_, rfl⟩, q⟩
    by_cases c : (n : Int) < 1
    · have e : n = 0 := by omega
      subst e
      rw [if_pos c]
      exact ⟨by decide, fin _⟩
    · rw [if_neg c]
      by_cases c2 : ((n : Int) == 1 || z.length == 0) = true
      · rw [if_pos c2]
        have e : repS z n = z := by
          rw [Bool.or_eq_true] at c2
          rcases c2 with c2 | c2
          · have e : n = 1 := by have := beq_iff_eq.mp c2; omega
            subst e
            unfold repS
            simp
          · have e : z.length = 0 := beq_iff_eq.mp c2
            obtain ⟨arr⟩ := z
            have e : arr.size = 0 := e
            have e : arr = #[] := Array.size_eq_zero_iff.mp e
            subst e
            unfold repS
            simp
        rw [e] at q
        exact ⟨.str z, H, I, ⟨_, rfl⟩, q⟩
      · rw [if_neg c2, Int.toNat_natCast, repS_fold]
        have sz : (repS z n).length = n * z.length := by
          show ((List.replicate n z.cps.toList).flatten).toArray.size = _
          rw [List.size_toArray, List.length_flatten, List.map_replicate, List.sum_replicate_nat]
          rfl
        refine ⟨?_, fin _⟩
        rw [sz, Nat.mul_comm]
        have : (1000000 : Nat) ≤ sizeLine := by decide
        omega
end Kn
set_option Elab.async false
set_option maxRecDepth 100000
set_option linter.all false
namespace Kn
open PySem L2
inductive D where
  | non | bl (b : Bool) | int (i : Int) | str (x : Str) | ty (n : String)
  | tup (ds : List D) | lst (ds : List D) | dct (ks : List (Key × D)) | obj (C : Addr) (fs : List (Str × D))
  | ref (a : Addr) | tape | scr | exc (a C : Addr) (d : Option Addr) (fs : List (Str × D))
mutual
inductive Dv (K : PySem.W.Frag) (Tp : Addr → Prop) (H : Hp) : V → D → Prop
  | non : Dv K Tp H .non .non
  | bl (b : Bool) : Dv K Tp H (.bl b) (.bl b)
  | int (i : Int) : Dv K Tp H (.int i) (.int i)
  | str (x : Str) : Dv K Tp H (.str x) (.str x)
  | ty (n : String) : Dv K Tp H (.ty n) (.ty n)
  | tup {a : Addr} {xs : List V} {ds : List D} (h : SqT K H a xs) (t : DvL K Tp H xs ds) : Dv K Tp H (.ref a) (.tup ds)
  | lst {a : Addr} {xs : List V} {ds : List D} (h : H a = some (.lst xs)) (t : DvL K Tp H xs ds) : Dv K Tp H (.ref a) (.lst ds)
  | dct {a : Addr} {xs : List (Key × V)} {ks : List (Key × D)} (h : Rd H a (.dK xs)) (t : DvK K Tp H xs ks) : Dv K Tp H (.ref a) (.dct ks)
  | obj {a C dx : Addr} {xs : List (Str × V)} {fs : List (Str × D)} (h : H a = some (.ins C dx xs)) (t : DvF K Tp H xs fs) : Dv K Tp H (.ref a) (.obj C fs)
  | ref (a : Addr) : Dv K Tp H (.ref a) (.ref a)
  | tape {t : Addr} (h : Tp t) : Dv K Tp H (.ref t) .tape
  | scr {a : Addr} {ns : List Int} (h : SqL K H a (ns.map V.int)) (hl : ns.length ≤ 63) : Dv K Tp H (.ref a) .scr
  | exc0 (a C : Addr) : Dv K Tp H (.ref a) (.exc a C none [])
  | exc1 {a C b : Addr} {vs : List (Str × V)} {fs : List (Str × D)} (h : H b = some (.xd vs)) (t : DvF K Tp H vs fs) : Dv K Tp H (.ref a) (.exc a C (some b) fs)
inductive DvL (K : PySem.W.Frag) (Tp : Addr → Prop) (H : Hp) : List V → List D → Prop
  | nil : DvL K Tp H [] []
  | cons {v : V} {d : D} {vs : List V} {ds : List D} (h : Dv K Tp H v d) (t : DvL K Tp H vs ds) : DvL K Tp H (v :: vs) (d :: ds)
inductive DvK (K : PySem.W.Frag) (Tp : Addr → Prop) (H : Hp) : List (Key × V) → List (Key × D) → Prop
  | nil : DvK K Tp H [] []
  | cons {k : Key} {v : V} {d : D} {vs : List (Key × V)} {ds : List (Key × D)} (h : Dv K Tp H v d) (t : DvK K Tp H vs ds) : DvK K Tp H ((k, v) :: vs) ((k, d) :: ds)
inductive DvF (K : PySem.W.Frag) (Tp : Addr → Prop) (H : Hp) : List (Str × V) → List (Str × D) → Prop
  | nil : DvF K Tp H [] []
  | cons {k : Str} {v : V} {d : D} {vs : List (Str × V)} {ds : List (Str × D)} (h : Dv K Tp H v d) (t : DvF K Tp H vs ds) : DvF K Tp H ((k, v) :: vs) ((k, d) :: ds)
end
def Lq (H H' : Hp) : Prop := ∀ b o, H b = some o → H' b = some o ∨ ∃ kvs, (o = .dK kvs ∨ ∃ od, o = .frz od (.dK kvs)) ∧ Rd H' b (.dK kvs)
theorem Same.lq {H H' : Hp} (e : Same H H') : Lq H H' := fun b o h => .inl (e b o h)
theorem Lq.refl (H : Hp) : Lq H H := fun b o h => .inl h
theorem Lq.tup {H H' : Hp} (e : Lq H H') {a : Addr} {xs : List V} (h : Rd H a (.tup xs)) : Rd H' a (.tup xs) := by
  rcases h with h | ⟨o, h⟩
  · rcases e _ _ h with h | ⟨k, h | ⟨_, h⟩, _⟩
    · exact .inl h
    · cases h
    · cases h
  · rcases e _ _ h with h | ⟨k, h | ⟨_, h⟩, _⟩
    · exact .inr ⟨o, h⟩
    · cases h
    · cases h
theorem Lq.dct {H H' : Hp} (e : Lq H H') {a : Addr} {xs : List (Key × V)} (h : Rd H a (.dK xs)) : Rd H' a (.dK xs) := by
  rcases h with h | ⟨o, h⟩
  · rcases e _ _ h with h | ⟨k, h | ⟨_, h⟩, r⟩
    · exact .inl h
    · cases h; exact r
    · cases h
  · rcases e _ _ h with h | ⟨k, h | ⟨_, h⟩, r⟩
    · exact .inr ⟨o, h⟩
    · cases h
    · cases h; exact r
theorem Lq.lst {H H' : Hp} (e : Lq H H') {a : Addr} {xs : List V} (h : H a = some (.lst xs)) : H' a = some (.lst xs) := by
  rcases e _ _ h with h | ⟨k, h | ⟨_, h⟩, r⟩
  · exact h
  · cases h
  · cases h
theorem Lq.lstR {H H' : Hp} (e : Lq H H') {a : Addr} {xs : List V} (h : Rd H a (.lst xs)) : Rd H' a (.lst xs) := by
  rcases h with h | ⟨o, h⟩
  · rcases e _ _ h with h | ⟨k, h | ⟨_, h⟩, _⟩
    · exact .inl h
    · cases h
    · cases h
  · rcases e _ _ h with h | ⟨k, h | ⟨_, h⟩, _⟩
    · exact .inr ⟨o, h⟩
    · cases h
    · cases h
theorem Lq.ins {H H' : Hp} (e : Lq H H') {a C dx : Addr} {xs : List (Str × V)} (h : H a = some (.ins C dx xs)) : H' a = some (.ins C dx xs) := by
  rcases e _ _ h with h | ⟨k, h | ⟨_, h⟩, r⟩
  · exact h
  · cases h
  · cases h
theorem Lq.xd {H H' : Hp} (e : Lq H H') {a : Addr} {xs : List (Str × V)} (h : H a = some (.xd xs)) : H' a = some (.xd xs) := by
  rcases e _ _ h with h | ⟨k, h | ⟨_, h⟩, r⟩
  · exact h
  · cases h
  · cases h
section
variable {K : PySem.W.Frag} {Tp Tp' : Addr → Prop} {H H' : Hp}
mutual
theorem Dv.le (e : Lq H H') (et : ∀ t, Tp t → Tp' t) : ∀ {v : V} {d : D}, Dv K Tp H v d → Dv K Tp' H' v d
  | _, _, .non => .non
  | _, _, .bl b => .bl b
  | _, _, .int i => .int i
  | _, _, .str x => .str x
  | _, _, .ty n => .ty n
  | _, _, .tup h t => .tup (match h with | .inl h => .inl (e.tup h) | .inr h => .inr h) (DvL.le e et t)
  | _, _, .lst h t => .lst (e.lst h) (DvL.le e et t)
  | _, _, .dct h t => .dct (e.dct h) (DvK.le e et t)
  | _, _, .obj h t => .obj (e.ins h) (DvF.le e et t)
  | _, _, .ref a => .ref a
  | _, _, .tape h => .tape (et _ h)
  | _, _, .scr h hl => .scr (match h with | .inl h => .inl (e.lstR h) | .inr h => .inr h) hl
  | _, _, .exc0 a C => .exc0 a C
  | _, _, .exc1 h t => .exc1 (e.xd h) (DvF.le e et t)
theorem DvL.le (e : Lq H H') (et : ∀ t, Tp t → Tp' t) : ∀ {v : List V} {d : List D}, DvL K Tp H v d → DvL K Tp' H' v d
  | _, _, .nil => .nil
  | _, _, .cons h t => .cons (Dv.le e et h) (DvL.le e et t)
theorem DvK.le (e : Lq H H') (et : ∀ t, Tp t → Tp' t) : ∀ {v : List (Key × V)} {d : List (Key × D)}, DvK K Tp H v d → DvK K Tp' H' v d
  | _, _, .nil => .nil
  | _, _, .cons h t => .cons (Dv.le e et h) (DvK.le e et t)
theorem DvF.le (e : Lq H H') (et : ∀ t, Tp t → Tp' t) : ∀ {v : List (Str × V)} {d : List (Str × D)}, DvF K Tp H v d → DvF K Tp' H' v d
  | _, _, .nil => .nil
  | _, _, .cons h t => .cons (Dv.le e et h) (DvF.le e et t)
end
theorem DvL.len : ∀ {vs : List V} {ds : List D}, DvL K Tp H vs ds → vs.length = ds.length
  | _, _, .nil => rfl
  | _, _, .cons _ t => by simp [DvL.len t]
theorem DvK.len : ∀ {vs : List (Key × V)} {ds : List (Key × D)}, DvK K Tp H vs ds → vs.length = ds.length
  | _, _, .nil => rfl
  | _, _, .cons _ t => by simp [DvK.len t]
theorem DvF.len : ∀ {vs : List (Str × V)} {ds : List (Str × D)}, DvF K Tp H vs ds → vs.length = ds.length
  | _, _, .nil => rfl
  | _, _, .cons _ t => by simp [DvF.len t]
theorem DvL.get : ∀ {vs : List V} {ds : List D} {i : Nat} {d : D}, DvL K Tp H vs ds → ds[i]? = some d → ∃ v, vs[i]? = some v ∧ Dv K Tp H v d
  | _, _, _, _, .nil, e => by simp at e
  | _, _, 0, _, .cons h _, e => by simp at e; subst e; exact ⟨_, rfl, h⟩
  | _, _, i + 1, d, .cons _ a, e => by
    obtain ⟨v, h1, h2⟩ := DvL.get (i := i) (d := d) a (by simpa using e)
    exact ⟨v, by simpa using h1, h2⟩
theorem DvL.app : ∀ {vs ws : List V} {ds es : List D}, DvL K Tp H vs ds → DvL K Tp H ws es → DvL K Tp H (vs ++ ws) (ds ++ es)
  | _, _, _, _, .nil, h => h
  | _, _, _, _, .cons g a, h => .cons g (DvL.app a h)
theorem DvL.take : ∀ (n : Nat) {vs : List V} {ds : List D}, DvL K Tp H vs ds → DvL K Tp H (vs.take n) (ds.take n)
  | 0, _, _, _ => by simp; exact .nil
  | _ + 1, _, _, .nil => .nil
  | n + 1, _, _, .cons h a => .cons h (DvL.take n a)
theorem DvL.drop : ∀ (n : Nat) {vs : List V} {ds : List D}, DvL K Tp H vs ds → DvL K Tp H (vs.drop n) (ds.drop n)
  | 0, _, _, a => a
  | _ + 1, _, _, .nil => .nil
  | n + 1, _, _, .cons _ a => DvL.drop n a
theorem DvL.ints_inv : ∀ {ns : List Int} {vs : List V}, DvL K Tp H vs (ns.map D.int) → vs = ns.map V.int
  | [], _, .nil => rfl
  | n :: ns, _, .cons (.int _) a => by rw [DvL.ints_inv a]; rfl
theorem DvL.ints : ∀ (ns : List Int), DvL K Tp H (ns.map V.int) (ns.map D.int)
  | [] => .nil
  | n :: ns => .cons (.int n) (DvL.ints ns)
theorem DvL.bls_inv : ∀ {ns : List Bool} {vs : List V}, DvL K Tp H vs (ns.map D.bl) → vs = ns.map V.bl
  | [], _, .nil => rfl
  | n :: ns, _, .cons (.bl _) a => by rw [DvL.bls_inv a]; rfl
def look {κ : Type} [DecidableEq κ] : List (κ × D) → κ → Option D
  | [], _ => none
  | p :: l, k => if p.1 = k then some p.2 else look l k
theorem DvK.look_some : ∀ {vs : List (Key × V)} {ds : List (Key × D)} {k : Key} {d : D}, DvK K Tp H vs ds → look ds k = some d → ∃ v, valV vs k = some v ∧ Dv K Tp H v d
  | _, _, _, _, .nil, e => by simp [look] at e
  | (k', v) :: vs, _, k, d, .cons h a, e => by
    by_cases c : k' = k
    · rw [look, if_pos c] at e; cases e
      exact ⟨v, valV_pos (p := (k', v)) c, h⟩
    · rw [look, if_neg c] at e
      obtain ⟨w, h1, h2⟩ := DvK.look_some a e
      exact ⟨w, by rw [valV_neg (p := (k', v)) c]; exact h1, h2⟩
theorem DvK.look_none : ∀ {vs : List (Key × V)} {ds : List (Key × D)} {k : Key}, DvK K Tp H vs ds → look ds k = none → valV vs k = none
  | _, _, _, .nil, e => rfl
  | (k', v) :: vs, _, k, .cons h a, e => by
    by_cases c : k' = k
    · rw [look, if_pos c] at e; cases e
    · rw [look, if_neg c] at e
      rw [valV_neg (p := (k', v)) c]; exact DvK.look_none a e
def put (ks : List (Key × D)) (k : Key) (x : D) : List (Key × D) := if (ks.any fun p => decide (p.1 = k)) = true then ks.map fun p => if p.1 = k then (p.1, x) else p else ks ++ [(k, x)]
theorem DvK.any : ∀ {vs : List (Key × V)} {ds : List (Key × D)} (k : Key), DvK K Tp H vs ds → (vs.any fun p => decide (p.1 = k)) = ds.any fun p => decide (p.1 = k)
  | _, _, _, .nil => rfl
  | _, _, k, .cons _ a => by rw [List.any_cons, List.any_cons, DvK.any k a]
theorem DvK.mapPut : ∀ {vs : List (Key × V)} {ds : List (Key × D)} {k : Key} {v : V} {d : D}, DvK K Tp H vs ds → Dv K Tp H v d → DvK K Tp H (vs.map fun p => if p.1 = k then (p.1, v) else p) (ds.map fun p => if p.1 = k then (p.1, d) else p)
  | _, _, _, _, _, .nil, _ => .nil
  | (k', v') :: vs, (_, d') :: ds, k, v, d, .cons h a, g => by
    rw [List.map_cons, List.map_cons]
    by_cases c : k' = k
    · rw [if_pos c, if_pos c]; exact .cons g (DvK.mapPut a g)
    · rw [if_neg c, if_neg c]; exact .cons h (DvK.mapPut a g)
theorem DvK.snoc : ∀ {vs : List (Key × V)} {ds : List (Key × D)} {k : Key} {v : V} {d : D}, DvK K Tp H vs ds → Dv K Tp H v d → DvK K Tp H (vs ++ [(k, v)]) (ds ++ [(k, d)])
  | _, _, _, _, _, .nil, g => .cons g .nil
  | _, _, _, _, _, .cons h a, g => .cons h (DvK.snoc a g)
theorem DvK.put {vs : List (Key × V)} {ds : List (Key × D)} {k : Key} {v : V} {d : D} (a : DvK K Tp H vs ds) (g : Dv K Tp H v d) : DvK K Tp H (putK vs k v) (put ds k d) := by
  unfold putK Kn.put
  rw [a.any k]
  split
  · exact a.mapPut g
  · exact a.snoc g
def putFd (f : Str) (x : D) : List (Str × D) → List (Str × D)
  | [] => [(f, x)]
  | p :: r => if p.1 = f then (p.1, x) :: r else p :: putFd f x r
theorem DvF.put {f : Str} {v : V} {d : D} (g : Dv K Tp H v d) : ∀ {vs : List (Str × V)} {ds : List (Str × D)}, DvF K Tp H vs ds → DvF K Tp H (putF f v vs) (putFd f d ds)
  | _, _, .nil => .cons g .nil
  | (k, x) :: vs, _, .cons (d := y) (ds := es) h a => by
    show DvF K Tp H (if k = f then (k, v) :: vs else (k, x) :: putF f v vs) (if k = f then (k, d) :: es else (k, y) :: putFd f d es)
    by_cases c : k = f
    · rw [if_pos c, if_pos c]; exact .cons g a
    · rw [if_neg c, if_neg c]; exact .cons h (DvF.put g a)
theorem valV_look : ∀ {vs : List (Key × V)} {ds : List (Key × D)} {k : Key}, DvK K Tp H vs ds → (valV vs k).isSome = (look ds k).isSome
  | vs, ds, k, h => by
    cases e : look ds k with
    | none => rw [DvK.look_none h e]; rfl
    | some d => obtain ⟨v, h1, _⟩ := DvK.look_some h e; rw [h1]; rfl
theorem DvF.look_some : ∀ {vs : List (Str × V)} {ds : List (Str × D)} {k : Str} {d : D}, DvF K Tp H vs ds → look ds k = some d → ∃ v, vs.lookup k = some v ∧ Dv K Tp H v d
  | _, _, _, _, .nil, e => by simp [look] at e
  | (k', v) :: vs, _, k, d, .cons h a, e => by
    by_cases c : k' = k
    · rw [look, if_pos c] at e; cases e
      subst c
      exact ⟨v, by rw [List.lookup_cons_self], h⟩
    · rw [look, if_neg c] at e
      obtain ⟨w, h1, h2⟩ := DvF.look_some a e
      refine ⟨w, ?_, h2⟩
      rw [List.lookup_cons, beq_eq_false_iff_ne.mpr (fun z => c z.symm)]; exact h1
theorem DvF.look_none : ∀ {vs : List (Str × V)} {ds : List (Str × D)} {k : Str}, DvF K Tp H vs ds → look ds k = none → vs.lookup k = none
  | _, _, _, .nil, e => rfl
  | (k', v) :: vs, _, k, .cons h a, e => by
    by_cases c : k' = k
    · rw [look, if_pos c] at e; cases e
    · rw [look, if_neg c] at e
      rw [List.lookup_cons, beq_eq_false_iff_ne.mpr (fun z => c z.symm)]; exact DvF.look_none a e
end
end Kn
set_option Elab.async false
set_option maxRecDepth 100000
set_option linter.all false
set_option autoImplicit false
namespace Kn
open PySem L2
open Classical in
noncomputable def Hd (U : Addr → Prop) (H : Hp) : Hp := fun b => if U b then none else H b
theorem Hd.get {U : Addr → Prop} {H : Hp} {b : Addr} {o : HO} (h : H b = some o) (n : ¬ U b) : Hd U H b = some o := by unfold Hd; rw [if_neg n]; exact h
theorem Hd.of {U : Addr → Prop} {H : Hp} {b : Addr} {o : HO} (h : Hd U H b = some o) : H b = some o ∧ ¬ U b := by
  unfold Hd at h
  by_cases c : U b
  · rw [if_pos c] at h; cases h
  · rw [if_neg c] at h; exact ⟨h, c⟩
theorem Hd.sub {U : Addr → Prop} {H : Hp} : Same (Hd U H) H := fun b o h => (Hd.of h).1
mutual
def kD : NK → D
  | .none => .non
  | .num i => .int i
  | .text x => .str x
  | .tup ks => .tup (kDs ks)
def kDs : List NK → List D
  | [] => []
  | k :: ks => kD k :: kDs ks
end
inductive DvN (K : PySem.W.Frag) (Tp : Addr → Prop) (H : Hp) : List (NK × Addr × V) → List (NK × D) → Prop
  | nil : DvN K Tp H [] []
  | cons {k : NK} {q : Addr} {v : V} {d : D} {xs : List (NK × Addr × V)} {ks : List (NK × D)} (hk : Dv K Tp H (.ref q) (kD k)) (hd : k.depth ≤ 8) (h : Dv K Tp H v d) (t : DvN K Tp H xs ks) : DvN K Tp H ((k, q, v) :: xs) ((k, d) :: ks)
theorem DvN.le {K : PySem.W.Frag} {Tp Tp' : Addr → Prop} {H H' : Hp} (e : Lq H H') (et : ∀ t, Tp t → Tp' t) : ∀ {xs : List (NK × Addr × V)} {ks : List (NK × D)}, DvN K Tp H xs ks → DvN K Tp' H' xs ks
  | _, _, .nil => .nil
  | _, _, .cons hk hd h t => .cons (Dv.le e et hk) hd (Dv.le e et h) (DvN.le e et t)
inductive Cell where
  | ins (C : Addr) (fs : List (Str × D)) | lst (ds : List D) | dct (ks : List (Key × D)) | lk (od : Obj) (vs : List (Key × V)) (ks : List (Key × D))
  | dtn (w : World) (o : Obj) (ks : List (NK × D))
structure Wd where
  Tp : Addr → Prop
  ω : Addr → Option Cell
def Cell.isMut : Cell → Prop
  | .lk _ _ _ => False
  | _ => True
def Wd.mt (W : Wd) (b : Addr) : Prop := W.Tp b ∨ ∃ c, W.ω b = some c ∧ c.isMut
def CellOk (K : PySem.W.Frag) (Tp U : Addr → Prop) (H : Hp) (a : Addr) : Cell → Prop
  | .ins C fs => ∃ dx vs, H a = some (.ins C dx vs) ∧ DvF K Tp (Hd U H) vs fs
  | .lst ds => ∃ vs, H a = some (.lst vs) ∧ DvL K Tp (Hd U H) vs ds
  | .dct ks => ∃ vs, H a = some (.dK vs) ∧ DvK K Tp (Hd U H) vs ks
  | .lk od vs ks => H a = some (.frz od (.dK vs)) ∧ DvK K Tp (Hd U H) vs ks
  | .dtn w o ks => ∃ xs, H a = some (ndO w a o xs) ∧ DvN K Tp (Hd U H) xs ks
structure Rw (K : PySem.W.Frag) (U : Addr → Prop) (W : Wd) (H : Hp) : Prop where
  dom : ∀ b, U b → H b ≠ none
  tape : ∀ t, W.Tp t → U t ∧ Tape H t ∧ W.ω t = none
  cell : ∀ a c, W.ω a = some c → U a ∧ CellOk K W.Tp U H a c
structure Ent where
  U : Addr → Prop
  W : Wd
  H : Hp
def Kp (U : Addr → Prop) (b : Addr) (o : HO) (x : Option HO) : Prop := x = some o ∨ (¬ U b ∧ ∃ kvs od, o = .dK kvs ∧ x = some (.frz od (.dK kvs)))
theorem Kp.hid {U : Addr → Prop} {b : Addr} {o : HO} {x : Option HO} (h : Kp U b o x) (u : U b) : x = some o := h.resolve_right fun z => z.1 u
theorem Kp.frz {U : Addr → Prop} {b : Addr} {od : Obj} {w : HO} {x : Option HO} (h : Kp U b (.frz od w) x) : x = some (.frz od w) := h.resolve_right fun ⟨_, _, _, z, _⟩ => by cases z
structure Fr (e : Ent) (U : Addr → Prop) (W : Wd) (H : Hp) : Prop where
  keep : ∀ b o, e.H b = some o → ¬ e.W.mt b → Kp e.U b o (H b)
  up : ∀ b, e.U b → U b
  new : ∀ b, U b → e.U b ∨ e.H b = none
  wnew : ∀ b, W.Tp b ∨ (∃ c, W.ω b = some c) → (e.W.Tp b ∨ ∃ c, e.W.ω b = some c) ∨ e.H b = none
  tp : ∀ b, e.W.Tp b → W.Tp b
  there : ∀ b, e.H b ≠ none → H b ≠ none
  lk : ∀ b c, e.W.ω b = some c → ¬ c.isMut → W.ω b = some c
theorem Wd.mt_w {W : Wd} {b : Addr} (h : W.mt b) : W.Tp b ∨ ∃ c, W.ω b = some c := by
  rcases h with h | ⟨c, h, _⟩
  · exact .inl h
  · exact .inr ⟨c, h⟩
theorem Rw.hid {K : PySem.W.Frag} {U : Addr → Prop} {W : Wd} {H : Hp} (r : Rw K U W H) {b : Addr} (h : W.Tp b ∨ ∃ c, W.ω b = some c) : U b := by
  rcases h with h | ⟨c, h⟩
  · exact (r.tape b h).1
  · exact (r.cell b c h).1
theorem Fr.refl (U : Addr → Prop) (W : Wd) (H : Hp) : Fr ⟨U, W, H⟩ U W H := ⟨fun _ _ h _ => .inl h, fun _ h => h, fun _ h => .inl h, fun _ h => .inl h, fun _ h => h, fun _ h => h, fun _ _ h _ => h⟩
theorem Fr.lq {K : PySem.W.Frag} {U U' : Addr → Prop} {W W' : Wd} {H H' : Hp} (r : Rw K U W H) (f : Fr ⟨U, W, H⟩ U' W' H') : Lq (Hd U H) (Hd U' H') := fun b o h => by
  obtain ⟨h, n⟩ := Hd.of h
  have nu : ¬ U' b := fun u => by
    rcases f.new b u with z | z
    · exact n z
    · have z : H b = none := z
      rw [h] at z; cases z
  rcases f.keep b o h fun m => n (r.hid (Wd.mt_w m)) with q | ⟨_, kvs, od, rfl, q⟩
  · exact .inl (Hd.get q nu)
  · exact .inr ⟨kvs, .inl rfl, .inr ⟨od, Hd.get q nu⟩⟩
theorem Fr.trans {K : PySem.W.Frag} {e : Ent} {U U' : Addr → Prop} {W W' : Wd} {H H' : Hp} (f : Fr e U W H) (g : Fr ⟨U, W, H⟩ U' W' H') (r : Rw K U W H) : Fr e U' W' H' where
  keep := fun b o h n => by
    have nm : ¬ W.mt b := fun m => by
      rcases f.wnew b (Wd.mt_w m) with z | z
      · rcases z with z | ⟨c, z⟩
        · exact n (.inl z)
        · by_cases q : c.isMut
          · exact n (.inr ⟨c, z, q⟩)
          · have := f.lk b c z q
            rcases m with m | ⟨c', m, q'⟩
            · rw [(r.tape b m).2.2] at this; cases this
            · rw [this] at m; cases m; exact q q'
      · rw [h] at z; cases z
    rcases f.keep b o h n with q | ⟨nu, kvs, od, rfl, q⟩
    · rcases g.keep b o q nm with z | ⟨nu, z⟩
      · exact .inl z
      · exact .inr ⟨fun u => nu (f.up b u), z⟩
    · exact .inr ⟨nu, kvs, od, rfl, (g.keep b _ q nm).frz⟩
  up := fun b h => g.up b (f.up b h)
  new := fun b h => by
    rcases g.new b h with z | z
    · exact f.new b z
    · refine .inr ?_
      cases e1 : e.H b with
      | none => rfl
      | some o => exact absurd z (f.there b (by rw [e1]; intro q; cases q))
  wnew := fun b h => by
    rcases g.wnew b h with z | z
    · exact f.wnew b z
    · refine .inr ?_
      cases e1 : e.H b with
      | none => rfl
      | some o => exact absurd z (f.there b (by rw [e1]; intro q; cases q))
  tp := fun b h => g.tp b (f.tp b h)
  there := fun b h => g.there b (f.there b h)
  lk := fun b c h n => g.lk b c (f.lk b c h n) n
inductive PC where
  | val (d : D) | ownL (ds : List D) | ownD (ks : List (Key × D))
structure PSt where
  ρ : List (Option PC)
  W : Wd
inductive Rv where
  | d (d : D) | own (j : Nat)
inductive Tm where
  | v (v : V) (r : Rv) | pin (b : Addr) (o : Obj) (w : HO) | nw (l : Addr) (ds : List D)
structure Ow (e : Ent) (U : Addr → Prop) (W : Wd) (l : Addr) : Prop where
  u : U l
  e0 : e.H l = none
  tp : ¬ W.Tp l
  w : W.ω l = none
def SlotOk (K : PySem.W.Frag) (e : Ent) (U : Addr → Prop) (W : Wd) (H : Hp) (v : V) : PC → Prop
  | .val d => Dv K W.Tp (Hd U H) v d
  | .ownL ds => ∃ l vs, v = .ref l ∧ Ow e U W l ∧ H l = some (.lst vs) ∧ DvL K W.Tp (Hd U H) vs ds
  | .ownD ks => ∃ l vs, v = .ref l ∧ Ow e U W l ∧ H l = some (.dK vs) ∧ DvK K W.Tp (Hd U H) vs ks
def PC.isOwn : PC → Prop
  | .val _ => False
  | _ => True
def NoSlot (σ : St) (S : PSt) (l : Addr) : Prop := ∀ (i : Nat) (c : PC), S.ρ[i]? = some (some c) → c.isOwn → σ[i]? ≠ some (some (.ref l))
def NoTm (T : List Tm) (l : Addr) : Prop := ∀ ds, Tm.nw l ds ∉ T
def TmOk (K : PySem.W.Frag) (e : Ent) (U : Addr → Prop) (S : PSt) (H : Hp) (σ : St) : Tm → Prop
  | .v v (.d d) => Dv K S.W.Tp (Hd U H) v d
  | .v v (.own j) => σ[j]? = some (some v)
  | .pin b o w => ¬ U b ∧ H b = some (.frz o w)
  | .nw l ds => Ow e U S.W l ∧ NoSlot σ S l ∧ ∃ vs, H l = some (.lst vs) ∧ DvL K S.W.Tp (Hd U H) vs ds
structure RU (K : PySem.W.Frag) (e : Ent) (σ : St) (H : Hp) (S : PSt) (T : List Tm) (U : Addr → Prop) : Prop where
  wo : Rw K U S.W H
  fr : Fr e U S.W H
  ed : ∀ b, e.U b → e.H b ≠ none
  len : σ.length = S.ρ.length
  slot : ∀ (i : Nat) (c : PC), S.ρ[i]? = some (some c) → ∃ v, σ[i]? = some (some v) ∧ SlotOk K e U S.W H v c
  sep : ∀ (i j : Nat) (c c' : PC) (l : Addr), i ≠ j → S.ρ[i]? = some (some c) → c.isOwn → S.ρ[j]? = some (some c') → c'.isOwn → σ[i]? = some (some (.ref l)) → σ[j]? = some (some (.ref l)) → False
  tmp : ∀ p ∈ T, TmOk K e U S H σ p
def R (K : PySem.W.Frag) (e : Ent) (σ : St) (H : Hp) (S : PSt) (T : List Tm) : Prop := ∃ U, RU K e σ H S T U
section
variable {K : PySem.W.Frag} {e : Ent} {σ : St} {H H' : Hp} {S : PSt} {T : List Tm} {U U' : Addr → Prop} {W' : Wd}
theorem Ow.to (g : Fr ⟨U, S.W, H⟩ U' W' H') {l : Addr} {u : HO} (o : Ow e U S.W l) (h2 : H l = some u) : Ow e U' W' l ∧ H' l = some u := by
  have nm : ¬ S.W.mt l := fun m => by
    rcases m with m | ⟨c, m, _⟩
    · exact o.tp m
    · rw [o.w] at m; cases m
  have nw : ¬ (W'.Tp l ∨ ∃ c, W'.ω l = some c) := fun m => by
    rcases g.wnew l m with z | z
    · rcases z with z | ⟨c, z⟩
      · exact o.tp z
      · have z : S.W.ω l = some c := z
        rw [o.w] at z; cases z
    · have z : H l = none := z
      rw [h2] at z; cases z
  refine ⟨⟨g.up l o.u, o.e0, fun z => nw (.inl z), ?_⟩, (g.keep l _ h2 nm).hid o.u⟩
  cases q : W'.ω l with
  | none => rfl
  | some c => exact (nw (.inr ⟨c, q⟩)).elim
theorem SlotOk.to (r : Rw K U S.W H) (g : Fr ⟨U, S.W, H⟩ U' W' H') {v : V} : ∀ {c : PC}, SlotOk K e U S.W H v c → SlotOk K e U' W' H' v c
  | .val d, h => Dv.le (g.lq r) g.tp h
  | .ownL ds, ⟨l, vs, h1, o, h2, h3⟩ => let ⟨a, b⟩ := Ow.to g o h2; ⟨l, vs, h1, a, b, DvL.le (g.lq r) g.tp h3⟩
  | .ownD ks, ⟨l, vs, h1, o, h2, h3⟩ => let ⟨a, b⟩ := Ow.to g o h2; ⟨l, vs, h1, a, b, DvK.le (g.lq r) g.tp h3⟩
theorem TmOk.to (r : Rw K U S.W H) (g : Fr ⟨U, S.W, H⟩ U' W' H') : ∀ {p : Tm}, TmOk K e U S H σ p → TmOk K e U' ⟨S.ρ, W'⟩ H' σ p
  | .v v (.d d), h => Dv.le (g.lq r) g.tp h
  | .v v (.own j), h => h
  | .pin b o w, ⟨n, h⟩ => by
      refine ⟨fun u => ?_, (g.keep b _ h fun m => n (r.hid (Wd.mt_w m))).frz⟩
      rcases g.new b u with z | z
      · exact n z
      · have z : H b = none := z
        rw [h] at z; cases z
  | .nw l ds, ⟨o, ns, vs, h2, h3⟩ => let ⟨a, b⟩ := Ow.to g o h2; ⟨a, ns, vs, b, DvL.le (g.lq r) g.tp h3⟩
theorem RU.to (x : RU K e σ H S T U) (r' : Rw K U' W' H') (g : Fr ⟨U, S.W, H⟩ U' W' H') : RU K e σ H' ⟨S.ρ, W'⟩ T U' where
  wo := r'
  fr := x.fr.trans g x.wo
  ed := x.ed
  len := x.len
  slot := fun i c h => let ⟨v, h1, h2⟩ := x.slot i c h; ⟨v, h1, h2.to x.wo g⟩
  sep := x.sep
  tmp := fun p hp => (x.tmp p hp).to x.wo g
theorem RU.less {T' : List Tm} (x : RU K e σ H S T U) (h : ∀ p ∈ T', p ∈ T) : RU K e σ H S T' U := { x with tmp := fun p hp => x.tmp p (h p hp) }
theorem R.less {T' : List Tm} (x : R K e σ H S T) (h : ∀ p ∈ T', p ∈ T) : R K e σ H S T' := let ⟨U, x⟩ := x; ⟨U, x.less h⟩
theorem R.pop {p : Tm} (x : R K e σ H S (p :: T)) : R K e σ H S T := x.less fun _ h => List.mem_cons_of_mem _ h
theorem RU.push (x : RU K e σ H S T U) {p : Tm} (h : TmOk K e U S H σ p) : RU K e σ H S (p :: T) U := by
  refine { x with tmp := fun q hq => ?_ }
  rcases List.mem_cons.mp hq with rfl | hq
  · exact h
  · exact x.tmp q hq
theorem same_upd {U : Addr → Prop} {H : Hp} {p : Addr} {o : HO} (hp : H p = none) : Same (Hd U H) (Hd U (upd H p o)) := fun b u h => by
  obtain ⟨h, n⟩ := Hd.of h
  exact Hd.get (by rw [upd_ne (ne_of_none h hp)]; exact h) n
theorem CellOk.le {Tp Tp' : Addr → Prop} {a : Addr} (e1 : Lq (Hd U H) (Hd U' H')) (et : ∀ t, Tp t → Tp' t) (ha : ∀ o, H a = some o → H' a = some o) : ∀ {c : Cell}, CellOk K Tp U H a c → CellOk K Tp' U' H' a c
  | .ins C fs, ⟨dx, vs, h1, h2⟩ => ⟨dx, vs, ha _ h1, DvF.le e1 et h2⟩
  | .lst ds, ⟨vs, h1, h2⟩ => ⟨vs, ha _ h1, DvL.le e1 et h2⟩
  | .dct ks, ⟨vs, h1, h2⟩ => ⟨vs, ha _ h1, DvK.le e1 et h2⟩
  | .lk od vs ks, ⟨h1, h2⟩ => ⟨ha _ h1, DvK.le e1 et h2⟩
  | .dtn w o ks, ⟨xs, h1, h2⟩ => ⟨xs, ha _ h1, DvN.le e1 et h2⟩
theorem Tape.le {t : Addr} (ha : ∀ o, H t = some o → H' t = some o) (h : Tape H t) : Tape H' t := let ⟨ns, h⟩ := h; ⟨ns, ha _ h⟩
theorem Rw.alloc {W : Wd} {p : Addr} {o : HO} (r : Rw K U W H) (hp : H p = none) : Rw K U W (upd H p o) where
  dom := fun b u => by
    by_cases c : b = p
    · subst c; exact absurd hp (r.dom b u)
    · rw [upd_ne c]; exact r.dom b u
  tape := fun t h => let ⟨a, b, c⟩ := r.tape t h; ⟨a, b.le fun o q => by rw [upd_ne (ne_of_none q hp)]; exact q, c⟩
  cell := fun a c h => let ⟨u, q⟩ := r.cell a c h; ⟨u, q.le (Same.lq (same_upd hp)) (fun _ z => z) fun o q => by rw [upd_ne (ne_of_none q hp)]; exact q⟩
theorem Fr.alloc {W : Wd} {p : Addr} {o : HO} (hp : H p = none) : Fr ⟨U, W, H⟩ U W (upd H p o) where
  keep := fun b u h _ => by rw [upd_ne (ne_of_none h hp)]; exact .inl h
  up := fun _ h => h
  new := fun _ h => .inl h
  wnew := fun _ h => .inl h
  tp := fun _ h => h
  there := fun b h => by
    by_cases c : b = p
    · subst c; exact absurd hp h
    · rw [upd_ne c]; exact h
  lk := fun _ _ h _ => h
theorem RU.alloc (x : RU K e σ H S T U) {p : Addr} {o : HO} (hp : H p = none) : RU K e σ (upd H p o) S T U := x.to (x.wo.alloc hp) (Fr.alloc hp)
theorem RU.fresh (x : RU K e σ H S T U) {p : Addr} (hp : H p = none) : ¬ U p := fun u => x.wo.dom p u hp
theorem RU.free0 (x : RU K e σ H S T U) {p : Addr} (hp : H p = none) : e.H p = none := by
  cases q : e.H p with
  | none => rfl
  | some o => exact absurd hp (x.fr.there p (by rw [q]; intro z; cases z))
theorem RU.setVal (x : RU K e σ H S T U) {i : Nat} {v : V} {d : D} (h : Dv K S.W.Tp (Hd U H) v d) (ht : ∀ p ∈ T, ∀ w, p ≠ .v w (.own i)) : RU K e (σ.set i (some v)) H ⟨S.ρ.set i (some (.val d)), S.W⟩ T U where
  wo := x.wo
  fr := x.fr
  ed := x.ed
  len := by simp [x.len]
  slot := fun j c hj => by
    rw [List.getElem?_set] at hj ⊢
    by_cases q : i = j
    · subst q
      rw [if_pos rfl] at hj ⊢
      by_cases z : i < S.ρ.length
      · rw [if_pos z] at hj
        cases hj
        rw [if_pos (by rw [x.len]; exact z)]
        exact ⟨v, rfl, h⟩
      · rw [if_neg z] at hj; cases hj
    · rw [if_neg q] at hj ⊢
      exact x.slot j c hj
  sep := fun j k c c' l n hj oj hk ok sj sk => by
    rw [List.getElem?_set] at hj hk sj sk
    by_cases q : i = j
    · subst q
      rw [if_pos rfl] at hj
      split at hj
      · cases hj; exact oj
      · cases hj
    · by_cases q2 : i = k
      · subst q2
        rw [if_pos rfl] at hk
        split at hk
        · cases hk; exact ok
        · cases hk
      · rw [if_neg q] at hj sj
        rw [if_neg q2] at hk sk
        exact x.sep j k c c' l n hj oj hk ok sj sk
  tmp := fun p hp => by
    have := x.tmp p hp
    match p, this, ht p hp with
    | .v w (.d d), h, _ => exact h
    | .v w (.own j), h, n =>
      show (σ.set i (some v))[j]? = some (some w)
      have z : i ≠ j := fun z => n w (by rw [z])
      rw [List.getElem?_set, if_neg z]; exact h
    | .pin b o w, h, _ => exact h
    | .nw l ds, ⟨o, ns, h⟩, _ =>
      refine ⟨o, fun j c hj oc => ?_, h⟩
      have hj : (S.ρ.set i (some (.val d)))[j]? = some (some c) := hj
      show (σ.set i (some v))[j]? ≠ _
      rw [List.getElem?_set] at hj ⊢
      by_cases q : i = j
      · rw [if_pos q] at hj
        split at hj
        · cases hj; exact oc.elim
        · cases hj
      · rw [if_neg q] at hj ⊢
        exact ns j c hj oc
theorem Hd.lock {a : Addr} {od : Obj} {xs : List (Key × V)} (h : H a = some (.dK xs)) (n : ¬ U a) : Lq (Hd U H) (Hd U (upd H a (.frz od (.dK xs)))) := fun b o q => by
  obtain ⟨q, nb⟩ := Hd.of q
  by_cases c : b = a
  · subst c
    rw [h] at q; cases q
    exact .inr ⟨xs, .inl rfl, .inr ⟨od, Hd.get upd_same nb⟩⟩
  · exact .inl (Hd.get (by rw [upd_ne c]; exact q) nb)
theorem Rw.lock {W : Wd} {a : Addr} {od : Obj} {xs : List (Key × V)} (r : Rw K U W H) (h : H a = some (.dK xs)) (n : ¬ U a) : Rw K U W (upd H a (.frz od (.dK xs))) where
  dom := fun b u => by
    by_cases c : b = a
    · subst c; rw [upd_same]; intro z; cases z
    · rw [upd_ne c]; exact r.dom b u
  tape := fun t ht => let ⟨a1, b, c⟩ := r.tape t ht; ⟨a1, b.le fun o q => by rw [upd_ne (show t ≠ a from fun z => n (z ▸ a1))]; exact q, c⟩
  cell := fun b c hc => let ⟨u, q⟩ := r.cell b c hc; ⟨u, q.le (Hd.lock h n) (fun _ z => z) fun o q => by rw [upd_ne (show b ≠ a from fun z => n (z ▸ u))]; exact q⟩
theorem Fr.lock {W : Wd} {a : Addr} {od : Obj} {xs : List (Key × V)} (h : H a = some (.dK xs)) (n : ¬ U a) : Fr ⟨U, W, H⟩ U W (upd H a (.frz od (.dK xs))) where
  keep := fun b o q _ => by
    by_cases c : b = a
    · subst c
      have q : H b = some o := q
      rw [h] at q; cases q
      exact .inr ⟨n, xs, od, rfl, upd_same⟩
    · exact .inl (by rw [upd_ne c]; exact q)
  up := fun _ h => h
  new := fun _ h => .inl h
  wnew := fun _ h => .inl h
  tp := fun _ h => h
  there := fun b q => by
    by_cases c : b = a
    · subst c; rw [upd_same]; intro z; cases z
    · rw [upd_ne c]; exact q
  lk := fun _ _ h _ => h
theorem RU.lock (x : RU K e σ H S T U) {a : Addr} {od : Obj} {xs : List (Key × V)} (h : H a = some (.dK xs)) (n : ¬ U a) : RU K e σ (upd H a (.frz od (.dK xs))) S (.pin a od (.dK xs) :: T) U := (x.to (x.wo.lock h n) (Fr.lock h n)).push ⟨n, upd_same⟩
end
end Kn
set_option Elab.async false
set_option maxRecDepth 100000
set_option linter.all false
set_option autoImplicit false
namespace Kn
open PySem L2
section
variable {K : PySem.W.Frag} {e : Ent} {σ : St} {H H' : Hp} {S : PSt} {T : List Tm} {U U' : Addr → Prop} {W' : Wd}
theorem Hd.less {l : Addr} : Same (Hd U H) (Hd (fun b => U b ∧ b ≠ l) H) := fun b o h => by
  obtain ⟨h, n⟩ := Hd.of h
  exact Hd.get h fun z => n z.1
theorem Rw.less {W : Wd} {l : Addr} (r : Rw K U W H) (tp : ¬ W.Tp l) (w : W.ω l = none) : Rw K (fun b => U b ∧ b ≠ l) W H where
  dom := fun b u => r.dom b u.1
  tape := fun t h => let ⟨a, b, c⟩ := r.tape t h; ⟨⟨a, fun z => tp (z ▸ h)⟩, b, c⟩
  cell := fun a c h => let ⟨u, q⟩ := r.cell a c h; ⟨⟨u, fun z => by rw [z, w] at h; cases h⟩, q.le (Same.lq Hd.less) (fun _ z => z) fun o q => q⟩
theorem SlotOk.less {W : Wd} {l : Addr} {v : V} : ∀ {c : PC}, (c.isOwn → v ≠ .ref l) → SlotOk K e U W H v c → SlotOk K e (fun b => U b ∧ b ≠ l) W H v c
  | .val d, _, h => Dv.le (Same.lq Hd.less) (fun _ z => z) h
  | .ownL ds, n, ⟨m, vs, h1, o, h2, h3⟩ => ⟨m, vs, h1, ⟨⟨o.u, fun z => n trivial (by rw [h1, z])⟩, o.e0, o.tp, o.w⟩, h2, DvL.le (Same.lq Hd.less) (fun _ z => z) h3⟩
  | .ownD ds, n, ⟨m, vs, h1, o, h2, h3⟩ => ⟨m, vs, h1, ⟨⟨o.u, fun z => n trivial (by rw [h1, z])⟩, o.e0, o.tp, o.w⟩, h2, DvK.le (Same.lq Hd.less) (fun _ z => z) h3⟩
theorem TmOk.less {l : Addr} : ∀ {p : Tm}, (∀ ds, p ≠ .nw l ds) → TmOk K e U S H σ p → TmOk K e (fun b => U b ∧ b ≠ l) S H σ p
  | .v v (.d d), _, h => Dv.le (Same.lq Hd.less) (fun _ z => z) h
  | .v v (.own j), _, h => h
  | .pin b o w, _, ⟨n, h⟩ => ⟨fun z => n z.1, h⟩
  | .nw m ds, n, ⟨o, ns, vs, h, h2⟩ => ⟨⟨⟨o.u, fun z => n ds (by rw [z])⟩, o.e0, o.tp, o.w⟩, ns, vs, h, DvL.le (Same.lq Hd.less) (fun _ z => z) h2⟩
theorem NoTm.ne {l : Addr} (h : NoTm T l) : ∀ p ∈ T, ∀ ds, p ≠ .nw l ds := fun p hp ds z => h ds (z ▸ hp)
theorem RU.thaw (x : RU K e σ H S T U) {l : Addr} (o : Ow e U S.W l) (ns : NoSlot σ S l) (nt : NoTm T l) : RU K e σ H S T (fun b => U b ∧ b ≠ l) where
  wo := x.wo.less o.tp o.w
  fr := { x.fr with
    up := fun b h => ⟨x.fr.up b h, fun z => x.ed b h (z ▸ o.e0)⟩
    new := fun b h => x.fr.new b h.1 }
  ed := x.ed
  len := x.len
  slot := fun i c h => by
    obtain ⟨v, h1, h2⟩ := x.slot i c h
    exact ⟨v, h1, h2.less fun q z => ns i c h q (by rw [h1, z])⟩
  sep := x.sep
  tmp := fun p hp => (x.tmp p hp).less (nt.ne p hp)
structure RN (K : PySem.W.Frag) (e : Ent) (σ : St) (H : Hp) (S : PSt) (T : List Tm) (l : Addr) (ds : List D) : Prop where
  ex : ∃ U vs, RU K e σ H S T U ∧ Ow e U S.W l ∧ NoSlot σ S l ∧ NoTm T l ∧ H l = some (.lst vs) ∧ DvL K S.W.Tp (Hd U H) vs ds
structure RNd (K : PySem.W.Frag) (e : Ent) (σ : St) (H : Hp) (S : PSt) (T : List Tm) (l : Addr) (ks : List (Key × D)) : Prop where
  ex : ∃ U vs, RU K e σ H S T U ∧ Ow e U S.W l ∧ NoSlot σ S l ∧ NoTm T l ∧ H l = some (.dK vs) ∧ DvK K S.W.Tp (Hd U H) vs ks
theorem RN.frozen {l : Addr} {ds : List D} (x : RN K e σ H S T l ds) : R K e σ H S (.v (.ref l) (.d (.lst ds)) :: T) := by
  obtain ⟨U, vs, x, o, ns, nt, h, hv⟩ := x.ex
  exact ⟨_, (x.thaw o ns nt).push (.lst (Hd.get h fun z => z.2 rfl) (DvL.le (Same.lq Hd.less) (fun _ z => z) hv))⟩
theorem RNd.frozen {l : Addr} {ks : List (Key × D)} (x : RNd K e σ H S T l ks) : R K e σ H S (.v (.ref l) (.d (.dct ks)) :: T) := by
  obtain ⟨U, vs, x, o, ns, nt, h, hv⟩ := x.ex
  exact ⟨_, (x.thaw o ns nt).push (.dct (.inl (Hd.get h fun z => z.2 rfl)) (DvK.le (Same.lq Hd.less) (fun _ z => z) hv))⟩
theorem Hd.more {p : Addr} {o : HO} (hp : H p = none) : Same (Hd U H) (Hd (fun b => U b ∨ b = p) (upd H p o)) := fun b u h => by
  obtain ⟨h, n⟩ := Hd.of h
  have nb := ne_of_none h hp
  exact Hd.get (by rw [upd_ne nb]; exact h) fun z => z.elim n nb
theorem Rw.more {W : Wd} {p : Addr} {o : HO} (r : Rw K U W H) (hp : H p = none) : Rw K (fun b => U b ∨ b = p) W (upd H p o) where
  dom := fun b u => by
    by_cases c : b = p
    · subst c; rw [upd_same]; intro z; cases z
    · rw [upd_ne c]; exact r.dom b (u.resolve_right c)
  tape := fun t h => let ⟨a, b, c⟩ := r.tape t h; ⟨.inl a, b.le fun o q => by rw [upd_ne (ne_of_none q hp)]; exact q, c⟩
  cell := fun a c h => let ⟨u, q⟩ := r.cell a c h; ⟨.inl u, q.le (Same.lq (Hd.more hp)) (fun _ z => z) fun o q => by rw [upd_ne (ne_of_none q hp)]; exact q⟩
theorem Fr.more {W : Wd} {p : Addr} {o : HO} (hp : H p = none) : Fr ⟨U, W, H⟩ (fun b => U b ∨ b = p) W (upd H p o) where
  keep := fun b u h _ => by rw [upd_ne (ne_of_none h hp)]; exact .inl h
  up := fun _ h => .inl h
  new := fun b h => h.elim .inl fun z => .inr (z ▸ hp)
  wnew := fun _ h => .inl h
  tp := fun _ h => h
  there := fun b h => by
    by_cases c : b = p
    · subst c; exact absurd hp h
    · rw [upd_ne c]; exact h
  lk := fun _ _ h _ => h
theorem RU.moreU (x : RU K e σ H S T U) {p : Addr} {o : HO} (hp : H p = none) : RU K e σ (upd H p o) S T (fun b => U b ∨ b = p) ∧ Ow e (fun b => U b ∨ b = p) S.W p ∧ NoSlot σ S p ∧ NoTm T p := by
  have nU := x.fresh hp
  have ntp : ¬ S.W.Tp p := fun h => nU (x.wo.hid (.inl h))
  have nw : S.W.ω p = none := by
    cases q : S.W.ω p with
    | none => rfl
    | some c => exact (nU (x.wo.hid (.inr ⟨c, q⟩))).elim
  refine ⟨x.to (x.wo.more hp) (Fr.more hp), ⟨.inr rfl, x.free0 hp, ntp, nw⟩, fun i c h oc z => ?_, fun ds hm => ?_⟩
  rotate_left
  · obtain ⟨o, _⟩ := x.tmp _ hm
    exact nU o.u
  obtain ⟨v, h1, h2⟩ := x.slot i c h
  rw [h1] at z; cases z
  match c, oc, h2 with
  | .ownL ds, _, ⟨l, vs, e1, o1, _⟩ => cases e1; exact nU o1.u
  | .ownD ds, _, ⟨l, vs, e1, o1, _⟩ => cases e1; exact nU o1.u
theorem RU.newL (x : RU K e σ H S T U) {p : Addr} {vs : List V} {ds : List D} (hp : H p = none) (hv : DvL K S.W.Tp (Hd U H) vs ds) : RN K e σ (upd H p (.lst vs)) S T p ds := by
  obtain ⟨a, b, c, f⟩ := x.moreU (o := .lst vs) hp
  exact ⟨_, vs, a, b, c, f, upd_same, DvL.le (Same.lq (Hd.more hp)) (fun _ z => z) hv⟩
theorem RU.newD (x : RU K e σ H S T U) {p : Addr} {vs : List (Key × V)} {ks : List (Key × D)} (hp : H p = none) (hv : DvK K S.W.Tp (Hd U H) vs ks) : RNd K e σ (upd H p (.dK vs)) S T p ks := by
  obtain ⟨a, b, c, f⟩ := x.moreU (o := .dK vs) hp
  exact ⟨_, vs, a, b, c, f, upd_same, DvK.le (Same.lq (Hd.more hp)) (fun _ z => z) hv⟩
def NoOwn (T : List Tm) : Prop := ∀ p ∈ T, ∀ w j, p ≠ .v w (.own j)
theorem RU.setOwn (x : RU K e σ H S T U) {i : Nat} {l : Addr} {c : PC} (h : SlotOk K e U S.W H (.ref l) c) (ns : NoSlot σ S l) (nt : NoTm T l) (ht : NoOwn T) : RU K e (σ.set i (some (.ref l))) H ⟨S.ρ.set i (some c), S.W⟩ T U where
  wo := x.wo
  fr := x.fr
  ed := x.ed
  len := by simp [x.len]
  slot := fun j c' hj => by
    rw [List.getElem?_set] at hj ⊢
    by_cases q : i = j
    · subst q
      rw [if_pos rfl] at hj ⊢
      by_cases z : i < S.ρ.length
      · rw [if_pos z] at hj
        cases hj
        rw [if_pos (by rw [x.len]; exact z)]
        exact ⟨_, rfl, h⟩
      · rw [if_neg z] at hj; cases hj
    · rw [if_neg q] at hj ⊢
      exact x.slot j c' hj
  sep := fun j k c1 c2 m n hj oj hk ok sj sk => by
    rw [List.getElem?_set] at hj hk sj sk
    by_cases q : i = j
    · subst q
      rw [if_neg n] at hk sk
      rw [if_pos rfl] at sj
      split at sj
      · cases sj; exact ns k c2 hk ok sk
      · cases sj
    · rw [if_neg q] at hj sj
      by_cases q2 : i = k
      · subst q2
        rw [if_pos rfl] at sk
        split at sk
        · cases sk; exact ns j c1 hj oj sj
        · cases sk
      · rw [if_neg q2] at hk sk
        exact x.sep j k c1 c2 m n hj oj hk ok sj sk
  tmp := fun p hp => by
    have := x.tmp p hp
    match p, this, ht p hp with
    | .v w (.d d), h, _ => exact h
    | .v w (.own j), h, n => exact (n w j rfl).elim
    | .pin b o w, h, _ => exact h
    | .nw m ds, ⟨o, ms, h⟩, _ =>
      refine ⟨o, fun j c' hj oc => ?_, h⟩
      have hj : (S.ρ.set i (some c))[j]? = some (some c') := hj
      show (σ.set i (some (.ref l)))[j]? ≠ _
      rw [List.getElem?_set] at hj ⊢
      by_cases q : i = j
      · rw [if_pos q]
        split
        · intro z; cases z; exact nt ds hp
        · intro z; cases z
      · rw [if_neg q] at hj ⊢
        exact ms j c' hj oc
theorem RN.slot {l : Addr} {ds : List D} (x : RN K e σ H S T l ds) (i : Nat) (ht : NoOwn T) : R K e (σ.set i (some (.ref l))) H ⟨S.ρ.set i (some (.ownL ds)), S.W⟩ T := by
  obtain ⟨U, vs, x, o, ns, nt, h, hv⟩ := x.ex
  exact ⟨U, x.setOwn ⟨l, vs, rfl, o, h, hv⟩ ns nt ht⟩
theorem RNd.slot {l : Addr} {ks : List (Key × D)} (x : RNd K e σ H S T l ks) (i : Nat) (ht : NoOwn T) : R K e (σ.set i (some (.ref l))) H ⟨S.ρ.set i (some (.ownD ks)), S.W⟩ T := by
  obtain ⟨U, vs, x, o, ns, nt, h, hv⟩ := x.ex
  exact ⟨U, x.setOwn ⟨l, vs, rfl, o, h, hv⟩ ns nt ht⟩
theorem RU.freeze (x : RU K e σ H S T U) {j : Nat} {l : Addr} {c : PC} (hc : S.ρ[j]? = some (some c)) (oc : c.isOwn) (hs : σ[j]? = some (some (.ref l))) (o : Ow e U S.W l) {d : D} (hd : Dv K S.W.Tp (Hd (fun b => U b ∧ b ≠ l) H) (.ref l) d) :
    RU K e σ H ⟨S.ρ.set j (some (.val d)), S.W⟩ T (fun b => U b ∧ b ≠ l) where
  wo := x.wo.less o.tp o.w
  fr := { x.fr with
    up := fun b h => ⟨x.fr.up b h, fun z => x.ed b h (z ▸ o.e0)⟩
    new := fun b h => x.fr.new b h.1 }
  ed := x.ed
  len := by simp [x.len]
  slot := fun i c' h => by
    rw [List.getElem?_set] at h
    by_cases q : j = i
    · subst q
      rw [if_pos rfl] at h
      split at h
      · cases h; exact ⟨_, hs, hd⟩
      · cases h
    · rw [if_neg q] at h
      obtain ⟨v, h1, h2⟩ := x.slot i c' h
      exact ⟨v, h1, h2.less fun oc' z => x.sep j i c c' l q hc oc h oc' hs (by rw [h1, z])⟩
  sep := fun i k c1 c2 m n hi oi hk ok si sk => by
    rw [List.getElem?_set] at hi hk
    by_cases q : j = i
    · rw [if_pos q] at hi
      split at hi
      · cases hi; exact oi
      · cases hi
    · rw [if_neg q] at hi
      by_cases q2 : j = k
      · rw [if_pos q2] at hk
        split at hk
        · cases hk; exact ok
        · cases hk
      · rw [if_neg q2] at hk
        exact x.sep i k c1 c2 m n hi oi hk ok si sk
  tmp := fun p hp => by
    have h := x.tmp p hp
    have n : ∀ ds, p ≠ .nw l ds := fun ds z => by
      subst z
      exact h.2.1 j c hc oc hs
    have h := h.less n
    match p, h with
    | .v v (.d d), h => exact h
    | .v v (.own j), h => exact h
    | .pin b o w, h => exact h
    | .nw m ds, ⟨o, ms, h⟩ =>
      refine ⟨o, fun i c' hi oc' => ?_, h⟩
      have hi : (S.ρ.set j (some (.val d)))[i]? = some (some c') := hi
      rw [List.getElem?_set] at hi
      by_cases q : j = i
      · rw [if_pos q] at hi
        split at hi
        · cases hi; exact oc'.elim
        · cases hi
      · rw [if_neg q] at hi
        exact ms i c' hi oc'
end
end Kn
set_option Elab.async false
set_option maxRecDepth 100000
set_option linter.all false
set_option autoImplicit false
namespace Kn
open PySem L2
section
variable {K : PySem.W.Frag} {e : Ent} {σ : St} {H H' : Hp} {S : PSt} {T : List Tm} {U U' : Addr → Prop} {W' : Wd}
theorem Hd.upd {l : Addr} {o : HO} (u : U l) : Same (Hd U H) (Hd U (L2.upd H l o)) := fun b q h => by
  obtain ⟨h, n⟩ := Hd.of h
  exact Hd.get (by rw [upd_ne (show b ≠ _ from fun z => n (z ▸ u))]; exact h) n
theorem Rw.upd {W : Wd} {l : Addr} {o : HO} (r : Rw K U W H) (u : U l) (tp : ¬ W.Tp l) (w : W.ω l = none) : Rw K U W (L2.upd H l o) where
  dom := fun b h => by
    by_cases c : b = l
    · subst c; rw [upd_same]; intro z; cases z
    · rw [upd_ne c]; exact r.dom b h
  tape := fun t h => let ⟨a, b, c⟩ := r.tape t h; ⟨a, b.le fun o q => by rw [upd_ne (show t ≠ l from fun z => tp (z ▸ h))]; exact q, c⟩
  cell := fun a c h => let ⟨u', q⟩ := r.cell a c h; ⟨u', q.le (Same.lq (Hd.upd u)) (fun _ z => z) fun o q => by rw [upd_ne (show a ≠ l from fun z => by rw [z, w] at h; cases h)]; exact q⟩
theorem Fr.upd (x : Fr e U S.W H) {l : Addr} {o : HO} (h0 : e.H l = none ∨ e.W.mt l) : Fr e U S.W (L2.upd H l o) := { x with
  keep := fun b q h n => by
    have nb : b ≠ l := fun z => by
      rcases h0 with h0 | h0
      · rw [z, h0] at h; cases h
      · exact n (z ▸ h0)
    rw [upd_ne nb]; exact x.keep b q h n
  there := fun b h => by
    by_cases c : b = l
    · subst c; rw [upd_same]; intro z; cases z
    · rw [upd_ne c]; exact x.there b h }
theorem SlotOk.upd {W : Wd} {l : Addr} {o : HO} {v : V} (u : U l) : ∀ {c : PC}, (c.isOwn → v ≠ .ref l) → SlotOk K e U W H v c → SlotOk K e U W (L2.upd H l o) v c
  | .val d, _, h => Dv.le (Same.lq (Hd.upd u)) (fun _ z => z) h
  | .ownL ds, n, ⟨m, vs, h1, ow, h2, h3⟩ => ⟨m, vs, h1, ow, by rw [upd_ne (show m ≠ l from fun z => n trivial (by rw [h1, z]))]; exact h2, DvL.le (Same.lq (Hd.upd u)) (fun _ z => z) h3⟩
  | .ownD ds, n, ⟨m, vs, h1, ow, h2, h3⟩ => ⟨m, vs, h1, ow, by rw [upd_ne (show m ≠ l from fun z => n trivial (by rw [h1, z]))]; exact h2, DvK.le (Same.lq (Hd.upd u)) (fun _ z => z) h3⟩
theorem TmOk.upd {l : Addr} {o : HO} (u : U l) : ∀ {p : Tm}, (∀ ds, p ≠ .nw l ds) → TmOk K e U S H σ p → TmOk K e U S (L2.upd H l o) σ p
  | .v v (.d d), _, h => Dv.le (Same.lq (Hd.upd u)) (fun _ z => z) h
  | .v v (.own j), _, h => h
  | .nw m ds, n, ⟨ow, ns, vs, h, h2⟩ => ⟨ow, ns, vs, by rw [upd_ne (show m ≠ l from fun z => n ds (by rw [z]))]; exact h, DvL.le (Same.lq (Hd.upd u)) (fun _ z => z) h2⟩
  | .pin b o w, _, ⟨n, h⟩ => ⟨n, by rw [upd_ne (show b ≠ _ from fun z => n (z ▸ u))]; exact h⟩
theorem RU.updN (x : RU K e σ H S T U) {l : Addr} {o : HO} (ow : Ow e U S.W l) (ns : NoSlot σ S l) (nt : NoTm T l) : RU K e σ (L2.upd H l o) S T U where
  wo := x.wo.upd ow.u ow.tp ow.w
  fr := x.fr.upd (.inl ow.e0)
  ed := x.ed
  len := x.len
  slot := fun i c h => let ⟨v, h1, h2⟩ := x.slot i c h; ⟨v, h1, h2.upd ow.u fun q z => ns i c h q (by rw [h1, z])⟩
  sep := x.sep
  tmp := fun p hp => (x.tmp p hp).upd ow.u (nt.ne p hp)
theorem RN.tail {T1 : List Tm} {l : Addr} {ds : List D} (x : RN K e σ H S (T1 ++ T) l ds) : RN K e σ H S T l ds := by
  obtain ⟨U, vs, x, ow, ns, nt, h, hv⟩ := x.ex
  exact ⟨U, vs, x.less fun p hp => List.mem_append_right _ hp, ow, ns, fun ds hm => nt ds (List.mem_append_right _ hm), h, hv⟩
theorem RN.app {l : Addr} {ds : List D} {v : V} {d : D} (x : RN K e σ H S (.v v (.d d) :: T) l ds) : ∃ vs, H l = some (.lst vs) ∧ vs.length = ds.length ∧ RN K e σ (L2.upd H l (.lst (vs ++ [v]))) S T l (ds ++ [d]) := by
  obtain ⟨U, vs, x, ow, ns, nt, h, hv⟩ := x.ex
  have nt' : NoTm T l := fun ds hm => nt ds (List.mem_cons_of_mem _ hm)
  refine ⟨vs, h, hv.len, U, vs ++ [v], (x.less fun p hp => List.mem_cons_of_mem _ hp).updN ow ns nt', ow, ns, nt', upd_same, ?_⟩
  refine DvL.le (Same.lq (Hd.upd ow.u)) (fun _ z => z) (hv.app (.cons ?_ .nil))
  exact x.tmp (.v v (.d d)) (by simp)
theorem RU.updO (x : RU K e σ H S T U) {j : Nat} {l : Addr} {o : HO} {c c' : PC} (hc : S.ρ[j]? = some (some c)) (oc : c.isOwn) (oc' : c'.isOwn) (hs : σ[j]? = some (some (.ref l))) (ow : Ow e U S.W l) (hn : SlotOk K e U S.W (L2.upd H l o) (.ref l) c') :
    RU K e σ (L2.upd H l o) ⟨S.ρ.set j (some c'), S.W⟩ T U where
  wo := x.wo.upd ow.u ow.tp ow.w
  fr := x.fr.upd (.inl ow.e0)
  ed := x.ed
  len := by simp [x.len]
  slot := fun i k h => by
    rw [List.getElem?_set] at h
    by_cases q : j = i
    · subst q
      rw [if_pos rfl] at h
      split at h
      · cases h; exact ⟨_, hs, hn⟩
      · cases h
    · rw [if_neg q] at h
      obtain ⟨v, h1, h2⟩ := x.slot i k h
      exact ⟨v, h1, h2.upd ow.u fun ok z => x.sep j i c k l q hc oc h ok hs (by rw [h1, z])⟩
  sep := fun i k c1 c2 m n hi oi hk ok si sk => by
    rw [List.getElem?_set] at hi hk
    by_cases q : j = i
    · subst q
      rw [if_neg n] at hk
      exact x.sep j k c c2 m n hc oc hk ok si sk
    · rw [if_neg q] at hi
      by_cases q2 : j = k
      · subst q2
        exact x.sep i j c1 c m n hi oi hc oc si sk
      · rw [if_neg q2] at hk
        exact x.sep i k c1 c2 m n hi oi hk ok si sk
  tmp := fun p hp => by
    have h := x.tmp p hp
    have n : ∀ ds, p ≠ .nw l ds := fun ds z => by
      subst z
      exact h.2.1 j c hc oc hs
    have h := h.upd (o := o) ow.u n
    match p, h with
    | .v v (.d d), h => exact h
    | .v v (.own j), h => exact h
    | .pin b o w, h => exact h
    | .nw m ds, ⟨om, ms, h⟩ =>
      refine ⟨om, fun i c1 hi oc1 => ?_, h⟩
      have hi : (S.ρ.set j (some c'))[i]? = some (some c1) := hi
      rw [List.getElem?_set] at hi
      by_cases q : j = i
      · subst q
        exact ms j c hc oc
      · rw [if_neg q] at hi
        exact ms i c1 hi oc1
theorem RU.ownL (x : RU K e σ H S T U) {j : Nat} {ds : List D} (hc : S.ρ[j]? = some (some (.ownL ds))) : ∃ l vs, σ[j]? = some (some (.ref l)) ∧ Ow e U S.W l ∧ H l = some (.lst vs) ∧ DvL K S.W.Tp (Hd U H) vs ds := by
  obtain ⟨v, h1, l, vs, rfl, h2⟩ := x.slot j _ hc
  exact ⟨l, vs, h1, h2⟩
theorem RU.ownD (x : RU K e σ H S T U) {j : Nat} {ds : List (Key × D)} (hc : S.ρ[j]? = some (some (.ownD ds))) : ∃ l vs, σ[j]? = some (some (.ref l)) ∧ Ow e U S.W l ∧ H l = some (.dK vs) ∧ DvK K S.W.Tp (Hd U H) vs ds := by
  obtain ⟨v, h1, l, vs, rfl, h2⟩ := x.slot j _ hc
  exact ⟨l, vs, h1, h2⟩
open Classical in
noncomputable def Wd.put (W : Wd) (a : Addr) (c : Cell) : Wd := ⟨W.Tp, fun b => if b = a then some c else W.ω b⟩
theorem Wd.put_same {W : Wd} {a : Addr} {c : Cell} : (W.put a c).ω a = some c := by unfold Wd.put; simp
theorem Wd.put_ne {W : Wd} {a b : Addr} {c : Cell} (h : b ≠ a) : (W.put a c).ω b = W.ω b := by unfold Wd.put; simp [h]
theorem RU.updC (x : RU K e σ H S T U) {a : Addr} {o : HO} {c c' : Cell} (hc : S.W.ω a = some c) (mc : c.isMut) (hn : CellOk K S.W.Tp U (L2.upd H a o) a c') : RU K e σ (L2.upd H a o) ⟨S.ρ, S.W.put a c'⟩ T U := by
  have u := (x.wo.cell a c hc).1
  have h0 : e.H a = none ∨ e.W.mt a := by
    rcases x.fr.wnew a (.inr ⟨c, hc⟩) with (z | ⟨c0, z⟩) | z
    · exact .inr (.inl z)
    · by_cases q : c0.isMut
      · exact .inr (.inr ⟨c0, z, q⟩)
      · have := x.fr.lk a c0 z q
        rw [hc] at this; cases this; exact (q mc).elim
    · exact .inl z
  have f1 : Fr e U (S.W.put a c') (L2.upd H a o) := by
    have f := x.fr.upd (o := o) h0
    exact { f with
      wnew := fun b h => by
        by_cases q : b = a
        · subst q; exact x.fr.wnew b (.inr ⟨c, hc⟩)
        · refine x.fr.wnew b ?_
          rcases h with h | ⟨c1, h⟩
          · exact .inl h
          · rw [Wd.put_ne q] at h; exact .inr ⟨c1, h⟩
      lk := fun b c1 h n => by
        by_cases q : b = a
        · subst q
          have := x.fr.lk b c1 h n
          rw [hc] at this; cases this; exact (n mc).elim
        · rw [Wd.put_ne q]; exact x.fr.lk b c1 h n }
  exact {
    wo := {
      dom := fun b h => by
        by_cases q : b = a
        · subst q; rw [upd_same]; intro z; cases z
        · rw [upd_ne q]; exact x.wo.dom b h
      tape := fun t h => by
        obtain ⟨a1, b1, c1⟩ := x.wo.tape t h
        have nt : t ≠ a := fun z => by rw [z, hc] at c1; cases c1
        exact ⟨a1, b1.le fun o q => by rw [upd_ne nt]; exact q, by rw [Wd.put_ne nt]; exact c1⟩
      cell := fun b c1 h => by
        by_cases q : b = a
        · subst q
          rw [Wd.put_same] at h; cases h
          exact ⟨u, hn⟩
        · rw [Wd.put_ne q] at h
          obtain ⟨u', k⟩ := x.wo.cell b c1 h
          exact ⟨u', k.le (Same.lq (Hd.upd u)) (fun _ z => z) fun o k => by rw [upd_ne q]; exact k⟩ }
    fr := f1
    ed := x.ed
    len := x.len
    slot := fun i c1 h => by
      obtain ⟨v, h1, h2⟩ := x.slot i c1 h
      refine ⟨v, h1, ?_⟩
      have nv : ∀ m, Ow e U S.W m → m ≠ a := fun m ow z => by rw [← z, ow.w] at hc; cases hc
      match c1, h2 with
      | .val d, h2 => exact Dv.le (Same.lq (Hd.upd u)) (fun _ z => z) h2
      | .ownL ds, ⟨m, vs, e1, ow, e2, e3⟩ => exact ⟨m, vs, e1, ⟨ow.u, ow.e0, ow.tp, by rw [Wd.put_ne (nv m ow)]; exact ow.w⟩, by rw [upd_ne (nv m ow)]; exact e2, DvL.le (Same.lq (Hd.upd u)) (fun _ z => z) e3⟩
      | .ownD ds, ⟨m, vs, e1, ow, e2, e3⟩ => exact ⟨m, vs, e1, ⟨ow.u, ow.e0, ow.tp, by rw [Wd.put_ne (nv m ow)]; exact ow.w⟩, by rw [upd_ne (nv m ow)]; exact e2, DvK.le (Same.lq (Hd.upd u)) (fun _ z => z) e3⟩
    sep := x.sep
    tmp := fun p hp => by
      have := x.tmp p hp
      match p, this with
      | .v v (.d d), h => exact Dv.le (Same.lq (Hd.upd u)) (fun _ z => z) h
      | .v v (.own j), h => exact h
      | .nw m ds, ⟨om, ms, vs, h, h2⟩ =>
        have nv : m ≠ a := fun z => by rw [← z, om.w] at hc; cases hc
        exact ⟨⟨om.u, om.e0, om.tp, by rw [Wd.put_ne nv]; exact om.w⟩, ms, vs, by rw [upd_ne nv]; exact h, DvL.le (Same.lq (Hd.upd u)) (fun _ z => z) h2⟩
      | .pin b o w, ⟨n, h⟩ => exact ⟨n, by rw [upd_ne (show b ≠ _ from fun z => n (z ▸ u))]; exact h⟩ }
end
end Kn
set_option Elab.async false
set_option maxRecDepth 100000
set_option linter.all false
set_option autoImplicit false
namespace Kn
open PySem L2
mutual
def beqD : D → D → Bool
  | .non, .non => true
  | .bl a, .bl b => decide (a = b)
  | .int a, .int b => decide (a = b)
  | .str a, .str b => decide (a = b)
  | .ty a, .ty b => decide (a = b)
  | .tup a, .tup b => beqL a b
  | .lst a, .lst b => beqL a b
  | .dct a, .dct b => beqK a b
  | .obj c a, .obj d b => decide (c = d) && beqF a b
  | .ref a, .ref b => decide (a = b)
  | .tape, .tape => true
  | .scr, .scr => true
  | .exc a C d fs, .exc a' C' d' fs' => decide (a = a') && decide (C = C') && decide (d = d') && beqF fs fs'
  | _, _ => false
def beqL : List D → List D → Bool
  | [], [] => true
  | a :: as, b :: bs => beqD a b && beqL as bs
  | _, _ => false
def beqK : List (Key × D) → List (Key × D) → Bool
  | [], [] => true
  | (k, a) :: as, (l, b) :: bs => decide (k = l) && beqD a b && beqK as bs
  | _, _ => false
def beqF : List (Str × D) → List (Str × D) → Bool
  | [], [] => true
  | (k, a) :: as, (l, b) :: bs => decide (k = l) && beqD a b && beqF as bs
  | _, _ => false
end
mutual
theorem beqD_iff : ∀ a b : D, beqD a b = true ↔ a = b
  | .non, b => by cases b <;> simp [beqD]
  | .bl a, b => by cases b <;> simp [beqD]
  | .int a, b => by cases b <;> simp [beqD]
  | .str a, b => by cases b <;> simp [beqD]
  | .ty a, b => by cases b <;> simp [beqD]
  | .tup a, b => by cases b <;> simp [beqD, beqL_iff a]
  | .lst a, b => by cases b <;> simp [beqD, beqL_iff a]
  | .dct a, b => by cases b <;> simp [beqD, beqK_iff a]
  | .obj c a, b => by cases b <;> simp [beqD, beqF_iff a]
  | .ref a, b => by cases b <;> simp [beqD]
  | .tape, b => by cases b <;> simp [beqD]
  | .scr, b => by cases b <;> simp [beqD]
  | .exc a C d fs, b => by cases b <;> simp [beqD, beqF_iff fs, and_assoc]
theorem beqL_iff : ∀ a b : List D, beqL a b = true ↔ a = b
  | [], b => by cases b <;> simp [beqL]
  | a :: as, b => by cases b <;> simp [beqL, beqD_iff a, beqL_iff as]
theorem beqK_iff : ∀ a b : List (Key × D), beqK a b = true ↔ a = b
  | [], b => by cases b <;> simp [beqK]
  | (k, a) :: as, b => by
    cases b with
    | nil => simp [beqK]
    | cons p bs => obtain ⟨l, b⟩ := p; simp [beqK, beqD_iff a, beqK_iff as, and_assoc]
theorem beqF_iff : ∀ a b : List (Str × D), beqF a b = true ↔ a = b
  | [], b => by cases b <;> simp [beqF]
  | (k, a) :: as, b => by
    cases b with
    | nil => simp [beqF]
    | cons p bs => obtain ⟨l, b⟩ := p; simp [beqF, beqD_iff a, beqF_iff as, and_assoc]
end
instance : DecidableEq D := fun a b => decidable_of_iff _ (beqD_iff a b)
mutual
def toP : D → PyData
  | .non => .none
  | .int i => .int i
  | .str x => .str x
  | .bl b => .bool b
  | .tup ds => .tuple (toPs ds)
  | .lst ds => .list (toPs ds)
  | _ => .none
def toPs : List D → List PyData
  | [] => []
  | d :: ds => toP d :: toPs ds
end
mutual
def okD (b : Bool) : D → Bool
  | .non => true
  | .int _ => !b
  | .bl _ => b
  | .str x => PyData.strOk x
  | .tup ds => okL b ds
  | .lst ds => okL b ds
  | _ => false
def okL (b : Bool) : List D → Bool
  | [] => true
  | d :: ds => okD b d && okL b ds
end
mutual
def dpD : D → Nat
  | .tup ds => dpL ds + 1
  | .lst ds => dpL ds + 1
  | _ => 0
def dpL : List D → Nat
  | [] => 0
  | d :: ds => max (dpD d) (dpL ds)
end
section
variable {K : PySem.W.Frag} {Tp : Addr → Prop} {H H' : Hp} {b : Bool}
mutual
theorem Dv.dp (e : Same H H') : ∀ {v : V} {d : D}, Dv K Tp H v d → okD b d = true → Dp K H' v (toP d)
  | _, _, .non, _ => by rw [toP]; exact .non
  | _, _, .bl b, _ => by rw [toP]; exact .bl b
  | _, _, .int i, _ => by rw [toP]; exact .int i
  | _, _, .str x, _ => by rw [toP]; exact .str x
  | _, _, .ty n, h => by simp [okD] at h
  | _, _, .tup h t, g => by rw [okD] at g; rw [toP]; exact .tup (SqT.same e h) (DvL.dp e t g)
  | _, _, .lst h t, g => by rw [okD] at g; rw [toP]; exact .lst (SqL.of (e _ _ h)) (DvL.dp e t g)
  | _, _, .dct h t, g => by simp [okD] at g
  | _, _, .obj h t, g => by simp [okD] at g
  | _, _, .ref a, g => by simp [okD] at g
  | _, _, .tape h, g => by simp [okD] at g
  | _, _, .scr h _, g => by simp [okD] at g
  | _, _, .exc0 a C, g => by simp [okD] at g
  | _, _, .exc1 h t, g => by simp [okD] at g
theorem DvL.dp (e : Same H H') : ∀ {v : List V} {d : List D}, DvL K Tp H v d → okL b d = true → DpAll K H' v (toPs d)
  | _, _, .nil, _ => by rw [toPs]; exact .nil
  | _, _, .cons h t, g => by
    rw [okL, Bool.and_eq_true] at g
    rw [toPs]
    exact .cons (Dv.dp e h g.1) (DvL.dp e t g.2)
end
mutual
theorem toP_lay : ∀ d : D, okD b d = true → (toP d).canLay0 = true
  | .non, _ => by simp [toP, PyData.canLay0]
  | .bl _, _ => by simp [toP, PyData.canLay0]
  | .int _, _ => by simp [toP, PyData.canLay0]
  | .str x, h => by rw [okD] at h; rw [toP, PyData.canLay0]; exact h
  | .ty _, h => by simp [okD] at h
  | .tup ds, h => by rw [okD] at h; rw [toP, PyData.canLay0]; exact toPs_lay ds h
  | .lst ds, h => by rw [okD] at h; rw [toP, PyData.canLay0]; exact toPs_lay ds h
  | .dct _, h => by simp [okD] at h
  | .obj _ _, h => by simp [okD] at h
  | .ref _, h => by simp [okD] at h
  | .tape, h => by simp [okD] at h
  | .scr, h => by simp [okD] at h
  | .exc _ _ _ _, h => by simp [okD] at h
theorem toPs_lay : ∀ d : List D, okL b d = true → PyData.canLayAll0 (toPs d) = true
  | [], _ => by simp [toPs, PyData.canLayAll0]
  | d :: ds, h => by
    rw [okL, Bool.and_eq_true] at h
    rw [toPs, PyData.canLayAll0, toP_lay d h.1, toPs_lay ds h.2]; rfl
end
mutual
theorem toP_depth : ∀ d : D, (toP d).depth ≤ dpD d
  | .non => by simp [toP, PyData.depth]
  | .bl _ => by simp [toP, PyData.depth]
  | .int _ => by simp [toP, PyData.depth]
  | .str x => by simp [toP, PyData.depth]
  | .ty _ => by simp [toP, PyData.depth]
  | .tup ds => by rw [toP, dpD, PyData.depth]; have := toPs_depth ds; omega
  | .lst ds => by rw [toP, dpD, PyData.depth]; have := toPs_depth ds; omega
  | .dct _ => by simp [toP, PyData.depth]
  | .obj _ _ => by simp [toP, PyData.depth]
  | .ref _ => by simp [toP, PyData.depth]
  | .tape => by simp [toP, PyData.depth]
  | .scr => by simp [toP, PyData.depth]
  | .exc _ _ _ _ => by simp [toP, PyData.depth]
theorem toPs_depth : ∀ d : List D, PyData.depthAll (toPs d) ≤ dpL d
  | [] => by simp [toPs, PyData.depthAll]
  | d :: ds => by
    rw [toPs, PyData.depthAll, dpL]
    have := toP_depth d
    have := toPs_depth ds
    omega
end
theorem toP_shaped {d : D} (h : okD b d = true) (hd : dpD d ≤ 64) : SeqAt.shaped (toP d) = true := by
  unfold SeqAt.shaped
  rw [toP_lay d h, decide_eq_true (Nat.le_trans (toP_depth d) hd)]; rfl
mutual
theorem eqv_toP : ∀ a c : D, okD b a = true → okD b c = true → PyData.eqv (toP a) (toP c) = beqD a c
  | .non, c, _, h => by cases c <;> simp [okD] at h <;> simp [toP, PyData.eqv, beqD]
  | .bl x, c, g, h => by cases c <;> simp [okD] at g h <;> simp_all [toP, PyData.eqv, beqD] <;> rfl
  | .int x, c, g, h => by cases c <;> simp [okD] at g h <;> simp_all [toP, PyData.eqv, beqD] <;> rfl
  | .str x, c, g, h => by cases c <;> simp [okD] at g h <;> simp_all [toP, PyData.eqv, beqD] <;> rfl
  | .ty x, c, g, h => by simp [okD] at g
  | .tup x, c, g, h => by cases c <;> simp [okD] at g h <;> simp [toP, PyData.eqv, beqD] <;> exact eqv_toPs x _ g h
  | .lst x, c, g, h => by cases c <;> simp [okD] at g h <;> simp [toP, PyData.eqv, beqD] <;> exact eqv_toPs x _ g h
  | .dct _, c, g, h => by simp [okD] at g
  | .obj _ _, c, g, h => by simp [okD] at g
  | .ref _, c, g, h => by simp [okD] at g
  | .tape, c, g, h => by simp [okD] at g
  | .scr, c, g, h => by simp [okD] at g
  | .exc _ _ _ _, c, g, h => by simp [okD] at g
theorem eqv_toPs : ∀ a c : List D, okL b a = true → okL b c = true → PyData.eqvAll (toPs a) (toPs c) = beqL a c
  | [], [], _, _ => by simp [toPs, PyData.eqvAll, beqL]
  | [], c :: cs, _, _ => by simp [toPs, PyData.eqvAll, beqL]
  | a :: as, [], _, _ => by simp [toPs, PyData.eqvAll, beqL]
  | a :: as, c :: cs, g, h => by
    rw [okL, Bool.and_eq_true] at g h
    rw [toPs, toPs, PyData.eqvAll, beqL, eqv_toP a c g.1 h.1, eqv_toPs as cs g.2 h.2]
end
theorem beqD_dec (a c : D) : beqD a c = decide (a = c) := by
  by_cases h : a = c
  · rw [decide_eq_true h]; exact (beqD_iff a c).mpr h
  · rw [decide_eq_false h]
    cases q : beqD a c with
    | false => rfl
    | true => exact absurd ((beqD_iff a c).mp q) h
end
end Kn
set_option Elab.async false
set_option maxRecDepth 100000
set_option linter.all false
set_option autoImplicit false
namespace Kn
open PySem L2
section
variable {X : Cx}
theorem OpR.or {f : Value → Value → Sem Value} {r r' : R2} (h : OpR X f r) (h' : OpR X f r') : OpR X f (fun x y H Q => r x y H Q ∨ r' x y H Q) := by
  intro pins s σ H x y v u Q I rx ry q
  rcases q with q | q
  · exact h pins s σ H x y v u Q I rx ry q
  · exact h' pins s σ H x y v u Q I rx ry q
theorem CallR.or {f : Value} {r r' : List V → Hp → VK → Prop} (h : CallR X f r) (h' : CallR X f r') : CallR X f (fun xs H Q => r xs H Q ∨ r' xs H Q) := by
  intro pins s σ H xs us Q I rx q
  rcases q with q | q
  · exact h pins s σ H xs us Q I rx q
  · exact h' pins s σ H xs us Q I rx q
theorem SlR.or {r r' : V → Option Int → Option Int → Hp → VK → Prop} (h : SlR X r) (h' : SlR X r') : SlR X (fun x l u H Q => r x l u H Q ∨ r' x l u H Q) := by
  intro pins s σ H x v vl vu lo hi sl Q I rx hs pl pu q
  rcases q with q | q
  · exact h pins s σ H x v vl vu lo hi sl Q I rx hs pl pu q
  · exact h' pins s σ H x v vl vu lo hi sl Q I rx hs pl pu q
def rAddS : R2 := fun x y H Q => ∃ i j, x = .str i ∧ y = .str j ∧ i.length + j.length ≤ sizeLine ∧ Q (.str (i ++ j)) H
def rAddU (K : PySem.W.Frag) : R2 := fun x y H Q => rI0 (fun i j => .int (i + j)) x y H Q ∨ rAddS x y H Q ∨ rCat x y H Q ∨ rCatA K x y H Q
theorem op_addU (K : PySem.W.Frag) (h : X.K = K := by rfl) : OpR X (binaryOp .Add) (rAddU K) := OpR.or op_add (OpR.or op_add_str (OpR.or op_cat (op_catAK K h)))
def rMulU : R2 := fun x y H Q => rI CMul (fun i j => .int (i * j)) x y H Q ∨ rMulS x y H Q ∨ rRep x y H Q
theorem op_mulU : OpR X (binaryOp .Mult) rMulU := OpR.or op_mul (OpR.or op_mul_str op_rep)
def rEqU (K : PySem.W.Frag) : R2 := fun x y H Q => rEq x y H Q ∨ rEqD K x y H Q
def rNeU (K : PySem.W.Frag) : R2 := fun x y H Q => rNe x y H Q ∨ rNeD K x y H Q
theorem op_eqU (K : PySem.W.Frag) (hu : X.A.units + 64 < cLine) (h : X.K = K := by rfl) : OpR X (compareOp .Eq) (rEqU K) := OpR.or op_eq (op_eqDK K hu h)
theorem op_neU (K : PySem.W.Frag) (hu : X.A.units + 64 < cLine) (h : X.K = K := by rfl) : OpR X (compareOp .NotEq) (rNeU K) := OpR.or op_ne (op_neDK K hu h)
def rDIn (neg : Bool) : R2 := fun y x H Q => ∃ a o, x = .ref a ∧ DGet H a y o ∧ Q (.bl (if neg then !o.isSome else o.isSome)) H
theorem op_dIn (hu : X.A.units + 1 < cLine) : OpR X (compareOp .In) (rDIn false) := by
  intro pins s σ H x y v u Q I rx ry h
  obtain ⟨a, o, rfl, g, q⟩ := h
  cases ry
  exact d_in hu I g rx fun s' I' => ⟨.bl o.isSome, H, I', rfl, q⟩
theorem op_dNotIn (hu : X.A.units + 1 < cLine) : OpR X (compareOp .NotIn) (rDIn true) := by
  intro pins s σ H x y v u Q I rx ry h
  obtain ⟨a, o, rfl, g, q⟩ := h
  cases ry
  exact d_notIn hu I g rx fun s' I' => ⟨.bl (!o.isSome), H, I', rfl, q⟩
def rInS (neg : Bool) : R2 := fun x y H Q => ∃ i j, x = .str i ∧ y = .str j ∧ Q (.bl (if neg then !!(Builtin.Str.occurrences j i 0 j.length 1).isEmpty else !(Builtin.Str.occurrences j i 0 j.length 1).isEmpty)) H
def rInU (K : PySem.W.Frag) : R2 := fun x y H Q => rIn K false x y H Q ∨ rInS false x y H Q ∨ rDIn false x y H Q ∨ rInD K x y H Q
def rNotInU (K : PySem.W.Frag) : R2 := fun x y H Q => rIn K true x y H Q ∨ rInS true x y H Q ∨ rDIn true x y H Q ∨ rNotInD K x y H Q
theorem op_inU (K : PySem.W.Frag) (hu : X.A.units + 65 < cLine) (h : X.K = K := by rfl) : OpR X (compareOp .In) (rInU K) :=
  OpR.or (op_in_seqK K h) (OpR.or op_in_str (OpR.or (op_dIn (by omega)) (op_inDK K hu h)))
theorem op_notInU (K : PySem.W.Frag) (hu : X.A.units + 65 < cLine) (h : X.K = K := by rfl) : OpR X (compareOp .NotIn) (rNotInU K) :=
  OpR.or (op_notIn_seqK K h) (OpR.or op_notin_str (OpR.or (op_dNotIn (by omega)) (op_notInDK K hu h)))
def rIsN : R2 := fun x y H Q => y = .non ∧ Q (.bl (decide (x = .non))) H
def rNotN : R2 := fun x y H Q => y = .non ∧ Q (.bl (!decide (x = .non))) H
theorem op_isNU : OpR X (compareOp .Is) rIsN := op_isN
theorem op_notNU : OpR X (compareOp .IsNot) rNotN := op_notN
def rIxDc : R2 := fun x y H Q => ∃ a v, x = .ref a ∧ DGet H a y (some v) ∧ Q v H
theorem ix_dict (hu : X.A.units + 1 < cLine) : IxR X rIxDc := by
  intro value slice pins s σ H x y v u Q I rx ry h hs
  obtain ⟨a, z, rfl, g, q⟩ := h
  cases rx
  exact PyProof.Rows.tail_any (ops := [.ref a, u]) (dict_typeIs I g) PySem.F.slot_dict_getitem.lookup (d_getItem hu I g ry fun w' s' I' rw' => ⟨z, H, I', rw', q⟩) hs
def rIxU (K : PySem.W.Frag) : R2 := fun x y H Q => rIx K x y H Q ∨ rIxDc x y H Q
theorem ix_U (K : PySem.W.Frag) (hu : X.A.units + 1 < cLine) (h : X.K = K := by rfl) : IxR X (rIxU K) := IxR.or (ix_seqK K h) (ix_dict hu)
def rSlU (K : PySem.W.Frag) : V → Option Int → Option Int → Hp → VK → Prop := fun x lo hi H Q => rSlL K x lo hi H Q ∨ rSlA K x lo hi H Q ∨ rSlS x lo hi H Q
theorem sl_U (K : PySem.W.Frag) (h : X.K = K := by rfl) : SlR X (rSlU K) := SlR.or (sl_listK K h) (SlR.or (sl_tupAK K h) sl_str)
def rLenD : List V → Hp → VK → Prop := fun xs H Q => ∃ a kvs, xs = [V.ref a] ∧ Rd H a (.dK kvs) ∧ Q (.int kvs.length) H
theorem call_lenDR : CallR X (.builtin "len") rLenD := by
  intro pins s σ H xs us Q I r h
  obtain ⟨a, kvs, rfl, ha, q⟩ := h
  obtain ⟨u, rfl, ru⟩ := vals1 r
  cases ru
  exact d_len I ha fun t s' I' => ⟨.int kvs.length, H, I', ⟨t, rfl⟩, q⟩
def rLenS : List V → Hp → VK → Prop := fun xs H Q => ∃ z, xs = [.str z] ∧ z.length ≤ sizeLine ∧ Q (.int z.length) H
def rLenU (K : PySem.W.Frag) : List V → Hp → VK → Prop := fun xs H Q => rLenSq K xs H Q ∨ rLenS xs H Q ∨ rLenD xs H Q
theorem call_lenU (K : PySem.W.Frag) (h : X.K = K := by rfl) : CallR X (.builtin "len") (rLenU K) := CallR.or (call_len_seqK K h) (CallR.or call_len_str call_lenDR)
end
end Kn
set_option Elab.async false
set_option maxRecDepth 100000
set_option linter.all false
set_option autoImplicit false
namespace Kn
open PySem L2
abbrev TDE := PSt → (Rv → PSt → Prop) → Prop
abbrev TDT := PSt → (Bool → PSt → Prop) → Prop
abbrev TDA := PSt → (List Rv → PSt → Prop) → Prop
abbrev TDN := PSt → (List D → PSt → Prop) → Prop
abbrev TDK := PSt → (List (Key × D) → PSt → Prop) → Prop
structure DEnds where
  nx : PSt → Prop
  rt : D → Wd → Prop
  bk : PSt → Prop := fun _ => False
  ct : PSt → Prop := fun _ => False
  rn : List D → Wd → Prop := fun _ _ => False
abbrev TDS := DEnds → PSt → Prop
abbrev TDG := D → PSt → (PSt → Prop) → Prop
abbrev TDGs := List D → PSt → (PSt → Prop) → Prop
def tms : List V → List Rv → List Tm
  | v :: vs, r :: rs => .v v r :: tms vs rs
  | _, _ => []
structure Lnk (K : PySem.W.Frag) (e : Ent) (T : List Tm) (Ed : DEnds) (E : Ends) : Prop where
  nx : ∀ S σ H, Ed.nx S → R K e σ H S T → E.nx σ H
  rt : ∀ d S σ v H, Ed.rt d S.W → R K e σ H S (.v v (.d d) :: T) → E.rt v H
  bk : ∀ S σ H, Ed.bk S → R K e σ H S T → E.bk σ H
  ct : ∀ S σ H, Ed.ct S → R K e σ H S T → E.ct σ H
  rn : ∀ ds S σ l H, Ed.rn ds S.W → RN K e σ H S T l ds → E.rt (.ref l) H
class SimE (K : PySem.W.Frag) (e : Ent) (te : TE) (t : outParam TDE) : Prop where
  run : ∀ (σ : St) (H : Hp) (S : PSt) (T : List Tm) (Qd : Rv → PSt → Prop) (Q : VK), R K e σ H S T → t S Qd → (∀ r S' v H', Qd r S' → R K e σ H' S' (.v v r :: T) → Q v H') → te σ H Q
class SimT (K : PySem.W.Frag) (e : Ent) (te : TT) (t : outParam TDT) : Prop where
  run : ∀ (σ : St) (H : Hp) (S : PSt) (T : List Tm) (Qd : Bool → PSt → Prop) (Q : Bool → Hp → Prop), R K e σ H S T → t S Qd → (∀ b S' H', Qd b S' → R K e σ H' S' T → Q b H') → te σ H Q
class SimA (K : PySem.W.Frag) (e : Ent) (ta : TA) (t : outParam TDA) : Prop where
  run : ∀ (σ : St) (H : Hp) (S : PSt) (T : List Tm) (Qd : List Rv → PSt → Prop) (Q : List V → Hp → Prop), R K e σ H S T → t S Qd → (∀ rs S' vs H', Qd rs S' → vs.length = rs.length → R K e σ H' S' (tms vs rs ++ T) → Q vs H') → ta σ H Q
class SimN (K : PySem.W.Frag) (e : Ent) (te : TE) (t : outParam TDN) : Prop where
  run : ∀ (σ : St) (H : Hp) (S : PSt) (T : List Tm) (Qd : List D → PSt → Prop) (Q : VK), R K e σ H S T → t S Qd → (∀ ds S' l H', Qd ds S' → RN K e σ H' S' T l ds → Q (.ref l) H') → te σ H Q
class SimK (K : PySem.W.Frag) (e : Ent) (te : TE) (t : outParam TDK) : Prop where
  run : ∀ (σ : St) (H : Hp) (S : PSt) (T : List Tm) (Qd : List (Key × D) → PSt → Prop) (Q : VK), R K e σ H S T → t S Qd → (∀ ds S' l H', Qd ds S' → RNd K e σ H' S' T l ds → Q (.ref l) H') → te σ H Q
class SimS (K : PySem.W.Frag) (e : Ent) (ts : TS) (t : outParam TDS) : Prop where
  run : ∀ (σ : St) (H : Hp) (S : PSt) (T : List Tm) (Ed : DEnds) (E : Ends), NoOwn T → R K e σ H S T → t Ed S → Lnk K e T Ed E → ts E σ H
class SimG (K : PySem.W.Frag) (e : Ent) (g : TG) (t : outParam TDG) : Prop where
  run : ∀ (v : V) (d : D) (σ : St) (H : Hp) (S : PSt) (T : List Tm) (Qd : PSt → Prop) (Q : St → Hp → Prop), NoOwn T → R K e σ H S (.v v (.d d) :: T) → t d S Qd → (∀ S' σ' H', Qd S' → R K e σ' H' S' T → Q σ' H') → g v σ H Q
class SimGs (K : PySem.W.Frag) (e : Ent) (g : TGs) (t : outParam TDGs) : Prop where
  run : ∀ (vs : List V) (ds : List D) (σ : St) (H : Hp) (S : PSt) (T : List Tm) (Qd : PSt → Prop) (Q : St → Hp → Prop), NoOwn T → vs.length = ds.length → R K e σ H S (tms vs (ds.map .d) ++ T) → t ds S Qd → (∀ S' σ' H', Qd S' → R K e σ' H' S' T → Q σ' H') → g vs σ H Q
class SimO (K : PySem.W.Frag) (e : Ent) (r : R2) (o : outParam (PSt → Rv → Rv → (D → PSt → Prop) → Prop)) : Prop where
  run : ∀ (σ : St) (H : Hp) (S : PSt) (T : List Tm) (x y : V) (rx ry : Rv) (Qd : D → PSt → Prop) (Q : VK), R K e σ H S (.v y ry :: .v x rx :: T) → o S rx ry Qd → (∀ d S' v H', Qd d S' → R K e σ H' S' (.v v (.d d) :: T) → Q v H') → r x y H Q
class SimC (K : PySem.W.Frag) (e : Ent) (r : List V → Hp → VK → Prop) (o : outParam (PSt → List Rv → (D → PSt → Prop) → Prop)) : Prop where
  run : ∀ (σ : St) (H : Hp) (S : PSt) (T : List Tm) (vs : List V) (rs : List Rv) (Qd : D → PSt → Prop) (Q : VK), vs.length = rs.length → R K e σ H S (tms vs rs ++ T) → o S rs Qd → (∀ d S' v H', Qd d S' → R K e σ H' S' (.v v (.d d) :: T) → Q v H') → r vs H Q
class SimCN (K : PySem.W.Frag) (e : Ent) (r : List V → Hp → VK → Prop) (o : outParam (PSt → List Rv → (List D → PSt → Prop) → Prop)) : Prop where
  run : ∀ (σ : St) (H : Hp) (S : PSt) (T : List Tm) (vs : List V) (rs : List Rv) (Qd : List D → PSt → Prop) (Q : VK), vs.length = rs.length → R K e σ H S (tms vs rs ++ T) → o S rs Qd → (∀ ds S' l H', Qd ds S' → RN K e σ H' S' T l ds → Q (.ref l) H') → r vs H Q
def PSt.set (S : PSt) (i : Nat) (c : PC) : PSt := ⟨S.ρ.set i (some c), S.W⟩
def derefD (S : PSt) : Rv → Option D
  | .d (.ref a) => match S.W.ω a with
    | some (.lst ds) => some (.lst ds)
    | some (.dct ks) => some (.dct ks)
    | some (.lk _ _ ks) => some (.dct ks)
    | some (.ins C fs) => some (.obj C fs)
    | some (.dtn _ _ _) => some (.ref a)
    | none => some (.ref a)
  | .d d => some d
  | .own j => match S.ρ[j]? with
    | some (some (.val (.ref _))) => none
    | some (some (.val d)) => some d
    | some (some (.ownL ds)) => some (.lst ds)
    | some (some (.ownD ks)) => some (.dct ks)
    | _ => none
def Vw (K : PySem.W.Frag) (Tp U : Addr → Prop) (H : Hp) (v : V) : D → Prop
  | .tup ds => ∃ a xs, v = .ref a ∧ SqT K (Hd U H) a xs ∧ DvL K Tp (Hd U H) xs ds
  | .lst ds => ∃ a xs, v = .ref a ∧ H a = some (.lst xs) ∧ DvL K Tp (Hd U H) xs ds
  | .dct ks => ∃ a xs, v = .ref a ∧ Rd H a (.dK xs) ∧ DvK K Tp (Hd U H) xs ks
  | .obj C fs => ∃ a dx xs, v = .ref a ∧ H a = some (.ins C dx xs) ∧ DvF K Tp (Hd U H) xs fs
  | d => Dv K Tp (Hd U H) v d
section
variable {K : PySem.W.Frag} {e : Ent} {σ : St} {H H' : Hp} {S : PSt} {T : List Tm} {U U' : Addr → Prop} {W' : Wd}
theorem Dv.vw {Tp : Addr → Prop} {v : V} : ∀ {d : D}, Dv K Tp (Hd U H) v d → Vw K Tp U H v d
  | .non, h => h
  | .bl _, h => h
  | .int _, h => h
  | .str _, h => h
  | .ty _, h => h
  | .tup _, .tup h t => ⟨_, _, rfl, h, t⟩
  | .lst _, .lst h t => ⟨_, _, rfl, Hd.sub _ _ h, t⟩
  | .dct _, .dct h t => ⟨_, _, rfl, Rd.same Hd.sub h, t⟩
  | .obj _ _, .obj h t => ⟨_, _, _, rfl, Hd.sub _ _ h, t⟩
  | .ref _, h => h
  | .tape, h => h
  | .scr, h => h
  | .exc _ _ _ _, h => h
theorem RU.vw (x : RU K e σ H S T U) {v : V} {r : Rv} {d : D} (h : TmOk K e U S H σ (.v v r)) (hd : derefD S r = some d) : Vw K S.W.Tp U H v d := by
  match r, h, hd with
  | .d (.ref a), h, hd =>
    have h : Dv K S.W.Tp (Hd U H) v (.ref a) := h
    cases h
    rw [derefD] at hd
    cases q : S.W.ω a with
    | none => rw [q] at hd; cases hd; exact .ref a
    | some c =>
      rw [q] at hd
      obtain ⟨_, k⟩ := x.wo.cell a c q
      match c, k, hd with
      | .lst ds, ⟨vs, h1, h2⟩, hd => cases hd; exact ⟨a, vs, rfl, h1, h2⟩
      | .dct ds, ⟨vs, h1, h2⟩, hd => cases hd; exact ⟨a, vs, rfl, .inl h1, h2⟩
      | .lk od vs ds, ⟨h1, h2⟩, hd => cases hd; exact ⟨a, vs, rfl, .inr ⟨od, h1⟩, h2⟩
      | .ins C fs, ⟨dx, vs, h1, h2⟩, hd => cases hd; exact ⟨a, dx, vs, rfl, h1, h2⟩
      | .dtn _ _ _, _, hd => cases hd; exact .ref a
  | .d .non, h, hd => cases hd; exact Dv.vw h
  | .d (.bl _), h, hd => cases hd; exact Dv.vw h
  | .d (.int _), h, hd => cases hd; exact Dv.vw h
  | .d (.str _), h, hd => cases hd; exact Dv.vw h
  | .d (.ty _), h, hd => cases hd; exact Dv.vw h
  | .d (.tup _), h, hd => cases hd; exact Dv.vw h
  | .d (.lst _), h, hd => cases hd; exact Dv.vw h
  | .d (.dct _), h, hd => cases hd; exact Dv.vw h
  | .d (.obj _ _), h, hd => cases hd; exact Dv.vw h
  | .d .tape, h, hd => cases hd; exact Dv.vw h
  | .d .scr, h, hd => cases hd; exact Dv.vw h
  | .d (.exc _ _ _ _), h, hd => cases hd; exact Dv.vw h
  | .own j, h, hd =>
    have h : σ[j]? = some (some v) := h
    rw [derefD] at hd
    cases q : S.ρ[j]? with
    | none => rw [q] at hd; cases hd
    | some c =>
      cases c with
      | none => rw [q] at hd; cases hd
      | some c =>
        obtain ⟨v', h1, h2⟩ := x.slot j c q
        rw [h] at h1; cases h1
        rw [q] at hd
        match c, h2, hd with
        | .val d', h2, hd =>
          have e1 : d = d' := by
            cases d' <;> simp at hd <;> first | exact hd.symm | exact absurd hd (by intro z; cases z)
          subst e1
          exact Dv.vw h2
        | .ownL ds, ⟨l, vs, e1, _, h1, h2⟩, hd => cases hd; exact ⟨l, vs, e1, h1, h2⟩
        | .ownD ds, ⟨l, vs, e1, _, h1, h2⟩, hd => cases hd; exact ⟨l, vs, e1, .inl h1, h2⟩
def frc : Rv → PSt → (D → PSt → Prop) → Prop
  | .d d, S, Q => Q d S
  | .own j, S, Q => match S.ρ[j]? with
    | some (some (.val d)) => Q d S
    | some (some (.ownL ds)) => Q (.lst ds) (S.set j (.val (.lst ds)))
    | some (some (.ownD ks)) => Q (.dct ks) (S.set j (.val (.dct ks)))
    | _ => False
def frcL : List Rv → PSt → (List D → PSt → Prop) → Prop
  | [], S, Q => Q [] S
  | r :: rs, S, Q => frc r S fun d S1 => frcL rs S1 fun ds S2 => Q (d :: ds) S2
theorem R.frc {v : V} {r : Rv} {Qd : D → PSt → Prop} {C : Prop} (x : R K e σ H S (.v v r :: T)) (h : Kn.frc r S Qd) (k : ∀ d S', Qd d S' → R K e σ H S' (.v v (.d d) :: T) → C) : C := by
  match r, x, h with
  | .d d, x, h => exact k d S h x
  | .own j, ⟨U, x⟩, h =>
    have hs : σ[j]? = some (some v) := x.tmp (.v v (.own j)) (by simp)
    have xt := x.less (T' := T) fun p hp => List.mem_cons_of_mem _ hp
    rw [Kn.frc] at h
    cases q : S.ρ[j]? with
    | none => rw [q] at h; exact h.elim
    | some c =>
      cases c with
      | none => rw [q] at h; exact h.elim
      | some c =>
        obtain ⟨v', h1, h2⟩ := x.slot j c q
        rw [hs] at h1; cases h1
        rw [q] at h
        match c, h2, h with
        | .val d, h2, h => exact k d S h ⟨U, xt.push h2⟩
        | .ownL ds, ⟨l, vs, e1, ow, h1, h3⟩, h =>
          subst e1
          have hd : Dv K S.W.Tp (Hd (fun b => U b ∧ b ≠ l) H) (.ref l) (.lst ds) := .lst (Hd.get h1 fun z => z.2 rfl) (DvL.le (Same.lq Hd.less) (fun _ z => z) h3)
          exact k _ _ h ⟨_, (xt.freeze q trivial hs ow hd).push hd⟩
        | .ownD ds, ⟨l, vs, e1, ow, h1, h3⟩, h =>
          subst e1
          have hd : Dv K S.W.Tp (Hd (fun b => U b ∧ b ≠ l) H) (.ref l) (.dct ds) := .dct (.inl (Hd.get h1 fun z => z.2 rfl)) (DvK.le (Same.lq Hd.less) (fun _ z => z) h3)
          exact k _ _ h ⟨_, (xt.freeze q trivial hs ow hd).push hd⟩
theorem R.frcL : ∀ {vs : List V} {rs : List Rv} {S : PSt} {T : List Tm} {Qd : List D → PSt → Prop} {C : Prop}, vs.length = rs.length → R K e σ H S (tms vs rs ++ T) → Kn.frcL rs S Qd → (∀ ds S', Qd ds S' → vs.length = ds.length → R K e σ H S' (tms vs (ds.map .d) ++ T) → C) → C
  | [], [], S, T, Qd, C, _, x, h, k => k [] S h rfl x
  | v :: vs, r :: rs, S, T, Qd, C, hl, x, h, k => by
    refine R.frc (v := v) (r := r) (T := tms vs rs ++ T) x h fun d S1 h1 x1 => ?_
    have x1' : R K e σ H S1 (tms vs rs ++ (.v v (.d d) :: T)) := x1.less fun p hp => by
      rcases List.mem_append.mp hp with hp | hp
      · exact List.mem_cons_of_mem _ (List.mem_append_left _ hp)
      · rcases List.mem_cons.mp hp with rfl | hp
        · exact List.mem_cons_self
        · exact List.mem_cons_of_mem _ (List.mem_append_right _ hp)
    refine R.frcL (by simpa using hl) x1' h1 fun ds S2 h2 hl2 x2 => k (d :: ds) S2 h2 (by simp [hl2]) (x2.less fun p hp => ?_)
    rcases List.mem_cons.mp hp with rfl | hp
    · exact List.mem_append_right _ List.mem_cons_self
    · rcases List.mem_append.mp hp with hp | hp
      · exact List.mem_append_left _ hp
      · exact List.mem_append_right _ (List.mem_cons_of_mem _ hp)
theorem RU.tms : ∀ {vs : List V} {ds : List D}, vs.length = ds.length → RU K e σ H S (Kn.tms vs (ds.map .d) ++ T) U → DvL K S.W.Tp (Hd U H) vs ds
  | [], [], _, _ => .nil
  | v :: vs, d :: ds, h, x => .cons (x.tmp (.v v (.d d)) (by simp [Kn.tms])) (RU.tms (by simpa using h) (x.less fun p hp => List.mem_cons_of_mem _ hp))
theorem R.tail {T1 : List Tm} (x : R K e σ H S (T1 ++ T)) : R K e σ H S T := x.less fun _ h => List.mem_append_right _ h
end
end Kn
set_option Elab.async false
set_option maxRecDepth 100000
set_option linter.all false
set_option autoImplicit false
namespace Kn
open PySem L2
section
variable {K : PySem.W.Frag} {e : Ent}
theorem big_of {n : Nat} (h : n ≤ 1000000) : n ≤ sizeLine := Nat.le_trans h (by decide)
theorem bigl_of {n : Nat} (h : n ≤ 1000000) : n < sizeLine := Nat.lt_of_le_of_lt h (by decide)
def tdVar (i : Nat) : TDE := fun S Q => match S.ρ[i]? with
  | some (some (.val d)) => Q (.d d) S
  | some (some (.ownL _)) => Q (.own i) S
  | some (some (.ownD _)) => Q (.own i) S
  | _ => False
instance simVar {i : Nat} : SimE K e (tVar i) (tdVar i) := ⟨fun σ H S T Qd Q ⟨U, x⟩ h k => by
  unfold tdVar at h
  cases q : S.ρ[i]? with
  | none => rw [q] at h; exact h.elim
  | some c =>
    cases c with
    | none => rw [q] at h; exact h.elim
    | some c =>
      obtain ⟨v, h1, h2⟩ := x.slot i c q
      rw [q] at h
      refine ⟨v, h1, ?_⟩
      match c, h2, h with
      | .val d, h2, h => exact k _ _ _ _ h ⟨U, x.push h2⟩
      | .ownL ds, h2, h => exact k _ _ _ _ h ⟨U, x.push h1⟩
      | .ownD ds, h2, h => exact k _ _ _ _ h ⟨U, x.push h1⟩⟩
def tdC (d : D) : TDE := fun S Q => Q (.d d) S
theorem simC_ {v : V} {d : D} (hv : ∀ (Tp : Addr → Prop) (H : Hp), Dv K Tp H v d) : SimE K e (tC v) (tdC d) := ⟨fun σ H S T Qd Q ⟨U, x⟩ h k => k _ _ _ _ h ⟨U, x.push (hv _ _)⟩⟩
instance simNon : SimE K e (tC .non) (tdC .non) := simC_ fun _ _ => .non
instance simBl {b : Bool} : SimE K e (tC (.bl b)) (tdC (.bl b)) := simC_ fun _ _ => .bl b
instance simInt {i : Int} : SimE K e (tC (.int i)) (tdC (.int i)) := simC_ fun _ _ => .int i
instance simStr {x : Str} : SimE K e (tC (.str x)) (tdC (.str x)) := simC_ fun _ _ => .str x
instance simTy {x : String} : SimE K e (tC (.ty x)) (tdC (.ty x)) := simC_ fun _ _ => .ty x
def tdOp (o : PSt → Rv → Rv → (D → PSt → Prop) → Prop) (ta tb : TDE) : TDE := fun S Q => ta S fun x S1 => tb S1 fun y S2 => o S2 x y fun d S3 => Q (.d d) S3
instance simOp {r : R2} {o : PSt → Rv → Rv → (D → PSt → Prop) → Prop} {ta tb : TE} {ta' tb' : TDE} [ha : SimE K e ta ta'] [hb : SimE K e tb tb'] [ho : SimO K e r o] : SimE K e (tOp r ta tb) (tdOp o ta' tb') := ⟨fun σ H S T Qd Q x h k => by
  refine ha.run σ H S T _ _ x h fun r1 S1 v1 H1 h1 x1 => ?_
  refine hb.run σ H1 S1 _ _ _ x1 h1 fun r2 S2 v2 H2 h2 x2 => ?_
  exact ho.run σ H2 S2 T v1 v2 r1 r2 _ _ x2 h2 fun d S3 v H3 h3 x3 => k _ _ _ _ h3 x3⟩
def tdNil : TDA := fun S Q => Q [] S
def tdCons (ta : TDE) (tr : TDA) : TDA := fun S Q => ta S fun r S1 => tr S1 fun rs S2 => Q (r :: rs) S2
instance simNil : SimA K e tNil tdNil := ⟨fun σ H S T Qd Q x h k => k _ _ _ _ h rfl x⟩
instance simCons {ta : TE} {tr : TA} {ta' : TDE} {tr' : TDA} [ha : SimE K e ta ta'] [hb : SimA K e tr tr'] : SimA K e (tCons ta tr) (tdCons ta' tr') := ⟨fun σ H S T Qd Q x h k => by
  refine ha.run σ H S T _ _ x h fun r1 S1 v1 H1 h1 x1 => ?_
  refine hb.run σ H1 S1 _ _ _ x1 h1 fun rs S2 vs H2 h2 hl x2 => ?_
  refine k _ _ _ _ h2 (by simp [hl]) (x2.less fun p hp => ?_)
  rcases List.mem_cons.mp hp with rfl | hp
  · exact List.mem_append_right _ List.mem_cons_self
  · rcases List.mem_append.mp hp with hp | hp
    · exact List.mem_append_left _ hp
    · exact List.mem_append_right _ (List.mem_cons_of_mem _ hp)⟩
theorem RU.newT {σ : St} {H : Hp} {S : PSt} {T : List Tm} {U : Addr → Prop} (x : RU K e σ H S T U) {p : Addr} {vs : List V} {ds : List D} (hp : H p = none) (hv : DvL K S.W.Tp (Hd U H) vs ds) : R K e σ (upd H p (.tup vs)) S (.v (.ref p) (.d (.tup ds)) :: T) :=
  ⟨U, (x.alloc hp).push (.tup (SqT.of (Hd.get upd_same (x.fresh hp))) (DvL.le (Same.lq (same_upd hp)) (fun _ z => z) hv))⟩
def tdTup (ta : TDA) : TDE := fun S Q => ta S fun rs S1 => frcL rs S1 fun ds S2 => ds.length ≤ 1000000 ∧ Q (.d (.tup ds)) S2
instance simTup {ta : TA} {ta' : TDA} [ha : SimA K e ta ta'] : SimE K e (tTup ta) (tdTup ta') := ⟨fun σ H S T Qd Q x h k => by
  refine ha.run σ H S T _ _ x h fun rs S1 vs H1 h1 hl x1 => ?_
  refine R.frcL hl x1 h1 fun ds S2 h2 hl2 x2 => ?_
  obtain ⟨U, x2⟩ := x2
  refine ⟨big_of (by rw [hl2]; exact h2.1), fun p hp => k _ _ _ _ h2.2 ?_⟩
  exact (x2.less fun q hq => List.mem_append_right _ hq).newT hp (RU.tms hl2 x2)⟩
def tnLst (ta : TDA) : TDN := fun S Q => ta S fun rs S1 => frcL rs S1 fun ds S2 => ds.length ≤ 1000000 ∧ Q ds S2
instance simLst {ta : TA} {ta' : TDA} [ha : SimA K e ta ta'] : SimN K e (tLst ta) (tnLst ta') := ⟨fun σ H S T Qd Q x h k => by
  refine ha.run σ H S T _ _ x h fun rs S1 vs H1 h1 hl x1 => ?_
  refine R.frcL hl x1 h1 fun ds S2 h2 hl2 x2 => ?_
  obtain ⟨U, x2⟩ := x2
  refine ⟨big_of (by rw [hl2]; exact h2.1), fun p hp => k _ _ _ _ h2.2 ?_⟩
  exact (x2.less fun q hq => List.mem_append_right _ hq).newL hp (RU.tms hl2 x2)⟩
def tdFrz (t : TDN) : TDE := fun S Q => t S fun ds S1 => Q (.d (.lst ds)) S1
instance (priority := low) simFrz {te : TE} {t : TDN} [h : SimN K e te t] : SimE K e te (tdFrz t) := ⟨fun σ H S T Qd Q x ht k => h.run σ H S T _ _ x ht fun ds S1 l H1 h1 x1 => k _ _ _ _ h1 x1.frozen⟩
def tdFrzK (t : TDK) : TDE := fun S Q => t S fun ds S1 => Q (.d (.dct ds)) S1
instance (priority := low) simFrzK {te : TE} {t : TDK} [h : SimK K e te t] : SimE K e te (tdFrzK t) := ⟨fun σ H S T Qd Q x ht k => h.run σ H S T _ _ x ht fun ds S1 l H1 h1 x1 => k _ _ _ _ h1 x1.frozen⟩
def tkNew : TDK := fun S Q => Q [] S
instance simDNew : SimK K e tDNewK tkNew := ⟨fun σ H S T Qd Q ⟨U, x⟩ h k => fun p hp => k _ _ _ _ h (x.newD hp .nil)⟩
def asB (r : Rv) (F : Bool → Prop) : Prop := match r with
  | .d (.bl b) => F b
  | _ => False
def tdTest (t : TDE) : TDT := fun S Q => t S fun r S1 => asB r fun b => Q b S1
theorem simTest_ {te : TE} {t : TDE} (h : SimE K e te t) {σ : St} {H : Hp} {S : PSt} {T : List Tm} {Qd : Bool → PSt → Prop} {Q : Bool → Hp → Prop} (x : R K e σ H S T) (ht : tdTest t S Qd) (k : ∀ b S' H', Qd b S' → R K e σ H' S' T → Q b H') : te σ H fun v H' => ∃ b, v = .bl b ∧ Q b H' := by
  refine h.run σ H S T _ _ x ht fun r S1 v H1 h1 x1 => ?_
  match r, h1, x1 with
  | .d (.bl b), h1, ⟨U, x1⟩ =>
    have hv : Dv K S1.W.Tp (Hd U H1) v (.bl b) := x1.tmp (.v v (.d (.bl b))) (by simp)
    cases hv
    exact ⟨b, rfl, k _ _ _ h1 (R.pop ⟨U, x1⟩)⟩
instance simTB {te : TE} {t : TDE} [h : SimE K e te t] : SimT K e (tB te) (tdTest t) := ⟨fun σ H S T Qd Q x ht k => simTest_ h x ht k⟩
instance simTT {te : TE} {t : TDE} [h : SimE K e te t] : SimT K e (tTest te) (tdTest t) := ⟨fun σ H S T Qd Q x ht k => simTest_ h x ht k⟩
def tdAnd (t u : TDT) : TDT := fun S Q => t S fun c S1 => if c = true then u S1 Q else Q false S1
def tdOr (t u : TDT) : TDT := fun S Q => t S fun c S1 => if c = true then Q true S1 else u S1 Q
def tdNot (t : TDT) : TDT := fun S Q => t S fun c S1 => Q (!c) S1
instance simAnd {t u : TT} {t' u' : TDT} [h1 : SimT K e t t'] [h2 : SimT K e u u'] : SimT K e (tAnd t u) (tdAnd t' u') := ⟨fun σ H S T Qd Q x h k => by
  refine h1.run σ H S T _ _ x h fun c S1 H1 hc x1 => ?_
  cases c
  · exact k _ _ _ hc x1
  · exact h2.run σ H1 S1 T _ _ x1 hc k⟩
instance simOr {t u : TT} {t' u' : TDT} [h1 : SimT K e t t'] [h2 : SimT K e u u'] : SimT K e (tOr t u) (tdOr t' u') := ⟨fun σ H S T Qd Q x h k => by
  refine h1.run σ H S T _ _ x h fun c S1 H1 hc x1 => ?_
  cases c
  · exact h2.run σ H1 S1 T _ _ x1 hc k
  · exact k _ _ _ hc x1⟩
instance simNot {t : TT} {t' : TDT} [h1 : SimT K e t t'] : SimT K e (tNot t) (tdNot t') := ⟨fun σ H S T Qd Q x h k => h1.run σ H S T _ _ x h fun c S1 H1 hc x1 => k _ _ _ hc x1⟩
def tdYes : TDT := fun S Q => Q true S
instance simYes : SimT K e tYes tdYes := ⟨fun σ H S T Qd Q x h k => k _ _ _ h x⟩
def tdAndV (ta tb : TDE) : TDE := fun S Q => tdTest ta S fun c S1 => if c = true then tb S1 Q else Q (.d (.bl false)) S1
def tdNotV (ta : TDE) : TDE := fun S Q => tdTest ta S fun c S1 => Q (.d (.bl (!c))) S1
instance simAndV {t u : TE} {t' u' : TDE} [h1 : SimE K e t t'] [h2 : SimE K e u u'] : SimE K e (tAndV t u) (tdAndV t' u') := ⟨fun σ H S T Qd Q x h k => by
  refine simTest_ h1 x h fun c S1 H1 hc x1 => ?_
  cases c
  · obtain ⟨U, x1⟩ := x1
    exact k _ _ _ _ hc ⟨U, x1.push (.bl false)⟩
  · exact h2.run σ H1 S1 T _ _ x1 hc k⟩
instance simNotV {t : TE} {t' : TDE} [h1 : SimE K e t t'] : SimE K e (tNotV t) (tdNotV t') := ⟨fun σ H S T Qd Q x h k => by
  refine simTest_ h1 x h fun c S1 H1 hc x1 => ?_
  obtain ⟨U, x1⟩ := x1
  exact k _ _ _ _ hc ⟨U, x1.push (.bl (!c))⟩⟩
def tdCB (o : PSt → List Rv → (D → PSt → Prop) → Prop) (t : TDA) : TDE := fun S Q => t S fun rs S1 => o S1 rs fun d S2 => Q (.d d) S2
instance simCB {r : List V → Hp → VK → Prop} {o : PSt → List Rv → (D → PSt → Prop) → Prop} {t : TA} {t' : TDA} [h1 : SimA K e t t'] [h2 : SimC K e r o] : SimE K e (tCB r t) (tdCB o t') := ⟨fun σ H S T Qd Q x h k => by
  refine h1.run σ H S T _ _ x h fun rs S1 vs H1 hc hl x1 => ?_
  exact h2.run σ H1 S1 T vs rs _ _ hl x1 hc fun d S2 v H2 h2 x2 => k _ _ _ _ h2 x2⟩
def tnCB (o : PSt → List Rv → (List D → PSt → Prop) → Prop) (t : TDA) : TDN := fun S Q => t S fun rs S1 => o S1 rs Q
instance simCBN {r : List V → Hp → VK → Prop} {o : PSt → List Rv → (List D → PSt → Prop) → Prop} {t : TA} {t' : TDA} [h1 : SimA K e t t'] [h2 : SimCN K e r o] : SimN K e (tCB r t) (tnCB o t') := ⟨fun σ H S T Qd Q x h k => by
  refine h1.run σ H S T _ _ x h fun rs S1 vs H1 hc hl x1 => ?_
  exact h2.run σ H1 S1 T vs rs _ _ hl x1 hc fun ds S2 l H2 h2 x2 => k _ _ _ _ h2 x2⟩
end
end Kn
set_option Elab.async false
set_option maxRecDepth 100000
set_option linter.all false
set_option autoImplicit false
namespace Kn
open PySem L2
section
variable {K : PySem.W.Frag} {e : Ent}
theorem R.two {σ : St} {H : Hp} {S : PSt} {T : List Tm} {x y : V} {rx ry : Rv} {a b : D} (w : R K e σ H S (.v y ry :: .v x rx :: T)) (ha : derefD S rx = some a) (hb : derefD S ry = some b) :
    ∃ U, RU K e σ H S T U ∧ Vw K S.W.Tp U H x a ∧ Vw K S.W.Tp U H y b ∧ RU K e σ H S (.v y ry :: .v x rx :: T) U := by
  obtain ⟨U, w⟩ := w
  exact ⟨U, w.less fun p hp => by simp [hp], w.vw (w.tmp (.v x rx) (by simp)) ha, w.vw (w.tmp (.v y ry) (by simp)) hb, w⟩
theorem R.one {σ : St} {H : Hp} {S : PSt} {T : List Tm} {x : V} {rx : Rv} {a : D} (w : R K e σ H S (.v x rx :: T)) (ha : derefD S rx = some a) :
    ∃ U, RU K e σ H S T U ∧ Vw K S.W.Tp U H x a ∧ RU K e σ H S (.v x rx :: T) U := by
  obtain ⟨U, w⟩ := w
  exact ⟨U, w.less fun p hp => by simp [hp], w.vw (w.tmp (.v x rx) (by simp)) ha, w⟩
theorem Vw.int {Tp U : Addr → Prop} {H : Hp} {v : V} {i : Int} (h : Vw K Tp U H v (.int i)) : v = .int i := by
  have h : Dv K Tp (Hd U H) v (.int i) := h
  cases h; rfl
theorem Vw.str {Tp U : Addr → Prop} {H : Hp} {v : V} {i : Str} (h : Vw K Tp U H v (.str i)) : v = .str i := by
  have h : Dv K Tp (Hd U H) v (.str i) := h
  cases h; rfl
theorem Vw.bl {Tp U : Addr → Prop} {H : Hp} {v : V} {i : Bool} (h : Vw K Tp U H v (.bl i)) : v = .bl i := by
  have h : Dv K Tp (Hd U H) v (.bl i) := h
  cases h; rfl
theorem Vw.non {Tp U : Addr → Prop} {H : Hp} {v : V} (h : Vw K Tp U H v .non) : v = .non := by
  have h : Dv K Tp (Hd U H) v .non := h
  cases h; rfl
theorem Vw.ty {Tp U : Addr → Prop} {H : Hp} {v : V} {n : String} (h : Vw K Tp U H v (.ty n)) : v = .ty n := by
  have h : Dv K Tp (Hd U H) v (.ty n) := h
  cases h; rfl
def dd2 (S : PSt) (rx ry : Rv) (F : D → D → Prop) : Prop := match derefD S rx, derefD S ry with
  | some a, some b => F a b
  | _, _ => False
theorem dd2_inv {S : PSt} {rx ry : Rv} {F : D → D → Prop} (h : dd2 S rx ry F) : ∃ a b, derefD S rx = some a ∧ derefD S ry = some b ∧ F a b := by
  unfold dd2 at h
  cases ha : derefD S rx with
  | none => rw [ha] at h; exact h.elim
  | some a =>
    cases hb : derefD S ry with
    | none => rw [ha, hb] at h; exact h.elim
    | some b => rw [ha, hb] at h; exact ⟨a, b, rfl, rfl, h⟩
def dd1 (S : PSt) (rx : Rv) (F : D → Prop) : Prop := match derefD S rx with
  | some a => F a
  | _ => False
theorem dd1_inv {S : PSt} {rx : Rv} {F : D → Prop} (h : dd1 S rx F) : ∃ a, derefD S rx = some a ∧ F a := by
  unfold dd1 at h
  cases ha : derefD S rx with
  | none => rw [ha] at h; exact h.elim
  | some a => rw [ha] at h; exact ⟨a, rfl, h⟩
def addF (Q : D → Prop) : D → D → Prop
  | .int i, .int j => Q (.int (i + j))
  | .str a, .str b => a.length + b.length ≤ 1000000 ∧ Q (.str (a ++ b))
  | .tup a, .tup b => a.length + b.length ≤ 1000000 ∧ Q (.tup (a ++ b))
  | .lst a, .lst b => a.length + b.length ≤ 1000000 ∧ Q (.lst (a ++ b))
  | _, _ => False
def addD (S : PSt) (rx ry : Rv) (Q : D → PSt → Prop) : Prop := dd2 S rx ry (addF fun d => Q d S)
instance simAdd : SimO K e (rAddU K) addD := ⟨fun σ H S T x y rx ry Qd Q w h k => by
  obtain ⟨a, b, ha, hb, h⟩ := dd2_inv h
  obtain ⟨U, wT, vx, vy, w2⟩ := w.two ha hb
  match a, b, h, vx, vy with
  | .int i, .int j, h, vx, vy =>
    rw [vx.int, vy.int]
    exact .inl ⟨i, j, rfl, rfl, k _ _ _ _ h ⟨U, wT.push (.int _)⟩⟩
  | .str i, .str j, h, vx, vy =>
    rw [vx.str, vy.str]
    exact .inr (.inl ⟨i, j, rfl, rfl, big_of h.1, k _ _ _ _ h.2 ⟨U, wT.push (.str _)⟩⟩)
  | .lst ds, .lst es, h, ⟨p, xs, e1, h1, h2⟩, ⟨q, ys, e2, h3, h4⟩ =>
    subst e1 e2
    refine .inr (.inr (.inl ⟨p, q, xs, ys, rfl, rfl, h1, h3, big_of (by rw [h2.len, h4.len]; exact h.1), fun l hl => k _ _ _ _ h.2 ?_⟩))
    exact (wT.newL hl (h2.app h4)).frozen
  | .tup ds, .tup es, h, ⟨p, xs, e1, h1, h2⟩, ⟨q, ys, e2, h3, h4⟩ =>
    subst e1 e2
    refine .inr (.inr (.inr ⟨p, q, xs, ys, rfl, rfl, SqT.same Hd.sub h1, SqT.same Hd.sub h3, big_of (by rw [h2.len, h4.len]; exact h.1), fun z => ?_, fun _ z => ?_, fun _ _ l hl => k _ _ _ _ h.2 (wT.newT hl (h2.app h4))⟩))
    · subst z
      have e0 : ds = [] := List.length_eq_zero_iff.mp h2.len.symm
      subst e0
      exact k _ _ _ _ h.2 ⟨U, wT.push (.tup h3 h4)⟩
    · subst z
      have e0 : es = [] := List.length_eq_zero_iff.mp h4.len.symm
      subst e0
      exact k _ _ _ _ h.2 ⟨U, wT.push (.tup h1 (by rw [List.append_nil]; exact h2))⟩⟩
def iiF (P : Int → Int → Prop) (f : Int → Int → D) (Q : D → Prop) : D → D → Prop
  | .int i, .int j => P i j ∧ Q (f i j)
  | _, _ => False
def iiD (P : Int → Int → Prop) (f : Int → Int → D) (S : PSt) (rx ry : Rv) (Q : D → PSt → Prop) : Prop := dd2 S rx ry (iiF P f fun d => Q d S)
theorem simII {r : R2} {P : Int → Int → Prop} {f : Int → Int → D} {g : Int → Int → V} (hg : ∀ i j (Tp : Addr → Prop) (H : Hp), Dv K Tp H (g i j) (f i j)) (hr : ∀ i j H (Q : VK), P i j → Q (g i j) H → r (.int i) (.int j) H Q) : SimO K e r (iiD P f) := ⟨fun σ H S T x y rx ry Qd Q w h k => by
  obtain ⟨a, b, ha, hb, h⟩ := dd2_inv h
  obtain ⟨U, wT, vx, vy, w2⟩ := w.two ha hb
  match a, b, h, vx, vy with
  | .int i, .int j, h, vx, vy =>
    rw [vx.int, vy.int]
    exact hr i j H Q h.1 (k _ _ _ _ h.2 ⟨U, wT.push (hg _ _ _ _)⟩)⟩
def rSubI : R2 := rI0 fun i j => .int (i - j)
theorem op_subU {X : Cx} : OpR X (binaryOp .Sub) rSubI := op_sub
abbrev subD := iiD (fun _ _ => True) fun i j => .int (i - j)
instance simSub : SimO K e rSubI subD := simII (fun _ _ _ _ => .int _) fun i j H Q _ q => ⟨i, j, rfl, rfl, q⟩
def rModI : R2 := rI (fun _ j => 0 < j) fun i j => .int (i % j)
theorem op_modU {X : Cx} : OpR X (binaryOp .Mod) rModI := op_mod
abbrev modD := iiD (fun _ j => 0 < j) fun i j => .int (i % j)
instance simMod : SimO K e rModI modD := simII (fun _ _ _ _ => .int _) fun i j H Q p q => ⟨i, j, rfl, rfl, p, q⟩
def rLtI : R2 := rI0 fun i j => .bl (decide (i < j))
def rLeI : R2 := rI0 fun i j => .bl (decide (i ≤ j))
def rGtI : R2 := rI0 fun i j => .bl (decide (j < i))
def rGeI : R2 := rI0 fun i j => .bl (decide (j ≤ i))
theorem op_ltU {X : Cx} : OpR X (compareOp .Lt) rLtI := op_lt
theorem op_leU {X : Cx} : OpR X (compareOp .LtE) rLeI := op_le
theorem op_gtU {X : Cx} : OpR X (compareOp .Gt) rGtI := op_gt
theorem op_geU {X : Cx} : OpR X (compareOp .GtE) rGeI := op_ge
abbrev ltD := iiD (fun _ _ => True) fun i j => .bl (decide (i < j))
abbrev leD := iiD (fun _ _ => True) fun i j => .bl (decide (i ≤ j))
abbrev gtD := iiD (fun _ _ => True) fun i j => .bl (decide (j < i))
abbrev geD := iiD (fun _ _ => True) fun i j => .bl (decide (j ≤ i))
instance simLt : SimO K e rLtI ltD := simII (fun _ _ _ _ => .bl _) fun i j H Q _ q => ⟨i, j, rfl, rfl, q⟩
instance simLe : SimO K e rLeI leD := simII (fun _ _ _ _ => .bl _) fun i j H Q _ q => ⟨i, j, rfl, rfl, q⟩
instance simGt : SimO K e rGtI gtD := simII (fun _ _ _ _ => .bl _) fun i j H Q _ q => ⟨i, j, rfl, rfl, q⟩
instance simGe : SimO K e rGeI geD := simII (fun _ _ _ _ => .bl _) fun i j H Q _ q => ⟨i, j, rfl, rfl, q⟩
def mulF (Q : D → Prop) : D → D → Prop
  | .int i, .int j => ((-(2 ^ 64) < i ∧ i < 2 ^ 64) ∨ (-(2 ^ 64) < j ∧ j < 2 ^ 64)) ∧ Q (.int (i * j))
  | .str a, .int j => 0 ≤ j ∧ a.length ≤ 1000 ∧ j ≤ 1000 ∧ Q (.str (repS a j.toNat))
  | _, _ => False
def mulD (S : PSt) (rx ry : Rv) (Q : D → PSt → Prop) : Prop := dd2 S rx ry (mulF fun d => Q d S)
instance simMul : SimO K e rMulU mulD := ⟨fun σ H S T x y rx ry Qd Q w h k => by
  obtain ⟨a, b, ha, hb, h⟩ := dd2_inv h
  obtain ⟨U, wT, vx, vy, w2⟩ := w.two ha hb
  match a, b, h, vx, vy with
  | .int i, .int j, h, vx, vy =>
    rw [vx.int, vy.int]
    exact .inl ⟨i, j, rfl, rfl, h.1, k _ _ _ _ h.2 ⟨U, wT.push (.int _)⟩⟩
  | .str i, .int j, ⟨h0, h1, h2, h3⟩, vx, vy =>
    rw [vx.str, vy.int]
    exact .inr (.inl ⟨i, j.toNat, rfl, by rw [Int.toNat_of_nonneg h0], h1, by omega, k _ _ _ _ h3 ⟨U, wT.push (.str _)⟩⟩)⟩
def toV : D → Option V
  | .non => some .non
  | .bl b => some (.bl b)
  | .int i => some (.int i)
  | .str x => some (.str x)
  | _ => none
def scD (a b : D) : Bool := match toV a, toV b with
  | some x, some y => scal x y
  | _, _ => false
def eqOk (a b : D) : Prop := scD a b = true ∨ ∃ c, okD c a = true ∧ okD c b = true ∧ dpD a ≤ 64 ∧ dpD b ≤ 64
theorem toV_inj : ∀ {a b : D} {x y : V}, toV a = some x → toV b = some y → (decide (x = y) = decide (a = b)) := by
  intro a b x y h1 h2
  cases a <;> simp [toV] at h1 <;> cases b <;> simp [toV] at h2 <;> subst h1 <;> subst h2 <;> simp
theorem Vw.dv0 {Tp U : Addr → Prop} {H : Hp} {v : V} {d : D} {x : V} (h : Vw K Tp U H v d) (e : toV d = some x) : v = x := by
  cases d <;> simp [toV] at e <;> subst e <;> first | exact Vw.non h | exact Vw.bl h | exact Vw.int h | exact Vw.str h
theorem Vw.dp {Tp U : Addr → Prop} {H : Hp} {v : V} {c : Bool} : ∀ {d : D}, Vw K Tp U H v d → okD c d = true → Dp K H v (toP d)
  | .non, h, g => Dv.dp Hd.sub (show Dv K Tp (Hd U H) v .non from h) g
  | .bl b, h, g => Dv.dp Hd.sub (show Dv K Tp (Hd U H) v (.bl b) from h) g
  | .int b, h, g => Dv.dp Hd.sub (show Dv K Tp (Hd U H) v (.int b) from h) g
  | .str b, h, g => Dv.dp Hd.sub (show Dv K Tp (Hd U H) v (.str b) from h) g
  | .ty b, h, g => by simp [okD] at g
  | .tup ds, ⟨a, xs, e1, h, t⟩, g => by rw [okD] at g; rw [toP, e1]; exact .tup (SqT.same Hd.sub h) (DvL.dp Hd.sub t g)
  | .lst ds, ⟨a, xs, e1, h, t⟩, g => by rw [okD] at g; rw [toP, e1]; exact .lst (SqL.of h) (DvL.dp Hd.sub t g)
  | .dct _, h, g => by simp [okD] at g
  | .obj _ _, h, g => by simp [okD] at g
  | .ref _, h, g => by simp [okD] at g
  | .tape, h, g => by simp [okD] at g
  | .scr, h, g => by simp [okD] at g
  | .exc _ _ _ _, h, g => by simp [okD] at g
def eqD (neg : Bool) (S : PSt) (rx ry : Rv) (Q : D → PSt → Prop) : Prop := dd2 S rx ry fun a b => eqOk a b ∧ Q (.bl (if neg then !decide (a = b) else decide (a = b))) S
theorem simEq_ {σ : St} {H : Hp} {S : PSt} {T : List Tm} {x y : V} {rx ry : Rv} {Qd : D → PSt → Prop} {neg : Bool} {C : Prop} (w : R K e σ H S (.v y ry :: .v x rx :: T)) (h : eqD neg S rx ry Qd)
    (k1 : ∀ b, scal x y = true → decide (x = y) = b → Qd (.bl (if neg then !b else b)) S → R K e σ H S T → C) (k2 : ∀ d d' b, Dp K H x d → Dp K H y d' → SeqAt.shaped d = true → SeqAt.shaped d' = true → PyData.eqv d d' = b → Qd (.bl (if neg then !b else b)) S → R K e σ H S T → C) : C := by
  obtain ⟨a, b, ha, hb, h0, h⟩ := dd2_inv h
  obtain ⟨U, wT, vx, vy, w2⟩ := w.two ha hb
  rcases h0 with h0 | ⟨c, h1, h2, h3, h4⟩
  · unfold scD at h0
    cases ea : toV a with
    | none => rw [ea] at h0; exact absurd h0 Bool.false_ne_true
    | some va =>
      cases eb : toV b with
      | none => rw [ea, eb] at h0; exact absurd h0 Bool.false_ne_true
      | some vb =>
        rw [ea, eb] at h0
        have e1 := vx.dv0 ea
        have e2 := vy.dv0 eb
        subst e1 e2
        exact k1 _ h0 rfl (by rw [toV_inj ea eb]; exact h) ⟨U, wT⟩
  · exact k2 _ _ _ (vx.dp h1) (vy.dp h2) (toP_shaped h1 h3) (toP_shaped h2 h4) rfl (by rw [eqv_toP a b h1 h2, beqD_dec]; exact h) ⟨U, wT⟩
theorem R.bl {σ : St} {H : Hp} {S : PSt} {T : List Tm} {b : Bool} (w : R K e σ H S T) : R K e σ H S (.v (.bl b) (.d (.bl b)) :: T) := let ⟨U, w⟩ := w; ⟨U, w.push (.bl b)⟩
instance simEq : SimO K e (rEqU K) (eqD false) := ⟨fun σ H S T x y rx ry Qd Q w h k => simEq_ w h (fun b h1 h2 q w => .inl ⟨h1, by rw [h2]; exact k _ _ _ _ q w.bl⟩) fun d d' b g1 g2 g3 g4 g5 q w => .inr ⟨d, d', g1, g2, g3, g4, by rw [g5]; exact k _ _ _ _ q w.bl⟩⟩
instance simNe : SimO K e (rNeU K) (eqD true) := ⟨fun σ H S T x y rx ry Qd Q w h k => simEq_ w h (fun b h1 h2 q w => .inl ⟨h1, by rw [h2]; exact k _ _ _ _ q w.bl⟩) fun d d' b g1 g2 g3 g4 g5 q w => .inr ⟨d, d', g1, g2, g3, g4, by rw [g5]; exact k _ _ _ _ q w.bl⟩⟩
def isNn : D → Bool
  | .non => true
  | _ => false
def isND (neg : Bool) (S : PSt) (rx ry : Rv) (Q : D → PSt → Prop) : Prop := match rx, ry with
  | .d d, .d .non => Q (.bl (if neg then !isNn d else isNn d)) S
  | _, _ => False
theorem isNn_dv {Tp : Addr → Prop} {H : Hp} {v : V} {d : D} (h : Dv K Tp H v d) : decide (v = .non) = isNn d := by
  cases h <;> first | rfl | exact decide_eq_false (fun z => nomatch z)
theorem simIs_ {σ : St} {H : Hp} {S : PSt} {T : List Tm} {x y : V} {rx ry : Rv} {Qd : D → PSt → Prop} {neg : Bool} (w : R K e σ H S (.v y ry :: .v x rx :: T)) (h : isND neg S rx ry Qd) : y = .non ∧ ∃ b, decide (x = .non) = b ∧ Qd (.bl (if neg then !b else b)) S ∧ R K e σ H S T := by
  obtain ⟨U, w⟩ := w
  match rx, ry, w, h with
  | .d d, .d .non, w, h =>
    have hy : Dv K S.W.Tp (Hd U H) y .non := w.tmp (.v y (.d .non)) (by simp)
    cases hy
    exact ⟨rfl, isNn d, isNn_dv (w.tmp (.v x (.d d)) (by simp)), h, U, w.less fun p hp => by simp [hp]⟩
instance simIsN : SimO K e rIsN (isND false) := ⟨fun σ H S T x y rx ry Qd Q w h k => by
  obtain ⟨h1, b, h2, h3, w⟩ := simIs_ w h
  exact ⟨h1, by rw [h2]; exact k _ _ _ _ h3 w.bl⟩⟩
instance simNotN : SimO K e rNotN (isND true) := ⟨fun σ H S T x y rx ry Qd Q w h k => by
  obtain ⟨h1, b, h2, h3, w⟩ := simIs_ w h
  exact ⟨h1, by rw [h2]; exact k _ _ _ _ h3 w.bl⟩⟩
end
end Kn
set_option Elab.async false
set_option maxRecDepth 100000
set_option linter.all false
set_option autoImplicit false
namespace Kn
open PySem L2
section
variable {K : PySem.W.Frag} {e : Ent}
def strIn (i j : Str) : Bool := !(Builtin.Str.occurrences j i 0 j.length 1).isEmpty
theorem strIn_sign (c : Nat) (z : Str) : strIn ⟨#[c]⟩ z = decide (c ∈ z.cps.toList) := PySem.StrLaws.found_one z c
def fl (c : Bool) : D → Bool
  | .non => true
  | .int _ => !c
  | .bl _ => c
  | .str _ => true
  | _ => false
def keyD : D → Option Key
  | .int i => some (.inl i)
  | .str x => some (.inr x)
  | _ => none
theorem fl_flat {Tp : Addr → Prop} {H : Hp} {v : V} {d : D} {c : Bool} (h : Dv K Tp H v d) (f : fl c d = true) : flatV v = true := by
  cases h <;> simp [fl] at f <;> rfl
theorem fl_eq {Tp : Addr → Prop} {H : Hp} {v w : V} {d d' : D} {c : Bool} (h : Dv K Tp H v d) (h' : Dv K Tp H w d') (f : fl c d = true) (f' : fl c d' = true) : eqV w v = decide (d = d') := by
  cases h <;> simp [fl] at f <;> cases h' <;> simp_all [fl, eqV] <;> (rw [Bool.eq_iff_iff]; simp; constructor <;> exact fun z => z.symm)
theorem fl_all {Tp : Addr → Prop} {H : Hp} {c : Bool} : ∀ {vs : List V} {ds : List D}, DvL K Tp H vs ds → ds.all (fl c) = true → vs.all flatV = true
  | _, _, .nil, _ => rfl
  | _, _, .cons h t, f => by
    rw [List.all_cons, Bool.and_eq_true] at f
    rw [List.all_cons, fl_flat h f.1, fl_all t f.2]; rfl
theorem fl_in {Tp : Addr → Prop} {H : Hp} {c : Bool} {x : V} {d : D} (hx : Dv K Tp H x d) (f0 : fl c d = true) : ∀ {vs : List V} {ds : List D}, DvL K Tp H vs ds → ds.all (fl c) = true → inV x vs = decide (d ∈ ds)
  | _, _, .nil, _ => by simp [inV]
  | w :: vs, d' :: ds, .cons h t, f => by
    rw [List.all_cons, Bool.and_eq_true] at f
    have ih := fl_in hx f0 t f.2
    unfold inV at ih ⊢
    rw [List.any_cons, ih, fl_eq hx h f0 f.1]
    rw [Bool.eq_iff_iff]; simp
def inOk (x : D) (ds : List D) : Prop := ∃ c, (fl c x = true ∧ ds.all (fl c) = true) ∨ (okD c x = true ∧ okL c ds = true ∧ dpD x ≤ 64 ∧ dpL ds < 64)
def inF (Q : Bool → Prop) (x : D) : D → Prop
  | .lst ds => inOk x ds ∧ Q (decide (x ∈ ds))
  | .tup ds => (∃ c, fl c x = true ∧ ds.all (fl c) = true) ∧ Q (decide (x ∈ ds))
  | .str j => match x with
    | .str i => Q (strIn i j)
    | _ => False
  | .dct ks => match keyD x with
    | some k => Q (look ks k).isSome
    | none => False
  | _ => False
def inD (neg : Bool) (S : PSt) (rx ry : Rv) (Q : D → PSt → Prop) : Prop := dd2 S rx ry (inF fun b => Q (.bl (if neg then !b else b)) S)
theorem fl_dv {Tp U : Addr → Prop} {H : Hp} {v : V} {c : Bool} : ∀ {d : D}, Vw K Tp U H v d → fl c d = true → Dv K Tp (Hd U H) v d
  | .non, h, _ => h
  | .bl _, h, _ => h
  | .int _, h, _ => h
  | .str _, h, _ => h
  | .ty _, h, _ => h
  | .tup _, _, f => by simp [fl] at f
  | .lst _, _, f => by simp [fl] at f
  | .dct _, _, f => by simp [fl] at f
  | .obj _ _, _, f => by simp [fl] at f
  | .ref _, h, _ => h
  | .tape, h, _ => h
  | .scr, h, _ => h
  | .exc _ _ _ _, h, _ => h
theorem any_eqv {c : Bool} (d : D) (g : okD c d = true) : ∀ ds : List D, okL c ds = true → ((toPs ds).any fun z => PyData.eqv z (toP d)) = decide (d ∈ ds)
  | [], _ => by simp [toPs]
  | d' :: ds, h => by
    rw [okL, Bool.and_eq_true] at h
    rw [toPs, List.any_cons, any_eqv d g ds h.2, eqv_toP d' d h.1 g, beqD_dec]
    rw [Bool.eq_iff_iff]; simp
    constructor
    · rintro (z | z)
      · exact .inl z.symm
      · exact .inr z
    · rintro (z | z)
      · exact .inl z.symm
      · exact .inr z
theorem keyD_v {Tp U : Addr → Prop} {H : Hp} {v : V} {d : D} {k : Key} (h : Vw K Tp U H v d) (ek : keyD d = some k) : v = kV k := by
  cases d <;> simp [keyD] at ek <;> subst ek
  · exact h.int
  · exact h.str
theorem simIn_ {σ : St} {H : Hp} {S : PSt} {T : List Tm} {x y : V} {rx ry : Rv} {Qd : D → PSt → Prop} {neg : Bool} {C : Prop} (w : R K e σ H S (.v y ry :: .v x rx :: T)) (h : inD neg S rx ry Qd)
    (k1 : ∀ p xs b, y = .ref p → (SqL K H p xs ∨ SqT K H p xs) → flatV x = true → xs.all flatV = true → inV x xs = b → Qd (.bl (if neg then !b else b)) S → R K e σ H S T → C)
    (k2 : ∀ i j, x = .str i → y = .str j → Qd (.bl (if neg then !strIn i j else strIn i j)) S → R K e σ H S T → C)
    (k3 : ∀ a o, y = .ref a → DGet H a x o → Qd (.bl (if neg then !o.isSome else o.isSome)) S → R K e σ H S T → C)
    (k4 : ∀ d ds b, Dp K H x d → Dp K H y (.list ds) → SeqAt.shaped d = true → SeqAt.shaped (.list ds) = true → (ds.any fun z => PyData.eqv z d) = b → Qd (.bl (if neg then !b else b)) S → R K e σ H S T → C) : C := by
  obtain ⟨a, b, ha, hb, h⟩ := dd2_inv h
  obtain ⟨U, wT, vx, vy, w2⟩ := w.two ha hb
  match b, h, vy with
  | .lst ds, ⟨⟨c, .inl h0⟩, h⟩, ⟨p, xs, e1, h1, h2⟩ =>
    subst e1
    have dx := fl_dv vx h0.1
    exact k1 p xs _ rfl (.inl (SqL.of h1)) (fl_flat dx h0.1) (fl_all h2 h0.2) (fl_in dx h0.1 h2 h0.2) h ⟨U, wT⟩
  | .lst ds, ⟨⟨c, .inr ⟨g1, g2, g3, g4⟩⟩, h⟩, ⟨p, xs, e1, h1, h2⟩ =>
    subst e1
    have gl : okD c (.lst ds) = true := by rw [okD]; exact g2
    have dl : dpD (.lst ds) ≤ 64 := by rw [dpD]; omega
    have sh := toP_shaped gl dl
    have dp : Dp K H (.ref p) (toP (.lst ds)) := Vw.dp (d := .lst ds) ⟨p, xs, rfl, h1, h2⟩ gl
    rw [toP] at sh dp
    exact k4 _ _ _ (vx.dp g1) dp (toP_shaped g1 g3) sh (any_eqv a g1 ds g2) h ⟨U, wT⟩
  | .tup ds, ⟨⟨c, h0⟩, h⟩, ⟨p, xs, e1, h1, h2⟩ =>
    subst e1
    have dx := fl_dv vx h0.1
    exact k1 p xs _ rfl (.inr (SqT.same Hd.sub h1)) (fl_flat dx h0.1) (fl_all h2 h0.2) (fl_in dx h0.1 h2 h0.2) h ⟨U, wT⟩
  | .str j, h, vy =>
    match a, h, vx with
    | .str i, h, vx => exact k2 i j vx.str vy.str h ⟨U, wT⟩
  | .dct ks, h, ⟨p, xs, e1, h1, h2⟩ =>
    rw [inF] at h
    cases q : keyD a with
    | none => rw [q] at h; exact h.elim
    | some k =>
      rw [q] at h
      refine k3 p (valV xs k) e1 (.inl ⟨xs, k, h1, keyD_v vx q, rfl⟩) ?_ ⟨U, wT⟩
      rw [valV_look h2]; exact h
instance simIn : SimO K e (rInU K) (inD false) := ⟨fun σ H S T x y rx ry Qd Q w h k => simIn_ w h (fun p xs b h1 h2 h3 h4 h5 q w => .inl ⟨p, xs, h1, h2, h3, h4, by rw [h5]; exact k _ _ _ _ q w.bl⟩) (fun i j h1 h2 q w => .inr (.inl ⟨i, j, h1, h2, k _ _ _ _ q w.bl⟩))
  (fun a o h1 h2 q w => .inr (.inr (.inl ⟨a, o, h1, h2, k _ _ _ _ q w.bl⟩))) fun d ds b h1 h2 h3 h4 h5 q w => .inr (.inr (.inr ⟨d, ds, h1, h2, h3, h4, by rw [h5]; exact k _ _ _ _ q w.bl⟩))⟩
instance simNotIn : SimO K e (rNotInU K) (inD true) := ⟨fun σ H S T x y rx ry Qd Q w h k => simIn_ w h (fun p xs b h1 h2 h3 h4 h5 q w => .inl ⟨p, xs, h1, h2, h3, h4, by rw [h5]; exact k _ _ _ _ q w.bl⟩) (fun i j h1 h2 q w => .inr (.inl ⟨i, j, h1, h2, k _ _ _ _ q w.bl⟩))
  (fun a o h1 h2 q w => .inr (.inr (.inl ⟨a, o, h1, h2, k _ _ _ _ q w.bl⟩))) fun d ds b h1 h2 h3 h4 h5 q w => .inr (.inr (.inr ⟨d, ds, h1, h2, h3, h4, by rw [h5]; exact k _ _ _ _ q w.bl⟩))⟩
def opt {α : Type} (o : Option α) (F : α → Prop) : Prop := match o with
  | some a => F a
  | none => False
theorem opt_inv {α : Type} {o : Option α} {F : α → Prop} (h : opt o F) : ∃ a, o = some a ∧ F a := by
  cases o with
  | none => exact h.elim
  | some a => exact ⟨a, rfl, h⟩
def ixF (Q : D → Prop) : D → D → Prop
  | .lst ds, .int i => opt (atI ds i) Q
  | .tup ds, .int i => opt (atI ds i) Q
  | .str z, .int i => z.length ≤ 1000000 ∧ opt (atI z.cps.toList i) fun c => Q (.str ⟨#[c]⟩)
  | .dct ks, .int i => opt (look ks (.inl i)) Q
  | .dct ks, .str x => opt (look ks (.inr x)) Q
  | _, _ => False
def ixD (S : PSt) (rx ry : Rv) (Q : D → PSt → Prop) : Prop := dd2 S rx ry (ixF fun d => Q d S)
theorem DvL.atI {Tp : Addr → Prop} {H : Hp} {vs : List V} {ds : List D} {i : Int} {d : D} (h : DvL K Tp H vs ds) (he : L2.atI ds i = some d) : ∃ v, L2.atI vs i = some v ∧ Dv K Tp H v d := by
  unfold L2.atI at he ⊢
  rw [h.len]
  obtain ⟨j, h1, h2⟩ := Option.bind_eq_some_iff.mp he
  rw [h1]
  exact h.get h2
instance simIx : SimO K e (rIxU K) ixD := ⟨fun σ H S T x y rx ry Qd Q w h k => by
  obtain ⟨a, b, ha, hb, h⟩ := dd2_inv h
  obtain ⟨U, wT, vx, vy, w2⟩ := w.two ha hb
  match a, b, h, vx, vy with
  | .lst ds, .int i, h, ⟨p, xs, e1, h1, h2⟩, vy =>
    obtain ⟨d, h3, h4⟩ := opt_inv h
    obtain ⟨v, h5, h6⟩ := h2.atI h3
    subst e1
    rw [vy.int]
    exact .inl (.inl ⟨p, xs, i, v, rfl, rfl, SqL.of h1, h5, k _ _ _ _ h4 ⟨U, wT.push h6⟩⟩)
  | .tup ds, .int i, h, ⟨p, xs, e1, h1, h2⟩, vy =>
    obtain ⟨d, h3, h4⟩ := opt_inv h
    obtain ⟨v, h5, h6⟩ := h2.atI h3
    subst e1
    rw [vy.int]
    exact .inl (.inr (.inl ⟨p, xs, i, v, rfl, rfl, SqT.same Hd.sub h1, h5, k _ _ _ _ h4 ⟨U, wT.push h6⟩⟩))
  | .str z, .int i, ⟨h0, h⟩, vx, vy =>
    obtain ⟨c, h3, h4⟩ := opt_inv h
    rw [vx.str, vy.int]
    exact .inl (.inr (.inr ⟨z, i, c, rfl, rfl, big_of h0, h3, k _ _ _ _ h4 ⟨U, wT.push (.str _)⟩⟩))
  | .dct ks, .int i, h, ⟨p, xs, e1, h1, h2⟩, vy =>
    obtain ⟨d, h3, h4⟩ := opt_inv h
    obtain ⟨v, h5, h6⟩ := h2.look_some h3
    subst e1
    rw [vy.int]
    exact .inr ⟨p, v, rfl, .inl ⟨xs, .inl i, h1, rfl, h5.symm⟩, k _ _ _ _ h4 ⟨U, wT.push h6⟩⟩
  | .dct ks, .str i, h, ⟨p, xs, e1, h1, h2⟩, vy =>
    obtain ⟨d, h3, h4⟩ := opt_inv h
    obtain ⟨v, h5, h6⟩ := h2.look_some h3
    subst e1
    rw [vy.str]
    exact .inr ⟨p, v, rfl, .inl ⟨xs, .inr i, h1, rfl, h5.symm⟩, k _ _ _ _ h4 ⟨U, wT.push h6⟩⟩⟩
abbrev TDO := PSt → (Option Int → PSt → Prop) → Prop
class SimP (K : PySem.W.Frag) (e : Ent) (te : TO) (t : outParam TDO) : Prop where
  run : ∀ (σ : St) (H : Hp) (S : PSt) (T : List Tm) (Qd : Option Int → PSt → Prop) (Q : Option Int → Hp → Prop), R K e σ H S T → t S Qd → (∀ b S' H', Qd b S' → R K e σ H' S' T → Q b H') → te σ H Q
def tdNoPart : TDO := fun S Q => Q none S
def asI (r : Rv) (F : Int → Prop) : Prop := match r with
  | .d (.int b) => F b
  | _ => False
def tdPart (t : TDE) : TDO := fun S Q => t S fun r S1 => asI r fun i => Q (some i) S1
instance simNoPart : SimP K e tNoPart tdNoPart := ⟨fun σ H S T Qd Q x h k => k _ _ _ h x⟩
instance simPart {te : TE} {t : TDE} [h : SimE K e te t] : SimP K e (tPart te) (tdPart t) := ⟨fun σ H S T Qd Q x ht k => by
  refine h.run σ H S T _ _ x ht fun r S1 v H1 h1 x1 => ?_
  match r, h1, x1 with
  | .d (.int b), h1, ⟨U, x1⟩ =>
    have hv : Dv K S1.W.Tp (Hd U H1) v (.int b) := x1.tmp (.v v (.d (.int b))) (by simp)
    cases hv
    exact ⟨b, rfl, k _ _ _ h1 (R.pop ⟨U, x1⟩)⟩⟩
def cut {α : Type} (xs : List α) (lo hi : Option Int) : List α := (xs.drop (HT.sIx xs.length 0 lo)).take (HT.sIx xs.length xs.length hi - HT.sIx xs.length 0 lo)
theorem DvL.cut {Tp : Addr → Prop} {H : Hp} {vs : List V} {ds : List D} {lo hi : Option Int} (h : DvL K Tp H vs ds) : DvL K Tp H (cutV vs lo hi) (Kn.cut ds lo hi) := by
  unfold cutV Kn.cut
  rw [h.len]
  exact (h.drop _).take _
def slF (lo hi : Option Int) (Q : D → Prop) : D → Prop
  | .lst ds => Q (.lst (cut ds lo hi))
  | .tup ds => Q (.tup (cut ds lo hi))
  | .str z => z.length ≤ 1000000 ∧ Q (.str (cutS z lo hi))
  | _ => False
def tdSl (te : TDE) (tl th : TDO) : TDE := fun S Q => te S fun r S1 => tl S1 fun lo S2 => th S2 fun hi S3 => dd1 S3 r (slF lo hi fun d => Q (.d d) S3)
theorem cut_all {α : Type} {xs : List α} {lo hi : Option Int} (h : HT.sIx xs.length 0 lo = 0 ∧ HT.sIx xs.length xs.length hi = xs.length) : cut xs lo hi = xs := by
  unfold cut
  rw [h.1, h.2]; simp
instance simSl {te : TE} {tl th : TO} {te' : TDE} {tl' th' : TDO} [h1 : SimE K e te te'] [h2 : SimP K e tl tl'] [h3 : SimP K e th th'] : SimE K e (tSl (rSlU K) te tl th) (tdSl te' tl' th') := ⟨fun σ H S T Qd Q x h k => by
  refine h1.run σ H S T _ _ x h fun r S1 v H1 h1 x1 => ?_
  refine h2.run σ H1 S1 _ _ _ x1 h1 fun lo S2 H2 h2 x2 => ?_
  refine h3.run σ H2 S2 _ _ _ x2 h2 fun hi S3 H3 h3 x3 => ?_
  obtain ⟨a, ha, h⟩ := dd1_inv h3
  obtain ⟨U, wT, vx, w2⟩ := x3.one ha
  match a, h, vx with
  | .lst ds, h, ⟨p, xs, e1, g1, g2⟩ =>
    subst e1
    exact .inl ⟨p, xs, rfl, SqL.of g1, fun q hq => k _ _ _ _ h (wT.newL hq g2.cut).frozen⟩
  | .tup ds, h, ⟨p, xs, e1, g1, g2⟩ =>
    subst e1
    refine .inr (.inl ⟨p, xs, rfl, SqT.same Hd.sub g1, fun z => ?_, fun _ q hq => k _ _ _ _ h (wT.newT hq g2.cut)⟩)
    rw [g2.len] at z
    rw [slF, cut_all z] at h
    exact k _ _ _ _ h ⟨U, wT.push (.tup g1 g2)⟩
  | .str z, ⟨h0, h⟩, vx =>
    exact .inr (.inr ⟨z, vx.str, big_of h0, k _ _ _ _ h ⟨U, wT.push (.str _)⟩⟩)⟩
def tdRevT (te : TDE) (tk : TDO) : TDE := fun S Q => te S fun r S1 => tk S1 fun o S2 => o = some (-1) ∧ dd1 S2 r fun d => match d with
  | .tup ds => Q (.d (.tup ds.reverse)) S2
  | _ => False
end
end Kn
set_option Elab.async false
set_option maxRecDepth 100000
set_option linter.all false
set_option autoImplicit false
namespace Kn
open PySem L2
section
variable {K : PySem.W.Frag} {e : Ent}
def arg1 (rs : List Rv) (F : Rv → Prop) : Prop := match rs with
  | [r] => F r
  | _ => False
def arg2 (rs : List Rv) (F : Rv → Rv → Prop) : Prop := match rs with
  | [r, q] => F r q
  | _ => False
theorem arg1_inv {rs : List Rv} {F : Rv → Prop} (h : arg1 rs F) : ∃ r, rs = [r] ∧ F r := by
  match rs, h with
  | [r], h => exact ⟨r, rfl, h⟩
theorem arg2_inv {rs : List Rv} {F : Rv → Rv → Prop} (h : arg2 rs F) : ∃ r q, rs = [r, q] ∧ F r q := by
  match rs, h with
  | [r, q], h => exact ⟨r, q, rfl, h⟩
theorem len1 {vs : List V} (h : vs.length = 1) : ∃ v, vs = [v] := by
  match vs, h with
  | [v], _ => exact ⟨v, rfl⟩
theorem len2 {vs : List V} (h : vs.length = 2) : ∃ v w, vs = [v, w] := by
  match vs, h with
  | [v, w], _ => exact ⟨v, w, rfl⟩
theorem simC1 {r : List V → Hp → VK → Prop} {F : PSt → (D → Prop) → D → Prop}
    (hr : ∀ (σ : St) (H : Hp) (S : PSt) (T : List Tm) (U : Addr → Prop) (v : V) (a : D) (Qd : D → PSt → Prop) (Q : VK), RU K e σ H S T U → Vw K S.W.Tp U H v a → F S (fun d => Qd d S) a → (∀ d v' H', Qd d S → R K e σ H' S (.v v' (.d d) :: T) → Q v' H') → r [v] H Q) :
    SimC K e r (fun S rs Q => arg1 rs fun x => dd1 S x (F S fun d => Q d S)) := ⟨fun σ H S T vs rs Qd Q hl x h k => by
  obtain ⟨r1, rfl, h⟩ := arg1_inv h
  obtain ⟨v, rfl⟩ := len1 hl
  obtain ⟨a, ha, h⟩ := dd1_inv h
  obtain ⟨U, wT, vx, _⟩ := R.one (T := T) x ha
  exact hr σ H S T U v a Qd Q wT vx h fun d v' H' q x' => k _ _ _ _ q x'⟩
def lenF (_ : PSt) (Q : D → Prop) : D → Prop
  | .lst ds => Q (.int ds.length)
  | .tup ds => Q (.int ds.length)
  | .str z => z.length ≤ 1000000 ∧ Q (.int z.length)
  | .dct ks => Q (.int ks.length)
  | _ => False
instance simLen : SimC K e (rLenU K) (fun S rs Q => arg1 rs fun x => dd1 S x (lenF S fun d => Q d S)) := simC1 fun σ H S T U v a Qd Q x vw h k => by
  match a, h, vw with
  | .lst ds, h, ⟨p, xs, e1, h1, h2⟩ => subst e1; exact .inl ⟨p, xs, rfl, .inl (SqL.of h1), by rw [h2.len]; exact k _ _ _ h ⟨U, x.push (.int _)⟩⟩
  | .tup ds, h, ⟨p, xs, e1, h1, h2⟩ => subst e1; exact .inl ⟨p, xs, rfl, .inr (SqT.same Hd.sub h1), by rw [h2.len]; exact k _ _ _ h ⟨U, x.push (.int _)⟩⟩
  | .str z, h, vw => rw [vw.str]; exact .inr (.inl ⟨z, rfl, big_of h.1, k _ _ _ h.2 ⟨U, x.push (.int _)⟩⟩)
  | .dct ds, h, ⟨p, xs, e1, h1, h2⟩ => subst e1; exact .inr (.inr ⟨p, xs, rfl, h1, by rw [h2.len]; exact k _ _ _ h ⟨U, x.push (.int _)⟩⟩)
def tyN : D → Option String
  | .non => some "NoneType"
  | .bl _ => some "bool"
  | .int _ => some "int"
  | .str _ => some "str"
  | .lst _ => some "list"
  | .tup _ => some "tuple"
  | .dct _ => some "dict"
  | _ => none
theorem tyN_ty {Tp U : Addr → Prop} {H : Hp} {v : V} : ∀ {d : D} {n : String}, Vw K Tp U H v d → tyN d = some n → TyX K H v (.type n)
  | .non, _, h, q => by cases q; rw [Vw.non h]; exact .base .non
  | .bl b, _, h, q => by cases q; rw [Vw.bl h]; exact .base (.bl b)
  | .int b, _, h, q => by cases q; rw [Vw.int h]; exact .base (.int b)
  | .str b, _, h, q => by cases q; rw [Vw.str h]; exact .base (.str b)
  | .lst ds, _, ⟨a, xs, e1, h1, _⟩, q => by cases q; subst e1; exact .base (.lst h1)
  | .tup ds, _, ⟨a, xs, e1, h1, _⟩, q => by
    cases q; subst e1
    rcases SqT.same Hd.sub h1 with (h | ⟨o, h⟩) | ⟨o, its, n, h, c, _⟩
    · exact .base (.tup h)
    · exact .fTuple h
    · exact .kTuple h c
  | .dct ds, _, ⟨a, xs, e1, h1, _⟩, q => by
    cases q; subst e1
    rcases h1 with h | ⟨o, h⟩
    · exact .base (.dK h)
    · exact .fDict h
def isB (a b : String) : Bool := decide (a = b) || (decide (a = "bool") && decide (b = "int"))
def tyOk (n : String) : Bool := decide (n ∈ ["str", "tuple", "list", "int", "bool", "dict"])
theorem isB_kit : ∀ a ∈ ["NoneType", "bool", "int", "str", "list", "tuple", "dict"], ∀ b ∈ ["str", "tuple", "list", "int", "bool", "dict"], kitB a b = some (isB a b) := by decide +kernel
theorem tyN_mem {d : D} {n : String} (h : tyN d = some n) : n ∈ ["NoneType", "bool", "int", "str", "list", "tuple", "dict"] := by
  cases d <;> simp [tyN] at h <;> subst h <;> simp
theorem kit_isB {a b : String} (ha : a ∈ ["NoneType", "bool", "int", "str", "list", "tuple", "dict"]) (hb : tyOk b = true) : PySem.W.kitOne K (.type a) (.type b) = some (isB a b) := kit_ty (isB_kit a ha b (of_decide_eq_true hb))
def isiF (S : PSt) (n : String) (Q : D → Prop) (a : D) : Prop := tyOk n = true ∧ opt (tyN a) fun t => Q (.bl (isB t n))
def isiD (S : PSt) (rs : List Rv) (Q : D → PSt → Prop) : Prop := arg2 rs fun x c => match c with
  | .d (.ty n) => dd1 S x (isiF S n fun d => Q d S)
  | _ => False
instance simIsi : SimC K e (rIsi K) isiD := ⟨fun σ H S T vs rs Qd Q hl x h k => by
  obtain ⟨r1, r2, rfl, h⟩ := arg2_inv h
  obtain ⟨v, w, rfl⟩ := len2 hl
  match r2, h, x with
  | .d (.ty n), h, x =>
    obtain ⟨a, ha, h0, h⟩ := dd1_inv h
    obtain ⟨t, ht, h⟩ := opt_inv h
    obtain ⟨U, x⟩ := x
    have hw : Dv K S.W.Tp (Hd U H) w (.ty n) := x.tmp (.v w (.d (.ty n))) (by simp [tms])
    cases hw
    have vw := x.vw (x.tmp (.v v r1) (by simp [tms])) ha
    exact ⟨v, .ty n, .type t, .type n, _, rfl, .ty n, tyN_ty vw ht, kit_isB (tyN_mem ht) h0, k _ _ _ _ h ⟨U, (x.less fun p hp => by simp [tms, hp]).push (.bl _)⟩⟩⟩
def tysOf : List Rv → Option (List String)
  | [] => some []
  | .d (.ty n) :: rs => (tysOf rs).map (n :: ·)
  | _ => none
def tdIsiT (tx : TDE) (ta : TDA) : TDE := fun S Q => tx S fun x S1 => ta S1 fun rs S2 => opt (tysOf rs) fun ns => ns.all tyOk = true ∧ rs.length ≤ 1000 ∧ dd1 S2 x fun a => opt (tyN a) fun t => Q (.d (.bl (ns.any (isB t)))) S2
theorem tysOf_cls {σ : St} {H : Hp} {S : PSt} {T : List Tm} {U : Addr → Prop} : ∀ {rs : List Rv} {vs : List V} {ns : List String}, vs.length = rs.length → RU K e σ H S (tms vs rs ++ T) U → tysOf rs = some ns → vs = ns.map V.ty
  | [], [], _, _, _, h => by cases h; rfl
  | .d (.ty n) :: rs, v :: vs, ns, hl, x, h => by
    rw [tysOf] at h
    obtain ⟨ms, h1, rfl⟩ := Option.map_eq_some_iff.mp h
    have hw : Dv K S.W.Tp (Hd U H) v (.ty n) := x.tmp (.v v (.d (.ty n))) (by simp [tms])
    cases hw
    rw [tysOf_cls (by simpa using hl) (x.less fun p hp => List.mem_cons_of_mem _ hp) h1]; rfl
theorem paired_cls : ∀ ns : List String, Paired ClsV (ns.map V.ty) (ns.map Value.type)
  | [] => .nil
  | n :: ns => .cons (.ty n) (paired_cls ns)
theorem kitAny_ty {t : String} (ht : t ∈ ["NoneType", "bool", "int", "str", "list", "tuple", "dict"]) : ∀ ns : List String, ns.all tyOk = true → PySem.W.kitAny K (.type t) (ns.map Value.type) = some (ns.any (isB t))
  | [], _ => rfl
  | n :: ns, h => by
    rw [List.all_cons, Bool.and_eq_true] at h
    rw [List.map_cons, PySem.W.kitAny, kit_isB ht h.1, List.any_cons]
    cases isB t n with
    | true => rfl
    | false => rw [Bool.false_or]; exact kitAny_ty ht ns h.2
instance simIsiT {tx : TE} {ta : TA} {tx' : TDE} {ta' : TDA} [h1 : SimE K e tx tx'] [h2 : SimA K e ta ta'] : SimE K e (tCB (rIsiT K) (tCons tx (tCons (tTup ta) tNil))) (tdIsiT tx' ta') := ⟨fun σ H S T Qd Q x h k => by
  refine h1.run σ H S T _ _ x h fun r S1 v H1 h1 x1 => ?_
  refine h2.run σ H1 S1 _ _ _ x1 h1 fun rs S2 vs H2 h2 hl x2 => ?_
  obtain ⟨ns, hn, h0, hz, h3⟩ := opt_inv h2
  obtain ⟨a, ha, h⟩ := dd1_inv h3
  obtain ⟨t, ht, h⟩ := opt_inv h
  obtain ⟨U, x2⟩ := x2
  have ev := tysOf_cls hl x2 hn
  refine ⟨Nat.le_trans (by rw [hl]; exact hz) (show 1000 ≤ sizeLine by decide), fun p hp => ?_⟩
  have x3 := x2.alloc (o := .tup vs) hp
  have vw := x3.vw (x3.tmp (.v v r) (by simp)) ha
  refine ⟨v, p, vs, .type t, ns.map Value.type, _, rfl, upd_same, by rw [ev]; exact paired_cls ns, tyN_ty vw ht, kitAny_ty (tyN_mem ht) ns h0, k _ _ _ _ h ⟨U, (x3.less fun p hp => by simp [hp]).push (.bl _)⟩⟩⟩
def tupF (_ : PSt) (Q : D → Prop) : D → Prop
  | .lst ds => Q (.tup ds)
  | .tup ds => Q (.tup ds)
  | _ => False
instance simTupleOf : SimC K e (rTupleOf K) (fun S rs Q => arg1 rs fun x => dd1 S x (tupF S fun d => Q d S)) := simC1 fun σ H S T U v a Qd Q x vw h k => by
  match a, h, vw with
  | .lst ds, h, ⟨p, xs, e1, h1, h2⟩ => subst e1; exact ⟨p, xs, rfl, .inl ⟨SqL.of h1, fun l hl => k _ _ _ h (x.newT hl h2)⟩⟩
  | .tup ds, h, ⟨p, xs, e1, h1, h2⟩ => subst e1; exact ⟨p, xs, rfl, .inr ⟨SqT.same Hd.sub h1, k _ _ _ h ⟨U, x.push (.tup h1 h2)⟩⟩⟩
theorem simCN1 {r : List V → Hp → VK → Prop} {F : PSt → (List D → Prop) → D → Prop}
    (hr : ∀ (σ : St) (H : Hp) (S : PSt) (T : List Tm) (U : Addr → Prop) (v : V) (a : D) (Qd : List D → PSt → Prop) (Q : VK), RU K e σ H S T U → Vw K S.W.Tp U H v a → F S (fun d => Qd d S) a → (∀ ds l H', Qd ds S → RN K e σ H' S T l ds → Q (.ref l) H') → r [v] H Q) :
    SimCN K e r (fun S rs Q => arg1 rs fun x => dd1 S x (F S fun d => Q d S)) := ⟨fun σ H S T vs rs Qd Q hl x h k => by
  obtain ⟨r1, rfl, h⟩ := arg1_inv h
  obtain ⟨v, rfl⟩ := len1 hl
  obtain ⟨a, ha, h⟩ := dd1_inv h
  obtain ⟨U, wT, vx, _⟩ := R.one (T := T) x ha
  exact hr σ H S T U v a Qd Q wT vx h fun d v' H' q x' => k _ _ _ _ q x'⟩
def keyV : Key → D
  | .inl i => .int i
  | .inr x => .str x
def bls : List D → Option (List Bool)
  | [] => some []
  | .bl b :: ds => (bls ds).map (b :: ·)
  | _ => none
def nts : List D → Option (List Int)
  | [] => some []
  | .int b :: ds => (nts ds).map (b :: ·)
  | _ => none
theorem bls_some : ∀ {ds : List D} {bs : List Bool}, bls ds = some bs → ds = bs.map D.bl
  | [], _, h => by cases h; rfl
  | .bl b :: ds, _, h => by
    rw [bls] at h
    obtain ⟨ms, h1, rfl⟩ := Option.map_eq_some_iff.mp h
    rw [bls_some h1]; rfl
theorem nts_some : ∀ {ds : List D} {bs : List Int}, nts ds = some bs → ds = bs.map D.int
  | [], _, h => by cases h; rfl
  | .int b :: ds, _, h => by
    rw [nts] at h
    obtain ⟨ms, h1, rfl⟩ := Option.map_eq_some_iff.mp h
    rw [nts_some h1]; rfl
theorem bls_mapF {α : Type} (f : α → Bool) : ∀ xs : List α, bls (xs.map fun x => D.bl (f x)) = some (xs.map f)
  | [] => rfl
  | b :: bs => by rw [List.map_cons, bls, bls_mapF f bs]; rfl
theorem nts_map : ∀ bs : List Int, nts (bs.map D.int) = some bs
  | [] => rfl
  | b :: bs => by rw [List.map_cons, nts, nts_map bs]; rfl
theorem nts_mapF {α : Type} (f : α → Int) : ∀ xs : List α, nts (xs.map fun x => D.int (f x)) = some (xs.map f)
  | [] => rfl
  | b :: bs => by rw [List.map_cons, nts, nts_mapF f bs]; rfl
def allF (_ : PSt) (Q : D → Prop) : D → Prop
  | .lst ds => opt (bls ds) fun bs => Q (.bl (bs.all id))
  | _ => False
def anyF (_ : PSt) (Q : D → Prop) : D → Prop
  | .lst ds => opt (bls ds) fun bs => Q (.bl (bs.any id))
  | _ => False
def sumF (_ : PSt) (Q : D → Prop) : D → Prop
  | .lst ds => opt (nts ds) fun bs => Q (.int bs.sum)
  | _ => False
instance simAll : SimC K e (rAll K) (fun S rs Q => arg1 rs fun x => dd1 S x (allF S fun d => Q d S)) := simC1 fun σ H S T U v a Qd Q x vw h k => by
  match a, h, vw with
  | .lst ds, h, ⟨p, xs, e1, h1, h2⟩ =>
    subst e1
    obtain ⟨bs, q, h⟩ := opt_inv h
    rw [bls_some q] at h2
    rw [h2.bls_inv] at h1
    exact ⟨p, bs, rfl, SqL.of h1, k _ _ _ h ⟨U, x.push (.bl _)⟩⟩
instance simAny : SimC K e (rAny K) (fun S rs Q => arg1 rs fun x => dd1 S x (anyF S fun d => Q d S)) := simC1 fun σ H S T U v a Qd Q x vw h k => by
  match a, h, vw with
  | .lst ds, h, ⟨p, xs, e1, h1, h2⟩ =>
    subst e1
    obtain ⟨bs, q, h⟩ := opt_inv h
    rw [bls_some q] at h2
    rw [h2.bls_inv] at h1
    exact ⟨p, bs, rfl, SqL.of h1, k _ _ _ h ⟨U, x.push (.bl _)⟩⟩
instance simSum : SimC K e (rSum K) (fun S rs Q => arg1 rs fun x => dd1 S x (sumF S fun d => Q d S)) := simC1 fun σ H S T U v a Qd Q x vw h k => by
  match a, h, vw with
  | .lst ds, h, ⟨p, xs, e1, h1, h2⟩ =>
    subst e1
    obtain ⟨bs, q, h⟩ := opt_inv h
    rw [nts_some q] at h2
    rw [h2.ints_inv] at h1
    exact ⟨p, bs, rfl, SqL.of h1, k _ _ _ h ⟨U, x.push (.int _)⟩⟩
def srt (ns : List Int) : List Int := ns.mergeSort fun a b => decide (a ≤ b)
theorem srt_perm (ns : List Int) : (srt ns).Perm ns := List.mergeSort_perm ns _
theorem srt_sorted (ns : List Int) : (srt ns).Pairwise (· ≤ ·) := by
  have := List.pairwise_mergeSort (le := fun a b : Int => decide (a ≤ b)) (fun a b c h1 h2 => by simp at *; omega) (fun a b => by simp; omega) ns
  exact this.imp fun h => by simpa using h
theorem sorted_unique : ∀ {xs ys : List Int}, xs.Perm ys → xs.Pairwise (· ≤ ·) → ys.Pairwise (· ≤ ·) → xs = ys
  | [], ys, h, _, _ => (List.Perm.nil_eq h)
  | x :: xs, [], h, _, _ => by have := h.length_eq; simp at this
  | x :: xs, y :: ys, h, hx, hy => by
    have hx' := List.pairwise_cons.mp hx
    have hy' := List.pairwise_cons.mp hy
    have e1 : x = y := by
      have m1 : x ∈ y :: ys := h.mem_iff.mp (by simp)
      have m2 : y ∈ x :: xs := h.mem_iff.mpr (by simp)
      rcases List.mem_cons.mp m1 with z | z
      · exact z
      · rcases List.mem_cons.mp m2 with z2 | z2
        · exact z2.symm
        · have := hy'.1 x z
          have := hx'.1 y z2
          omega
    subst e1
    rw [sorted_unique (List.Perm.cons_inv h) hx'.2 hy'.2]
def sortF (_ : PSt) (Q : List D → Prop) : D → Prop
  | .lst ds => opt (nts ds) fun ns => ns.length < 64 ∧ Q ((srt ns).map D.int)
  | _ => False
instance simSorted : SimCN K e (rSorted K) (fun S rs Q => arg1 rs fun x => dd1 S x (sortF S fun d => Q d S)) := simCN1 fun σ H S T U v a Qd Q x vw h k => by
  match a, h, vw with
  | .lst ds, h, ⟨p, xs, e1, h1, h2⟩ =>
    subst e1
    obtain ⟨ns, q, h0, h⟩ := opt_inv h
    rw [nts_some q] at h2
    rw [h2.ints_inv] at h1
    refine ⟨p, ns, rfl, SqL.of h1, h0, fun ns' l hp hs hl => ?_⟩
    have e2 : ns' = srt ns := sorted_unique (hp.trans (srt_perm ns).symm) hs (srt_sorted ns)
    subst e2
    exact k _ _ _ h (x.newL hl (DvL.ints _))
def rInt1 : List V → Hp → VK → Prop := fun xs H Q => (∃ i, xs = [.int i] ∧ Q (.int i) H) ∨ ∃ k, xs = [.bl k] ∧ Q (.int (if k then 1 else 0)) H
theorem call_intU {X : Cx} : CallR X (.type "int") rInt1 := call_int1
def intF (_ : PSt) (Q : D → Prop) : D → Prop
  | .int i => Q (.int i)
  | .bl b => Q (.int (if b then 1 else 0))
  | _ => False
instance simInt1 : SimC K e rInt1 (fun S rs Q => arg1 rs fun x => dd1 S x (intF S fun d => Q d S)) := simC1 fun σ H S T U v a Qd Q x vw h k => by
  match a, h, vw with
  | .int i, h, vw => rw [vw.int]; exact .inl ⟨i, rfl, k _ _ _ h ⟨U, x.push (.int _)⟩⟩
  | .bl i, h, vw => rw [vw.bl]; exact .inr ⟨i, rfl, k _ _ _ h ⟨U, x.push (.int _)⟩⟩
end
end Kn
set_option Elab.async false
set_option maxRecDepth 100000
set_option linter.all false
set_option autoImplicit false
namespace Kn
open PySem L2
section
variable {K : PySem.W.Frag} {e : Ent}
theorem RU.slots {σ σ' : St} {H : Hp} {S : PSt} {T : List Tm} {U : Addr → Prop} {ρ' : List (Option PC)} (x : RU K e σ H S T U) (hl : σ'.length = ρ'.length) (h : ∀ (i : Nat) (c : PC), ρ'[i]? = some (some c) → S.ρ[i]? = some (some c) ∧ σ'[i]? = σ[i]?) (hT : NoOwn T) : RU K e σ' H ⟨ρ', S.W⟩ T U where
  wo := x.wo
  fr := x.fr
  ed := x.ed
  len := hl
  slot := fun i c hi => by
    obtain ⟨h1, h2⟩ := h i c hi
    rw [h2]; exact x.slot i c h1
  sep := fun i j c c' l n hi oi hj oj si sj => by
    obtain ⟨h1, h2⟩ := h i c hi
    obtain ⟨h3, h4⟩ := h j c' hj
    rw [h2] at si
    rw [h4] at sj
    exact x.sep i j c c' l n h1 oi h3 oj si sj
  tmp := fun p hp => by
    have := x.tmp p hp
    match p, this, hT p hp with
    | .v w (.d d), h, _ => exact h
    | .v w (.own j), h, n => exact (n w j rfl).elim
    | .pin b o w, h, _ => exact h
    | .nw m ds, ⟨o, ms, h2⟩, _ =>
      refine ⟨o, fun i c hi oc => ?_, h2⟩
      obtain ⟨h1, h3⟩ := h i c hi
      rw [h3]; exact ms i c h1 oc
def tdNext : TDS := fun E S => E.nx S
def tdSeq (t u : TDS) : TDS := fun E S => t { E with nx := u E } S
instance simNext : SimS K e tNext tdNext := ⟨fun σ H S T Ed E hT x h k => k.nx _ _ _ h x⟩
instance simSeq {t u : TS} {t' u' : TDS} [h1 : SimS K e t t'] [h2 : SimS K e u u'] : SimS K e (tSeq t u) (tdSeq t' u') := ⟨fun σ H S T Ed E hT x h k =>
  h1.run σ H S T { Ed with nx := u' Ed } _ hT x h { k with nx := fun S1 σ1 H1 h1 x1 => h2.run σ1 H1 S1 T Ed E hT x1 h1 k }⟩
def tdDrop (te : TDE) : TDS := fun E S => te S fun _ S1 => E.nx S1
instance simDrop {te : TE} {t : TDE} [h1 : SimE K e te t] : SimS K e (tDrop te) (tdDrop t) := ⟨fun σ H S T Ed E hT x h k => h1.run σ H S T _ _ x h fun r S1 v H1 h2 x1 => k.nx _ _ _ h2 x1.pop⟩
def tdRet (te : TDE) : TDS := fun E S => te S fun r S1 => frc r S1 fun d S2 => E.rt d S2.W
instance simRet {te : TE} {t : TDE} [h1 : SimE K e te t] : SimS K e (tRet te) (tdRet t) := ⟨fun σ H S T Ed E hT x h k => h1.run σ H S T _ _ x h fun r S1 v H1 h2 x1 => x1.frc h2 fun d S2 h3 x2 => k.rt _ _ _ _ _ h3 x2⟩
def tdRetV (i : Nat) : TDS := fun E S => match S.ρ[i]? with
  | some (some (.ownL ds)) => E.rn ds S.W
  | _ => False
def tdIfS (c : TDT) (t u : TDS) : TDS := fun E S => c S fun b S1 => if b = true then t E S1 else u E S1
instance simIfS {c : TT} {t u : TS} {c' : TDT} {t' u' : TDS} [h0 : SimT K e c c'] [h1 : SimS K e t t'] [h2 : SimS K e u u'] : SimS K e (tIfS c t u) (tdIfS c' t' u') := ⟨fun σ H S T Ed E hT x h k => by
  refine h0.run σ H S T _ _ x h fun b S1 H1 hb x1 => ?_
  cases b
  · exact h2.run σ H1 S1 T Ed E hT x1 hb k
  · exact h1.run σ H1 S1 T Ed E hT x1 hb k⟩
def gdName (i : Nat) : TDG := fun d S Q => Q (S.set i (.val d))
theorem NoOwn.ne {T : List Tm} (h : NoOwn T) (i : Nat) : ∀ p ∈ T, ∀ w, p ≠ .v w (.own i) := fun p hp w => h p hp w i
instance simName {i : Nat} : SimG K e (gName i) (gdName i) := ⟨fun v d σ H S T Qd Q hT ⟨U, x⟩ h k => k _ _ _ h ⟨U, (x.less fun p hp => List.mem_cons_of_mem _ hp).setVal (x.tmp (.v v (.d d)) (by simp)) (hT.ne i)⟩⟩
def gdNil : TDGs := fun ds S Q => ds = [] ∧ Q S
def gdCons (t : TDG) (u : TDGs) : TDGs := fun ds S Q => match ds with
  | d :: r => t d S fun S1 => u r S1 Q
  | [] => False
instance simGNil : SimGs K e gNil gdNil := ⟨fun vs ds σ H S T Qd Q hT hl x h k => by
  obtain ⟨rfl, h⟩ := h
  match vs, hl with
  | [], _ => exact ⟨rfl, k _ _ _ h x⟩⟩
theorem noOwn_tms {T : List Tm} (h : NoOwn T) : ∀ {vs : List V} {ds : List D}, NoOwn (tms vs (ds.map .d) ++ T)
  | [], _ => by simpa [tms] using h
  | _ :: _, [] => by simpa [tms] using h
  | v :: vs, d :: ds => by
    intro p hp w j z
    rcases List.mem_cons.mp hp with rfl | hp
    · cases z
    · exact noOwn_tms h (vs := vs) (ds := ds) p hp w j z
instance simGCons {t : TG} {u : TGs} {t' : TDG} {u' : TDGs} [h1 : SimG K e t t'] [h2 : SimGs K e u u'] : SimGs K e (gCons t u) (gdCons t' u') := ⟨fun vs ds σ H S T Qd Q hT hl x h k => by
  match vs, ds, hl, x, h with
  | [], [], hl, x, h => exact h.elim
  | v :: vs, d :: ds, hl, x, h =>
    exact ⟨v, vs, rfl, h1.run v d σ H S _ _ _ (noOwn_tms hT) x h fun S1 σ1 H1 h1 x1 => h2.run vs ds σ1 H1 S1 T _ _ hT (by simpa using hl) x1 h1 k⟩⟩
def gdTup (n : Nat) (t : TDGs) : TDG := fun d S Q => match d with
  | .tup ds => ds.length = n ∧ t ds S Q
  | _ => False
theorem RU.tmsPush {σ : St} {H : Hp} {S : PSt} {T : List Tm} {U : Addr → Prop} (x : RU K e σ H S T U) : ∀ {vs : List V} {ds : List D}, DvL K S.W.Tp (Hd U H) vs ds → RU K e σ H S (Kn.tms vs (ds.map .d) ++ T) U
  | _, _, .nil => x
  | _, _, .cons h t => (x.tmsPush t).push h
instance simGTup {n : Nat} {t : TGs} {t' : TDGs} [h1 : SimGs K e t t'] : SimG K e (gTup K n t) (gdTup n t') := ⟨fun v d σ H S T Qd Q hT ⟨U, x⟩ h k => by
  match d, x, h with
  | .tup ds, x, h =>
    have hv : Dv K S.W.Tp (Hd U H) v (.tup ds) := x.tmp (.v v (.d (.tup ds))) (by simp)
    have x0 := x.less (T' := T) fun p hp => List.mem_cons_of_mem _ hp
    obtain ⟨a, xs, e1, hq, ht⟩ : Vw K S.W.Tp U H v (.tup ds) := Dv.vw hv
    exact ⟨a, xs, e1, SqT.same Hd.sub hq, by rw [ht.len]; exact h.1, h1.run xs ds σ H S T _ _ hT ht.len ⟨U, x0.tmsPush ht⟩ h.2 k⟩⟩
def tdAsg (te : TDE) (g : TDG) : TDS := fun E S => te S fun r S1 => frc r S1 fun d S2 => g d S2 E.nx
instance simAsg {te : TE} {g : TG} {t : TDE} {g' : TDG} [h1 : SimE K e te t] [h2 : SimG K e g g'] : SimS K e (tAsg te g) (tdAsg t g') := ⟨fun σ H S T Ed E hT x h k =>
  h1.run σ H S T _ _ x h fun r S1 v H1 hr x1 => x1.frc hr fun d S2 h3 x2 => h2.run v d σ H1 S2 T _ _ hT x2 h3 k.nx⟩
def gOwn (i : Nat) : TG := gName i
def tdAsgN (i : Nat) (t : TDN) : TDS := fun E S => t S fun ds S1 => E.nx (S1.set i (.ownL ds))
instance simAsgN {te : TE} {i : Nat} {t : TDN} [h1 : SimN K e te t] : SimS K e (tAsg te (gOwn i)) (tdAsgN i t) := ⟨fun σ H S T Ed E hT x h k =>
  h1.run σ H S T _ _ x h fun ds S1 l H1 hr x1 => k.nx _ _ _ hr (x1.slot i hT)⟩
def tdAsgK (i : Nat) (t : TDK) : TDS := fun E S => t S fun ds S1 => E.nx (S1.set i (.ownD ds))
instance simAsgK {te : TE} {i : Nat} {t : TDK} [h1 : SimK K e te t] : SimS K e (tAsg te (gOwn i)) (tdAsgK i t) := ⟨fun σ H S T Ed E hT x h k =>
  h1.run σ H S T _ _ x h fun ds S1 l H1 hr x1 => k.nx _ _ _ hr (x1.slot i hT)⟩
theorem setO_of {X : Cx} {st : Stmt} {i : Nat} {te : TE} (h : PS X st (tAsg te (gName i))) : PS X st (tAsg te (gOwn i)) := h
def rAugU : TIp := fun x y H Q => ipI (fun i j => i + j) x y H Q ∨ rAddS x y H Q ∨ rExt2 x y H Q
theorem ip_augU {X : Cx} : PIp X .Add rAugU := by
  intro pins s σ H x y v u Q I rx ry h
  rcases h with h | h | h
  · exact ip_add pins s σ H x y v u Q I rx ry h
  · exact iop_add_str pins s σ H x y v u Q I rx ry h
  · exact iop_ext pins s σ H x y v u Q I rx ry h
def augF (i : Nat) (S : PSt) (Q : PSt → Prop) : Option (Option PC) → D → Prop
  | some (some (.val (.int a))), .int b => Q (S.set i (.val (.int (a + b))))
  | some (some (.val (.str a))), .str b => a.length + b.length ≤ 1000000 ∧ Q (S.set i (.val (.str (a ++ b))))
  | some (some (.ownL ds)), .lst es => ds.length + es.length ≤ 1000000 ∧ Q (S.set i (.ownL (ds ++ es)))
  | _, _ => False
def tdAug (i : Nat) (te : TDE) : TDS := fun E S => (∃ c, S.ρ[i]? = some (some c)) ∧ te S fun r S1 => dd1 S1 r (augF i S1 E.nx S1.ρ[i]?)
theorem set_self {α : Type} {l : List α} {i : Nat} {a : α} (h : l[i]? = some a) : l.set i a = l := by
  apply List.ext_getElem?
  intro j
  rw [List.getElem?_set]
  by_cases q : i = j
  · subst q
    have := (List.getElem?_eq_some_iff.mp h).1
    rw [if_pos rfl, if_pos this, h]
  · rw [if_neg q]
instance simAug {i : Nat} {te : TE} {t : TDE} [h1 : SimE K e te t] : SimS K e (tAug i te rAugU) (tdAug i t) := ⟨fun σ H S T Ed E hT x h k => by
  obtain ⟨⟨c0, hc0⟩, h⟩ := h
  obtain ⟨v, hv⟩ : ∃ v, σ[i]? = some (some v) := by
    obtain ⟨U, x⟩ := x
    obtain ⟨v, h1, _⟩ := x.slot i c0 hc0
    exact ⟨v, h1⟩
  refine ⟨v, hv, h1.run σ H S T _ _ x h fun r S1 w H1 hr x1 => ?_⟩
  obtain ⟨b, hb, h⟩ := dd1_inv hr
  obtain ⟨U, wT, vw, w2⟩ := x1.one hb
  match q : S1.ρ[i]?, b, h, vw with
  | some (some (.val (.int a))), .int b, h, vw =>
    obtain ⟨v', e1, e2⟩ := wT.slot i _ q
    rw [hv] at e1; cases e1
    have e2 : Dv K S1.W.Tp (Hd U H1) v (.int a) := e2
    cases e2
    rw [vw.int]
    exact .inl ⟨a, b, rfl, rfl, k.nx _ _ _ h ⟨U, wT.setVal (.int _) (hT.ne i)⟩⟩
  | some (some (.val (.str a))), .str b, h, vw =>
    obtain ⟨v', e1, e2⟩ := wT.slot i _ q
    rw [hv] at e1; cases e1
    have e2 : Dv K S1.W.Tp (Hd U H1) v (.str a) := e2
    cases e2
    rw [vw.str]
    exact .inr (.inl ⟨a, b, rfl, rfl, big_of h.1, k.nx _ _ _ h.2 ⟨U, wT.setVal (.str _) (hT.ne i)⟩⟩)
  | some (some (.ownL ds)), .lst es, h, ⟨p, ys, e1, g1, g2⟩ =>
    subst e1
    obtain ⟨l, vs, e1, ow, e2, e3⟩ := wT.ownL q
    rw [hv] at e1; cases e1
    refine .inr (.inr ⟨l, p, vs, ys, rfl, rfl, e2, g1, big_of (by rw [e3.len, g2.len]; exact h.1), k.nx _ _ _ h.2 ?_⟩)
    rw [set_self hv]
    exact ⟨U, wT.updO (c' := .ownL (ds ++ es)) q trivial trivial hv ow ⟨l, vs ++ ys, rfl, ow, upd_same, DvL.le (Same.lq (Hd.upd ow.u)) (fun _ z => z) (e3.app g2)⟩⟩⟩
def tdWhile (c : TDT) (tb : TDS) : TDS := fun E S => ∃ W : Nat → PSt → Prop, (∃ m, W m S) ∧ ∀ m S, W m S → c S fun b S1 => if b = true then ∃ N : PSt → Prop, (∀ S', N S' → ∃ m', m' < m ∧ W m' S') ∧ tb ⟨N, E.rt, E.nx, N, E.rn⟩ S1 else E.nx S1
instance simWhile {c : TT} {tb : TS} {c' : TDT} {tb' : TDS} [h1 : SimT K e c c'] [h2 : SimS K e tb tb'] : SimS K e (tWhile c tb) (tdWhile c' tb') := ⟨fun σ H S T Ed E hT x h k => by
  obtain ⟨W, ⟨m, w0⟩, h⟩ := h
  refine ⟨fun m σ H => ∃ S, W m S ∧ R K e σ H S T, ⟨m, S, w0, x⟩, ?_⟩
  rintro m σ H ⟨S, w, x⟩
  refine h1.run σ H S T _ _ x (h m S w) fun b S1 H1 hb x1 => ?_
  cases b
  · exact k.nx _ _ _ hb x1
  · obtain ⟨N, hN, hb⟩ := hb
    refine ⟨fun σ H => ∃ S, N S ∧ R K e σ H S T, ?_, ?_⟩
    · rintro σ' H' ⟨S', n, x'⟩
      obtain ⟨m', hm, w'⟩ := hN S' n
      exact ⟨m', hm, S', w', x'⟩
    · exact h2.run σ H1 S1 T _ _ hT x1 hb ⟨fun S' σ' H' n x' => ⟨S', n, x'⟩, k.rt, k.nx, fun S' σ' H' n x' => ⟨S', n, x'⟩, k.rn⟩⟩
abbrev TDI := PSt → (List D → PSt → Prop) → Prop
def ItOk (K : PySem.W.Frag) (e : Ent) (J : It) (ds : List D) (T1 : List Tm) : Prop := ∀ (i : Nat) (σ : St) (H : Hp) (S : PSt) (T : List Tm), R K e σ H S (T1 ++ T) →
  (ds.length ≤ i → J.stop i H) ∧ (i < ds.length → J.go i H ∧ ∀ x H', J.yld i H x H' → ∃ d, ds[i]? = some d ∧ R K e σ H' S (.v x (.d d) :: (T1 ++ T)))
def PlainT (T : List Tm) : Prop := NoOwn T ∧ ∀ l, NoTm T l
class SimI (K : PySem.W.Frag) (e : Ent) (wi : TI) (ti : outParam TDI) : Prop where
  run : ∀ (σ : St) (H : Hp) (S : PSt) (T : List Tm) (Qd : List D → PSt → Prop) (Rr : It → Hp → Prop), R K e σ H S T → ti S Qd → (∀ ds S' J H' T1, Qd ds S' → PlainT T1 → ItOk K e J ds T1 → R K e σ H' S' (T1 ++ T) → Rr J H') → wi σ H Rr
theorem plain1 {v : V} {d : D} : PlainT [.v v (.d d)] := by
  refine ⟨fun p hp w j z => ?_, fun l ds hm => ?_⟩
  · rw [List.mem_singleton.mp hp] at z; cases z
  · have := List.mem_singleton.mp hm; cases this
theorem plain0 : PlainT [] := by
  refine ⟨fun p hp => ?_, fun l ds hm => ?_⟩
  · cases hp
  · cases hm
theorem itOk_list {a : Addr} {ds : List D} : ItOk K e (Itl K a) ds [.v (.ref a) (.d (.lst ds))] := fun i σ H S T ⟨U, x⟩ => by
  have hv : Dv K S.W.Tp (Hd U H) (.ref a) (.lst ds) := x.tmp (.v (.ref a) (.d (.lst ds))) (by simp)
  obtain ⟨a', xs, e1, h, t⟩ : Vw K S.W.Tp U H (.ref a) (.lst ds) := Dv.vw hv
  · cases e1
    refine ⟨fun hi => ⟨xs, SqL.of h, by rw [t.len]; exact hi⟩, fun hi => ?_⟩
    obtain ⟨v, h1, h2⟩ := t.get (List.getElem?_eq_getElem hi)
    refine ⟨⟨xs, v, SqL.of h, h1⟩, ?_⟩
    rintro w H' ⟨rfl, hw⟩
    have := hw xs (SqL.of h)
    rw [h1] at this; cases this
    exact ⟨_, List.getElem?_eq_getElem hi, U, x.push h2⟩
theorem itOk_tup {a : Addr} {ds : List D} : ItOk K e (Itt K a) ds [.v (.ref a) (.d (.tup ds))] := fun i σ H S T ⟨U, x⟩ => by
  have hv : Dv K S.W.Tp (Hd U H) (.ref a) (.tup ds) := x.tmp (.v (.ref a) (.d (.tup ds))) (by simp)
  obtain ⟨a', xs, e1, h, t⟩ : Vw K S.W.Tp U H (.ref a) (.tup ds) := Dv.vw hv
  · cases e1
    have h := SqT.same Hd.sub h
    refine ⟨fun hi => ⟨xs, h, by rw [t.len]; exact hi⟩, fun hi => ?_⟩
    obtain ⟨v, h1, h2⟩ := t.get (List.getElem?_eq_getElem hi)
    refine ⟨⟨xs, v, h, h1⟩, ?_⟩
    rintro w H' ⟨rfl, hw⟩
    have := hw xs h
    rw [h1] at this; cases this
    exact ⟨_, List.getElem?_eq_getElem hi, U, x.push h2⟩
def signs (z : Str) : List D := z.cps.toList.map fun c => D.str ⟨#[c]⟩
theorem itOk_str {z : Str} : ItOk K e (Its z) (signs z) [] := fun i σ H S T x => by
  have hl : (signs z).length = z.cps.size := by simp [signs]
  rw [hl]
  refine ⟨fun hi => hi, fun hi => ⟨hi, ?_⟩⟩
  rintro w H' ⟨rfl, c, hc, rfl⟩
  obtain ⟨U, x⟩ := x
  refine ⟨.str ⟨#[c]⟩, ?_, U, x.push (.str _)⟩
  rw [signs, List.getElem?_map, Array.getElem?_toList, hc]; rfl
def rng (lo : Int) (n : Nat) : List D := (List.range n).map fun (i : Nat) => D.int (lo + (i : Int))
theorem itOk_rng {lo : Int} {n : Nat} : ItOk K e (Itr lo n) (rng lo n) [] := fun i σ H S T x => by
  have hl : (rng lo n).length = n := by simp [rng]
  rw [hl]
  refine ⟨fun hi => hi, fun hi => ⟨hi, ?_⟩⟩
  rintro w H' ⟨rfl, rfl⟩
  obtain ⟨U, x⟩ := x
  refine ⟨.int (lo + i), ?_, U, x.push (.int _)⟩
  rw [rng, List.getElem?_map, List.getElem?_range hi]; rfl
theorem DvK.keys {Tp : Addr → Prop} {H : Hp} : ∀ {vs : List (Key × V)} {ds : List (Key × D)}, DvK K Tp H vs ds → (ds.map fun p => keyV p.1) = vs.map fun p => keyV p.1
  | _, _, .nil => rfl
  | _, _, .cons _ t => by rw [List.map_cons, List.map_cons, DvK.keys t]
theorem plainP {a : Addr} {o : Obj} {w : HO} : PlainT [.pin a o w] := by
  refine ⟨fun p hp w j z => ?_, fun l ds hm => ?_⟩
  · rw [List.mem_singleton.mp hp] at z; cases z
  · have := List.mem_singleton.mp hm; cases this
theorem keyV_dv {Tp : Addr → Prop} {H : Hp} : ∀ k : Key, Dv K Tp H (kV k) (keyV k)
  | .inl i => .int i
  | .inr x => .str x
theorem itOk_keys {a : Addr} {o : Obj} {xs : List (Key × V)} : ItOk K e (Itk a o xs) (xs.map fun p => keyV p.1) [.pin a o (.dK xs)] := fun i σ H S T ⟨U, x⟩ => by
  obtain ⟨nu, h⟩ := x.tmp (.pin a o (.dK xs)) (by simp)
  have hl : (xs.map fun p => keyV p.1).length = xs.length := by simp
  rw [hl]
  refine ⟨fun hi => ⟨h, hi⟩, fun hi => ⟨⟨h, hi⟩, ?_⟩⟩
  rintro w H' ⟨rfl, k, v, hk, rfl⟩
  refine ⟨keyV k, ?_, U, x.push (keyV_dv k)⟩
  rw [List.getElem?_map, hk]; rfl
def iAny (K : PySem.W.Frag) (td : TE) : TI := fun σ H R => td σ H fun x H1 => (∃ a, x = .ref a ∧ (((∃ xs, SqL K H1 a xs) ∧ R (Itl K a) H1) ∨ ((∃ xs, SqT K H1 a xs) ∧ R (Itt K a) H1))) ∨ (∃ z, x = .str z ∧ R (Its z) H1) ∨ ∃ d kvs, x = .ref d ∧ ((∃ o, H1 d = some (.frz o (.dK kvs)) ∧ R (Itk d o kvs) H1) ∨ (H1 d = some (.dK kvs) ∧ ∀ od, R (Itk d od kvs) (upd H1 d (.frz od (.dK kvs)))))
theorem pi_any {X : Cx} {tg l : Expr} {tl : TE} (K : PySem.W.Frag) (hl : PE X l tl) (hK : X.K = K := by rfl) : PI X tg l (iAny K tl) := by
  subst hK
  refine ⟨fun pins s σ H R I hw => ?_⟩
  refine thn (hl.run pins s σ H _ I hw) fun v s1 ⟨x, H1, J, r1, q1⟩ => ?_
  rcases q1 with ⟨a, rfl, ⟨⟨xs, hx⟩, q⟩ | ⟨⟨xs, hx⟩, q⟩⟩ | ⟨z, rfl, q⟩ | ⟨d, kvs, rfl, ⟨o, hd, q⟩ | ⟨hd, q⟩⟩
  · cases r1
    have fp : ∀ b ∈ [s1.heap.objs.size], FpOk X pins H1 b := fun b hb => by
      rw [List.mem_singleton.mp hb]
      exact J.fpOk (Nat.le_refl _) (J.hok.fresh (Nat.le_refl _))
    obtain ⟨its, _, p, _⟩ := J.list hx
    exact wpAny_pyIter_list p.isList ⟨_, _, _, _, H1, rfl, J.kept (t' := s1.toks) fun _ _ e => Heap.get?_push_of_some _ e, turn_list a _, ⟨_, Heap.get?_push_size _ rfl, rfl, rfl⟩, fp, q⟩
  · cases r1
    have fp : ∀ b ∈ [s1.heap.objs.size], FpOk X pins H1 b := fun b hb => by
      rw [List.mem_singleton.mp hb]
      exact J.fpOk (Nat.le_refl _) (J.hok.fresh (Nat.le_refl _))
    obtain ⟨its, _, p, _⟩ := J.tuple hx
    exact wpAny_pyIter_tuple (show s1.heap.IsTuple a its.toArray from p) ⟨_, _, _, _, H1, rfl, J.kept (t' := s1.toks) fun _ _ e => Heap.get?_push_of_some _ e, turn_tuple a _, ⟨_, Heap.get?_push_size _ rfl, rfl, rfl⟩, fp, q⟩
  · obtain ⟨t, rfl⟩ := r1
    cases ha : z.cps.all (· < 128)
    · exact PySem.wpAny_pyIter_wide ha (pi_one (tk := s1.toks) J _ (turn_str _ z t "str_iterator" (.inr rfl)) ⟨_, Heap.get?_push_size _ rfl, rfl, rfl⟩ q)
    · exact PySem.wpAny_pyIter_ascii ha (pi_one (tk := s1.toks) J _ (turn_str _ z t "str_ascii_iterator" (.inl rfl)) ⟨_, Heap.get?_push_size _ rfl, rfl, rfl⟩ q)
  · obtain rfl : v = Value.ref d := r1
    obtain ⟨hs, hgd, hx, es, ep, vs, hdt, hsz, kv, hm⟩ := J.frzK hd
    refine iter_keys hs hgd hx hdt (pi_one (tk := s1.toks) J _ (turn_keys _ hdt) ⟨_, Heap.get?_push_size _ rfl, rfl, ?_⟩ q)
    rw [hsz] <;> rfl
  · obtain rfl : v = Value.ref d := r1
    obtain ⟨od, J⟩ := J.lock hd trivial
    have q := q od
    obtain ⟨hs, hgd, hx, es, ep, vs, hdt, hsz, kv, hm⟩ := J.frzK (upd_same (H := H1))
    refine iter_keys hs hgd hx hdt (pi_one (tk := s1.toks) J _ (turn_keys _ hdt) ⟨_, Heap.get?_push_size _ rfl, rfl, ?_⟩ q)
    rw [hsz] <;> rfl
def walkF (Q : List D → Prop) : D → Prop
  | .lst ds => Q ds
  | .tup ds => Q ds
  | .str z => Q (signs z)
  | .dct ks => Q (ks.map fun p => keyV p.1)
  | _ => False
def tiAny (td : TDE) : TDI := fun S Q => td S fun r S1 => frc r S1 fun d S2 => walkF (fun ds => Q ds S2) d
theorem R.frz {σ : St} {H : Hp} {S : PSt} {T : List Tm} {v : V} {d : D} (x : R K e σ H S (.v v (.d d) :: T)) : ∃ U, RU K e σ H S T U ∧ Dv K S.W.Tp (Hd U H) v d ∧ RU K e σ H S (.v v (.d d) :: T) U := by
  obtain ⟨U, x⟩ := x
  exact ⟨U, x.less fun p hp => List.mem_cons_of_mem _ hp, x.tmp (.v v (.d d)) (by simp), x⟩
theorem Dv.dct_inv {Tp : Addr → Prop} {H : Hp} {v : V} {ks : List (Key × D)} (h : Dv K Tp H v (.dct ks)) : ∃ a xs, v = .ref a ∧ Rd H a (.dK xs) ∧ DvK K Tp H xs ks := by
  cases h with
  | dct h t => exact ⟨_, _, rfl, h, t⟩
instance simIAny {td : TE} {td' : TDE} [h1 : SimE K e td td'] : SimI K e (iAny K td) (tiAny td') := ⟨fun σ H S T Qd Rr x h k => by
  refine h1.run σ H S T _ _ x h fun r S1 v H1 hr x1 => x1.frc hr fun d S2 h3 x2 => ?_
  obtain ⟨U, x3, dv, x4⟩ := x2.frz
  match d, h3, dv, x4 with
  | .lst ds, h3, dv, x4 =>
    obtain ⟨a, xs, rfl, g1, g2⟩ : Vw K S2.W.Tp U H1 v (.lst ds) := Dv.vw dv
    exact .inl ⟨a, rfl, .inl ⟨⟨xs, SqL.of g1⟩, k _ _ _ _ [.v (.ref a) (.d (.lst ds))] h3 plain1 itOk_list ⟨U, x4⟩⟩⟩
  | .tup ds, h3, dv, x4 =>
    obtain ⟨a, xs, rfl, g1, g2⟩ : Vw K S2.W.Tp U H1 v (.tup ds) := Dv.vw dv
    exact .inl ⟨a, rfl, .inr ⟨⟨xs, SqT.same Hd.sub g1⟩, k _ _ _ _ [.v (.ref a) (.d (.tup ds))] h3 plain1 itOk_tup ⟨U, x4⟩⟩⟩
  | .str z, h3, dv, x4 =>
    have ev : v = .str z := by cases dv; rfl
    exact .inr (.inl ⟨z, ev, k _ _ _ _ [] h3 plain0 itOk_str ⟨U, x3⟩⟩)
  | .dct ks, h3, dv, x4 =>
    obtain ⟨a, xs, rfl, h, t⟩ := Dv.dct_inv dv
    have h3 : Qd (ks.map fun p => keyV p.1) S2 := h3
    rw [t.keys] at h3
    rcases h with h | ⟨o, h⟩
    · obtain ⟨h, nu⟩ := Hd.of h
      exact .inr (.inr ⟨a, xs, rfl, .inr ⟨h, fun od => k _ _ _ _ [.pin a od (.dK xs)] h3 plainP itOk_keys ⟨U, x3.lock h nu⟩⟩⟩)
    · obtain ⟨h, nu⟩ := Hd.of h
      exact .inr (.inr ⟨a, xs, rfl, .inl ⟨o, h, k _ _ _ _ [.pin a o (.dK xs)] h3 plainP itOk_keys ⟨U, x3.push ⟨nu, h⟩⟩⟩⟩)⟩
def tiRng1 (ta : TDA) : TDI := fun S Q => ta S fun rs S1 => arg1 rs fun r => asI r fun j => -(2 ^ 62) ≤ j ∧ j < 2 ^ 62 ∧ Q (rng 0 j.toNat) S1
instance simRng1 {ta : TA} {ta' : TDA} [h1 : SimA K e ta ta'] : SimI K e (iRng1 ta) (tiRng1 ta') := ⟨fun σ H S T Qd Rr x h k => by
  refine h1.run σ H S T _ _ x h fun rs S1 vs H1 hr hl x1 => ?_
  obtain ⟨r, rfl, hr⟩ := arg1_inv hr
  obtain ⟨v, rfl⟩ := len1 hl
  match r, hr, x1 with
  | .d (.int j), hr, x1 =>
    obtain ⟨U, x3, dv, x4⟩ := R.frz (T := T) x1
    cases dv
    exact ⟨j, rfl, hr.1, hr.2.1, k _ _ _ _ [] hr.2.2 plain0 itOk_rng ⟨U, x3⟩⟩⟩
def tiRng2 (ta : TDA) : TDI := fun S Q => ta S fun rs S1 => arg2 rs fun r q => asI r fun i => asI q fun j => (-(2 ^ 62) ≤ i ∧ i < 2 ^ 62 ∧ -(2 ^ 62) ≤ j ∧ j < 2 ^ 62) ∧ Q (rng i (j - i).toNat) S1
instance simRng2 {ta : TA} {ta' : TDA} [h1 : SimA K e ta ta'] : SimI K e (iRng2 ta) (tiRng2 ta') := ⟨fun σ H S T Qd Rr x h k => by
  refine h1.run σ H S T _ _ x h fun rs S1 vs H1 hr hl x1 => ?_
  obtain ⟨r, q, rfl, hr⟩ := arg2_inv hr
  obtain ⟨v, w, rfl⟩ := len2 hl
  match r, q, hr, x1 with
  | .d (.int i), .d (.int j), hr, ⟨U, x1⟩ =>
    have d1 : Dv K S1.W.Tp (Hd U H1) v (.int i) := x1.tmp (.v v (.d (.int i))) (by simp [tms])
    have d2 : Dv K S1.W.Tp (Hd U H1) w (.int j) := x1.tmp (.v w (.d (.int j))) (by simp [tms])
    cases d1
    cases d2
    exact ⟨i, j, rfl, hr.1, k _ _ _ _ [] hr.2 plain0 itOk_rng ⟨U, x1.less fun p hp => by simp at hp; simp [tms, hp]⟩⟩⟩
def forD (g : TDG) (tb : TDS) (E : DEnds) : List D → PSt → Prop
  | [], S => E.nx S
  | d :: ds, S => ∃ N : PSt → Prop, (∀ S', N S' → forD g tb E ds S') ∧ g d S fun S2 => tb ⟨N, E.rt, E.nx, N, E.rn⟩ S2
def tdFor (wi : TDI) (g : TDG) (tb : TDS) : TDS := fun E S => wi S fun ds S1 => forD g tb E ds S1
theorem NoOwn.app {T T1 : List Tm} (h1 : NoOwn T1) (h : NoOwn T) : NoOwn (T1 ++ T) := fun p hp => by
  rcases List.mem_append.mp hp with hp | hp
  · exact h1 p hp
  · exact h p hp
theorem Lnk.more {T T1 : List Tm} {Ed : DEnds} {E : Ends} (k : Lnk K e T Ed E) : Lnk K e (T1 ++ T) Ed E where
  nx := fun S σ H h x => k.nx S σ H h x.tail
  rt := fun d S σ v H h x => k.rt d S σ v H h (x.less fun p hp => by
    rcases List.mem_cons.mp hp with rfl | hp
    · exact List.mem_cons_self
    · exact List.mem_cons_of_mem _ (List.mem_append_right _ hp))
  bk := fun S σ H h x => k.bk S σ H h x.tail
  ct := fun S σ H h x => k.ct S σ H h x.tail
  rn := fun ds S σ l H h x => k.rn ds S σ l H h x.tail
instance simFor {wi : TI} {g : TG} {tb : TS} {wi' : TDI} {g' : TDG} {tb' : TDS} [h1 : SimI K e wi wi'] [h2 : SimG K e g g'] [h3 : SimS K e tb tb'] : SimS K e (tFor wi g tb) (tdFor wi' g' tb') := ⟨fun σ H S T Ed E hT x h k => by
  refine h1.run σ H S T _ _ x h fun ds S1 J H1 T1 hd pT it x1 => ?_
  refine ⟨fun i m σ H => m = ds.length - i ∧ i ≤ ds.length ∧ ∃ S, forD g' tb' Ed (ds.drop i) S ∧ R K e σ H S (T1 ++ T), ⟨_, rfl, Nat.zero_le _, S1, hd, x1⟩, ?_⟩
  rintro i m σ H ⟨rfl, hi, S, hf, x⟩
  obtain ⟨i1, i2⟩ := it i σ H S T x
  by_cases c : i < ds.length
  · obtain ⟨g1, g2⟩ := i2 c
    rw [List.drop_eq_getElem_cons c] at hf
    obtain ⟨N, hN, hf⟩ := hf
    refine .inr ⟨g1, fun σ' H' => ∃ S', N S' ∧ R K e σ' H' S' (T1 ++ T), ?_, fun v H' hy => ?_⟩
    · rintro σ' H' ⟨S', n, x'⟩
      exact ⟨ds.length - (i + 1), by omega, rfl, by omega, S', hN S' n, x'⟩
    · obtain ⟨d, hd', x'⟩ := g2 v H' hy
      have : d = ds[i] := by rw [List.getElem?_eq_getElem c] at hd'; exact (Option.some.inj hd').symm
      subst this
      refine h2.run v _ σ H' S (T1 ++ T) _ _ (pT.1.app hT) x' hf fun S2 σ2 H2 hb x2 => ?_
      have kk := k.more (T1 := T1)
      exact h3.run σ2 H2 S2 (T1 ++ T) _ _ (pT.1.app hT) x2 hb ⟨fun S' σ' H' n x' => ⟨S', n, x'⟩, kk.rt, kk.nx, fun S' σ' H' n x' => ⟨S', n, x'⟩, kk.rn⟩
  · refine .inl ⟨i1 (by omega), ?_⟩
    rw [List.drop_of_length_le (by omega)] at hf
    exact k.nx _ _ _ hf x.tail⟩
class SimZ (K : PySem.W.Frag) (e : Ent) (ts : TS) (t : outParam TDS) : Prop where
  run : ∀ (σ : St) (H : Hp) (S : PSt) (Ed : DEnds) (E : Ends), R K e σ H S [] → t Ed S → Lnk K e [] Ed E → ts E σ H
theorem noOwn0 : NoOwn [] := fun p hp => by cases hp
instance (priority := low) simZ_of {ts : TS} {t : TDS} [h : SimS K e ts t] : SimZ K e ts t := ⟨fun σ H S Ed E x q k => h.run σ H S [] Ed E noOwn0 x q k⟩
instance simZSeq {t u : TS} {t' u' : TDS} [h1 : SimZ K e t t'] [h2 : SimZ K e u u'] : SimZ K e (tSeq t u) (tdSeq t' u') := ⟨fun σ H S Ed E x h k =>
  h1.run σ H S { Ed with nx := u' Ed } _ x h { k with nx := fun S1 σ1 H1 h1 x1 => h2.run σ1 H1 S1 Ed E x1 h1 k }⟩
instance simZIf {c : TT} {t u : TS} {c' : TDT} {t' u' : TDS} [h0 : SimT K e c c'] [h1 : SimZ K e t t'] [h2 : SimZ K e u u'] : SimZ K e (tIfS c t u) (tdIfS c' t' u') := ⟨fun σ H S Ed E x h k => by
  refine h0.run σ H S [] _ _ x h fun b S1 H1 hb x1 => ?_
  cases b
  · exact h2.run σ H1 S1 Ed E x1 hb k
  · exact h1.run σ H1 S1 Ed E x1 hb k⟩
instance simZWhile {c : TT} {tb : TS} {c' : TDT} {tb' : TDS} [h1 : SimT K e c c'] [h2 : SimZ K e tb tb'] : SimZ K e (tWhile c tb) (tdWhile c' tb') := ⟨fun σ H S Ed E x h k => by
  obtain ⟨W, ⟨m, w0⟩, h⟩ := h
  refine ⟨fun m σ H => ∃ S, W m S ∧ R K e σ H S [], ⟨m, S, w0, x⟩, ?_⟩
  rintro m σ H ⟨S, w, x⟩
  refine h1.run σ H S [] _ _ x (h m S w) fun b S1 H1 hb x1 => ?_
  cases b
  · exact k.nx _ _ _ hb x1
  · obtain ⟨N, hN, hb⟩ := hb
    refine ⟨fun σ H => ∃ S, N S ∧ R K e σ H S [], ?_, ?_⟩
    · rintro σ' H' ⟨S', n, x'⟩
      obtain ⟨m', hm, w'⟩ := hN S' n
      exact ⟨m', hm, S', w', x'⟩
    · exact h2.run σ H1 S1 _ _ x1 hb ⟨fun S' σ' H' n x' => ⟨S', n, x'⟩, k.rt, k.nx, fun S' σ' H' n x' => ⟨S', n, x'⟩, k.rn⟩⟩
class SimI0 (K : PySem.W.Frag) (e : Ent) (wi : TI) (ti : outParam TDI) : Prop where
  run : ∀ (σ : St) (H : Hp) (S : PSt) (Qd : List D → PSt → Prop) (Rr : It → Hp → Prop), R K e σ H S [] → ti S Qd → (∀ ds S' J H', Qd ds S' → ItOk K e J ds [] → R K e σ H' S' [] → Rr J H') → wi σ H Rr
instance simRng10 {ta : TA} {ta' : TDA} [h1 : SimA K e ta ta'] : SimI0 K e (iRng1 ta) (tiRng1 ta') := ⟨fun σ H S Qd Rr x h k => by
  refine h1.run σ H S [] _ _ x h fun rs S1 vs H1 hr hl x1 => ?_
  obtain ⟨r, rfl, hr⟩ := arg1_inv hr
  obtain ⟨v, rfl⟩ := len1 hl
  match r, hr, x1 with
  | .d (.int j), hr, x1 =>
    obtain ⟨U, x3, dv, x4⟩ := R.frz (T := []) x1
    cases dv
    exact ⟨j, rfl, hr.1, hr.2.1, k _ _ _ _ hr.2.2 itOk_rng ⟨U, x3⟩⟩⟩
instance simZFor {wi : TI} {g : TG} {tb : TS} {wi' : TDI} {g' : TDG} {tb' : TDS} [h1 : SimI0 K e wi wi'] [h2 : SimG K e g g'] [h3 : SimZ K e tb tb'] : SimZ K e (tFor wi g tb) (tdFor wi' g' tb') := ⟨fun σ H S Ed E x h k => by
  refine h1.run σ H S _ _ x h fun ds S1 J H1 hd it x1 => ?_
  refine ⟨fun i m σ H => m = ds.length - i ∧ i ≤ ds.length ∧ ∃ S, forD g' tb' Ed (ds.drop i) S ∧ R K e σ H S [], ⟨_, rfl, Nat.zero_le _, S1, hd, x1⟩, ?_⟩
  rintro i m σ H ⟨rfl, hi, S, hf, x⟩
  obtain ⟨i1, i2⟩ := it i σ H S [] x
  by_cases c : i < ds.length
  · obtain ⟨g1, g2⟩ := i2 c
    rw [List.drop_eq_getElem_cons c] at hf
    obtain ⟨N, hN, hf⟩ := hf
    refine .inr ⟨g1, fun σ' H' => ∃ S', N S' ∧ R K e σ' H' S' [], ?_, fun v H' hy => ?_⟩
    · rintro σ' H' ⟨S', n, x'⟩
      exact ⟨ds.length - (i + 1), by omega, rfl, by omega, S', hN S' n, x'⟩
    · obtain ⟨d, hd', x'⟩ := g2 v H' hy
      have : d = ds[i] := by rw [List.getElem?_eq_getElem c] at hd'; exact (Option.some.inj hd').symm
      subst this
      refine h2.run v _ σ H' S [] _ _ noOwn0 x' hf fun S2 σ2 H2 hb x2 => ?_
      exact h3.run σ2 H2 S2 _ _ x2 hb ⟨fun S' σ' H' n x' => ⟨S', n, x'⟩, k.rt, k.nx, fun S' σ' H' n x' => ⟨S', n, x'⟩, k.rn⟩
  · refine .inl ⟨i1 (by omega), ?_⟩
    rw [List.drop_of_length_le (by omega)] at hf
    exact k.nx _ _ _ hf x⟩
end
end Kn
set_option Elab.async false
set_option maxRecDepth 100000
set_option linter.all false
set_option autoImplicit false
namespace Kn
open PySem L2
theorem wipe_get (σ : St) (j : Nat) : ∀ vs : List Nat, (wipe σ vs)[j]? = if j ∈ vs ∧ j < σ.length then some none else σ[j]?
  | [] => by simp [wipe]
  | v :: vs => by
    unfold wipe
    rw [List.getElem?_set, wipe_length, wipe_get σ j vs]
    by_cases q : v = j
    · subst q
      rw [if_pos rfl]
      by_cases c : v < σ.length
      · simp [c]
      · simp [c]
    · rw [if_neg q]
      simp [List.mem_cons, show ¬ j = v from fun z => q z.symm]
theorem wipe_wipe (σ : St) (vs : List Nat) : wipe (wipe σ vs) vs = wipe σ vs := by
  apply List.ext_getElem?
  intro j
  rw [wipe_get (wipe σ vs), wipe_length, wipe_get σ j vs]
  split <;> rfl
theorem wipe_set {σ : St} {vs : List Nat} {i : Nat} {v : Option V} (h : i ∈ vs) : wipe (σ.set i v) vs = wipe σ vs := by
  apply List.ext_getElem?
  intro j
  rw [wipe_get, wipe_get, List.length_set, List.getElem?_set]
  by_cases q : i = j
  · subst q
    by_cases c : i < σ.length
    · rw [if_pos ⟨h, c⟩, if_pos ⟨h, c⟩]
    · simp [c]
  · rw [if_neg q]
class InL (i : Nat) (vs : List Nat) : Prop where
  mem : i ∈ vs
instance inHead {i : Nat} {vs : List Nat} : InL i (i :: vs) := ⟨List.mem_cons_self⟩
instance inMapH {i : Nat} {s : Str} {l : List (Str × Nat)} : InL i (List.map (fun x : Str × Nat => x.2) ((s, i) :: l)) := ⟨by simp⟩
instance inMapT {i : Nat} {p : Str × Nat} {l : List (Str × Nat)} [h : InL i (List.map (fun x : Str × Nat => x.2) l)] : InL i (List.map (fun x : Str × Nat => x.2) (p :: l)) := ⟨List.mem_cons_of_mem _ h.mem⟩
class GW (g : TG) (vs : List Nat) : Prop where
  w : ∀ (x : V) (σ : St) (H : Hp) (Q : St → Hp → Prop), (g x σ H fun σ2 H2 => wipe σ2 vs = wipe σ vs → Q σ2 H2) → g x σ H fun σ2 H2 => wipe σ2 vs = wipe σ vs ∧ Q σ2 H2
class GWs (g : TGs) (vs : List Nat) : Prop where
  w : ∀ (x : List V) (σ : St) (H : Hp) (Q : St → Hp → Prop), (g x σ H fun σ2 H2 => wipe σ2 vs = wipe σ vs → Q σ2 H2) → g x σ H fun σ2 H2 => wipe σ2 vs = wipe σ vs ∧ Q σ2 H2
instance gwName {i : Nat} {vs : List Nat} [h : InL i vs] : GW (gName i) vs := ⟨fun x σ H Q q => ⟨wipe_set h.mem, q (wipe_set h.mem)⟩⟩
instance gwNil {vs : List Nat} : GWs gNil vs := ⟨fun x σ H Q q => ⟨q.1, rfl, q.2 rfl⟩⟩
instance gwCons {i : Nat} {u : TGs} {vs : List Nat} [h : InL i vs] [h2 : GWs u vs] : GWs (gCons (gName i) u) vs := ⟨fun x σ H Q ⟨v, r, e, q⟩ => ⟨v, r, e, by
    have e1 : wipe (σ.set i (some v)) vs = wipe σ vs := wipe_set h.mem
    show u r (σ.set i (some v)) H fun σ2 H2 => wipe σ2 vs = wipe σ vs ∧ Q σ2 H2
    rw [← e1]
    refine h2.w r _ H Q ?_
    rw [e1]
    exact q⟩⟩
instance gwTup {K : PySem.W.Frag} {n : Nat} {t : TGs} {vs : List Nat} [h : GWs t vs] : GW (gTup K n t) vs := ⟨fun x σ H Q ⟨a, xs, e1, e2, e3, q⟩ => ⟨a, xs, e1, e2, e3, h.w _ _ _ _ q⟩⟩
def wipeR (ρ : List (Option PC)) : List Nat → List (Option PC)
  | [] => ρ
  | v :: vs => (wipeR ρ vs).set v none
theorem wipeR_length (ρ : List (Option PC)) : ∀ vs : List Nat, (wipeR ρ vs).length = ρ.length
  | [] => rfl
  | v :: vs => by unfold wipeR; rw [List.length_set, wipeR_length ρ vs]
theorem wipeR_some {ρ : List (Option PC)} {i : Nat} {x : PC} : ∀ {vs : List Nat}, (wipeR ρ vs)[i]? = some (some x) → ρ[i]? = some (some x) ∧ i ∉ vs
  | [], h => ⟨h, by simp⟩
  | v :: vs, h => by
    unfold wipeR at h
    by_cases hi : v = i
    · subst hi
      by_cases hv : v < (wipeR ρ vs).length
      · rw [List.getElem?_set_self hv] at h; cases h
      · rw [List.getElem?_eq_none (by simpa using hv)] at h; cases h
    · rw [List.getElem?_set_ne hi] at h
      obtain ⟨h1, h2⟩ := wipeR_some h
      exact ⟨h1, by simp only [List.mem_cons, not_or]; exact ⟨fun e => hi e.symm, h2⟩⟩
def PSt.wipe (S : PSt) (vs : List Nat) : PSt := ⟨wipeR S.ρ vs, S.W⟩
section
variable {K : PySem.W.Frag} {e : Ent}
theorem RU.wipe {σ : St} {H : Hp} {S : PSt} {T : List Tm} {U : Addr → Prop} (x : RU K e σ H S T U) (vs : List Nat) (hT : NoOwn T) : RU K e (L2.wipe σ vs) H (S.wipe vs) T U := x.slots (by rw [wipe_length, wipeR_length]; exact x.len) (fun i c hi => by
  obtain ⟨h1, h2⟩ := wipeR_some hi
  exact ⟨h1, by rw [wipe_get, if_neg (fun z => h2 z.1)]⟩) hT
theorem RU.unwipe {σ : St} {H : Hp} {S : PSt} {T : List Tm} {U : Addr → Prop} {vs : List Nat} (x : RU K e (L2.wipe σ vs) H (S.wipe vs) T U) (hT : NoOwn T) : RU K e σ H (S.wipe vs) T U := x.slots (by have := x.len; rw [wipe_length] at this; exact this) (fun i c hi => by
  obtain ⟨h1, h2⟩ := wipeR_some (ρ := S.ρ) hi
  exact ⟨hi, by rw [wipe_get, if_neg (fun z => h2 z.1)]⟩) hT
def notOwn : Tm → Bool
  | .v _ (.own _) => false
  | _ => true
theorem noOwn_filter (T : List Tm) : NoOwn (T.filter notOwn) := fun p hp w j z => by
  rw [List.mem_filter] at hp
  rw [z] at hp
  exact absurd hp.2 Bool.false_ne_true
theorem RU.back {σ : St} {H H0 : Hp} {S S0 : PSt} {T T1 : List Tm} {U U0 : Addr → Prop} (x0 : RU K e σ H0 S0 T U0) (x : RU K e σ H S (T1 ++ T.filter notOwn) U) : RU K e σ H S (T1 ++ T) U := { x with
  tmp := fun p hp => by
    rcases List.mem_append.mp hp with hp | hp
    · exact x.tmp p (List.mem_append_left _ hp)
    · by_cases c : notOwn p = true
      · exact x.tmp p (List.mem_append_right _ (List.mem_filter.mpr ⟨hp, c⟩))
      · match p, c, x0.tmp p hp with
        | .v w (.own j), _, h => exact h
        | .v w (.d d), c, _ => exact (c rfl).elim
        | .pin b o w, c, _ => exact (c rfl).elim
        | .nw m ds, c, _ => exact (c rfl).elim }
def compD (g : TDG) (tt : TDT) (te : TDE) (vs : List Nat) (Q : List D → PSt → Prop) : List D → List D → PSt → Prop
  | [], acc, S => Q acc S
  | d :: ds, acc, S => ∃ N : List D → PSt → Prop, (∀ a S', N a S' → compD g tt te vs Q ds a S') ∧
    g d S fun S2 => tt S2 fun b S3 => if b = true then te S3 fun r S4 => frc r S4 fun y S5 => acc.length ≤ 999999 ∧ N (acc ++ [y]) (S5.wipe vs) else N acc (S3.wipe vs)
def tnLc (wi : TDI) (g : TDG) (tt : TDT) (te : TDE) (vs : List Nat) : TDN := fun S Q => wi S fun ds S1 => compD g tt te vs Q ds [] (S1.wipe vs)
instance simLc {wi : TI} {g : TG} {tt : TT} {te : TE} {vs : List Nat} {wi' : TDI} {g' : TDG} {tt' : TDT} {te' : TDE} [h1 : SimI K e wi wi'] [h2 : SimG K e g g'] [hw : GW g vs] [h3 : SimT K e tt tt'] [h4 : SimE K e te te'] : SimN K e (tLc wi g tt te vs) (tnLc wi' g' tt' te' vs) := ⟨fun σ H S T Qd Q x0 h k => by
  obtain ⟨U0, x0⟩ := x0
  have xf : R K e σ H S (T.filter notOwn) := ⟨U0, x0.less fun p hp => (List.mem_filter.mp hp).1⟩
  have hT := noOwn_filter T
  refine h1.run σ H S (T.filter notOwn) _ _ xf h fun ds S1 J H1 T1 hd pT it x1 => ?_
  intro l hl
  have hTT : NoOwn (T1 ++ T.filter notOwn) := pT.1.app hT
  obtain ⟨U1, x1⟩ := x1
  have nt : NoTm (T1 ++ T.filter notOwn) l := by
    obtain ⟨_, _, _, f⟩ := x1.moreU (o := .lst []) hl
    exact f
  refine ⟨fun i m H => m = ds.length - i ∧ i ≤ ds.length ∧ ∃ S acc, compD g' tt' te' vs Qd (ds.drop i) acc S ∧ (∃ S0 : PSt, S = S0.wipe vs) ∧ RN K e (wipe σ vs) H S (T1 ++ T.filter notOwn) l acc, ⟨_, rfl, Nat.zero_le _, S1.wipe vs, [], hd, ⟨S1, rfl⟩, ?_⟩, ?_⟩
  · exact (x1.wipe vs hTT).newL hl .nil
  rintro i m H ⟨rfl, hi, S, acc, hf, ⟨S0, hS0⟩, x⟩
  obtain ⟨U, xs, xu, ow, ns, _, hlm, hxs⟩ := x.ex
  have xr : R K e (wipe σ vs) H S (T1 ++ (.nw l acc :: T.filter notOwn)) := ⟨U, (xu.push (p := .nw l acc) ⟨ow, ns, xs, hlm, hxs⟩).less fun p hp => by
    rcases List.mem_append.mp hp with hp | hp
    · exact List.mem_cons_of_mem _ (List.mem_append_left _ hp)
    · rcases List.mem_cons.mp hp with rfl | hp
      · exact List.mem_cons_self
      · exact List.mem_cons_of_mem _ (List.mem_append_right _ hp)⟩
  have hTn : NoOwn (T1 ++ (.nw l acc :: T.filter notOwn)) := pT.1.app fun p hp w j z => by
    rcases List.mem_cons.mp hp with rfl | hp
    · cases z
    · exact hT p hp w j z
  obtain ⟨i1, i2⟩ := it i _ H S _ xr
  have back : ∀ {σ2 : St} {H2 : Hp} {S2 : PSt}, wipe σ2 vs = wipe σ vs → R K e σ2 H2 S2 (T1 ++ (.nw l acc :: T.filter notOwn)) → RN K e (wipe σ vs) H2 (S2.wipe vs) (T1 ++ T.filter notOwn) l acc := by
    intro σ2 H2 S2 e2 x2
    obtain ⟨U2, x2⟩ := x2
    have x3 := x2.wipe vs hTn
    rw [e2] at x3
    obtain ⟨o3, n3, v3, h3, d3⟩ := x3.tmp (.nw l acc) (by simp)
    exact ⟨U2, v3, x3.less fun p hp => by
      rcases List.mem_append.mp hp with hp | hp
      · exact List.mem_append_left _ hp
      · exact List.mem_append_right _ (List.mem_cons_of_mem _ hp), o3, n3, nt, h3, d3⟩
  by_cases c : i < ds.length
  · obtain ⟨g1, g2⟩ := i2 c
    rw [List.drop_eq_getElem_cons c] at hf
    obtain ⟨N, hN, hf⟩ := hf
    refine .inr ⟨g1, fun H' => ∃ S' acc', N acc' S' ∧ (∃ S0 : PSt, S' = S0.wipe vs) ∧ RN K e (wipe σ vs) H' S' (T1 ++ T.filter notOwn) l acc', ?_, fun v H' hy => ?_⟩
    · rintro H' ⟨S', acc', n, hS', x'⟩
      exact ⟨ds.length - (i + 1), by omega, rfl, by omega, S', acc', hN _ _ n, hS', x'⟩
    · obtain ⟨d, hd', x'⟩ := g2 v H' hy
      have : d = ds[i] := by rw [List.getElem?_eq_getElem c] at hd'; exact (Option.some.inj hd').symm
      subst this
      have ww := hw.w v (wipe σ vs) H'
      rw [wipe_wipe] at ww
      refine ww _ (h2.run v _ (wipe σ vs) H' S (T1 ++ (.nw l acc :: T.filter notOwn)) _ _ hTn x' hf fun S2 σ2 H2 hb x2 e2 => ?_)
      refine h3.run σ2 H2 S2 _ _ _ x2 hb fun b S3 H3 hb x3 => ?_
      cases b
      · exact ⟨_, _, hb, ⟨_, rfl⟩, back e2 x3⟩
      · refine h4.run σ2 H3 S3 _ _ _ x3 hb fun r S4 y H4 hr x4 => x4.frc hr fun dy S5 h5 x5 => ?_
        have x6 : R K e σ2 H4 S5 (T1 ++ (.nw l acc :: T.filter notOwn)) := x5.pop
        obtain ⟨U6, v6, xu6, o6, n6, t6, hl6, d6⟩ := (back e2 x6).ex
        obtain ⟨U5, x5⟩ := x5
        have x7 := x5.wipe vs (fun p hp w j z => by
          rcases List.mem_cons.mp hp with rfl | hp
          · cases z
          · exact hTn p hp w j z)
        rw [e2] at x7
        obtain ⟨o3, n3, v3, h3, d3⟩ := x7.tmp (.nw l acc) (by simp)
        have rn : RN K e (wipe σ vs) H4 (S5.wipe vs) (.v y (.d dy) :: (T1 ++ T.filter notOwn)) l acc := ⟨U5, v3, x7.less fun p hp => by
          rcases List.mem_cons.mp hp with rfl | hp
          · exact List.mem_cons_self
          · rcases List.mem_append.mp hp with hp | hp
            · exact List.mem_cons_of_mem _ (List.mem_append_left _ hp)
            · exact List.mem_cons_of_mem _ (List.mem_append_right _ (List.mem_cons_of_mem _ hp)), o3, n3, fun ds hm => by
          rcases List.mem_cons.mp hm with z | z
          · cases z
          · exact nt ds z, h3, d3⟩
        obtain ⟨vs', e1, e3, rn'⟩ := rn.app
        exact ⟨vs', e1, Nat.lt_of_le_of_lt (by rw [e3]; exact h5.1) (by decide), _, _, h5.2, ⟨_, rfl⟩, rn'⟩
  · refine .inl ⟨i1 (by omega), ?_⟩
    rw [List.drop_of_length_le (by omega)] at hf
    subst hS0
    refine k _ _ _ _ hf ⟨U, xs, ?_⟩
    have x5 := xu.unwipe hTT
    have x6 : RU K e σ H (S0.wipe vs) ([] ++ T.filter notOwn) U := x5.less fun p hp => List.mem_append_right _ hp
    have x7 := x0.back x6
    refine ⟨x7, ow, fun j c hj oc => ?_, fun ds hm => ?_, hlm, hxs⟩
    · obtain ⟨h1, h2⟩ := wipeR_some (ρ := S0.ρ) hj
      have := ns j c hj oc
      rw [wipe_get, if_neg (fun z => h2 z.1)] at this
      exact this
    · refine nt ds (List.mem_append_right _ (List.mem_filter.mpr ⟨hm, rfl⟩))⟩
end
end Kn
set_option Elab.async false
set_option maxRecDepth 100000
set_option linter.all false
set_option autoImplicit false
namespace Kn
open PySem L2
structure Exn where
  cls : Addr
  fs : List (Str × D)
def ExOk (K : PySem.W.Frag) (U : Addr → Prop) (W : Wd) (H : Hp) (x : Exn) (c : Value) (d : Option Addr) : Prop :=
  c = .ref x.cls ∧ ((x.fs = [] ∧ d = none) ∨ (x.fs ≠ [] ∧ ∃ b vs, d = some b ∧ ¬ U b ∧ H b = some (.xd vs) ∧ DvF K W.Tp (Hd U H) vs x.fs))
class WLk (K : PySem.W.Frag) (e : Ent) (Wx : WX) (w : outParam (Exn → PSt → Prop)) : Prop where
  run : ∀ (x : Exn) (S : PSt) (σ : St) (H : Hp) (U : Addr → Prop) (c : Value) (d : Option Addr), w x S → RU K e σ H S [] U → ExOk K U S.W H x c d → Wx c d σ H
instance wlk0 {K : PySem.W.Frag} {e : Ent} : WLk K e (fun _ _ _ _ => False) (fun _ _ => False) := ⟨fun x S σ H U c d w _ _ => w⟩
abbrev FSpec := List D → Wd → (D → Wd → Prop) → (Exn → Wd → Prop) → Prop
def lift (K : PySem.W.Frag) (F : FSpec) : Sp := fun vs H Q E => ∃ (U : Addr → Prop) (W : Wd) (ds : List D) (Qd : D → Wd → Prop) (Ed : Exn → Wd → Prop), Rw K U W H ∧ DvL K W.Tp (Hd U H) vs ds ∧ F ds W Qd Ed ∧
  (∀ d W' v H' U', Qd d W' → Rw K U' W' H' → Fr ⟨U, W, H⟩ U' W' H' → Dv K W'.Tp (Hd U' H') v d → Q v H') ∧
  (∀ x W' c dd H' U', Ed x W' → Rw K U' W' H' → Fr ⟨U, W, H⟩ U' W' H' → ExOk K U' W' H' x c dd → E c dd H')
section
variable {K : PySem.W.Frag} {e : Ent}
theorem RU.callBack {σ : St} {H H' : Hp} {S : PSt} {T : List Tm} {U U' : Addr → Prop} {W' : Wd} (x : RU K e σ H S T U) (r : Rw K U' W' H') (f : Fr ⟨U, S.W, H⟩ U' W' H') {v : V} {d : D} (hv : Dv K W'.Tp (Hd U' H') v d) : R K e σ H' ⟨S.ρ, W'⟩ (.v v (.d d) :: T) :=
  ⟨U', (x.to r f).push hv⟩
def CallF (F : FSpec) (ds : List D) (S : PSt) (Q : Rv → PSt → Prop) (w : Exn → PSt → Prop) : Prop := F ds S.W (fun d W' => Q (.d d) ⟨S.ρ, W'⟩) (fun x W' => w x ⟨S.ρ, W'⟩)
def tdCall (F : FSpec) (w : Exn → PSt → Prop) (t : TDA) : TDE := fun S Q => t S fun rs S1 => frcL rs S1 fun ds S2 => CallF F ds S2 Q w
instance simCall {F : FSpec} {Wx : WX} {w : Exn → PSt → Prop} {t : TA} {t' : TDA} [h1 : SimA K e t t'] [h2 : WLk K e Wx w] : SimE K e (tCallS (lift K F) (WE Wx) t) (tdCall F w t') := ⟨fun σ H S T Qd Q x h k => by
  refine h1.run σ H S T _ _ x h fun rs S1 vs H1 hc hl x1 => ?_
  refine R.frcL hl x1 hc fun ds S2 h3 hl2 x2 => ?_
  obtain ⟨U, x2⟩ := x2
  have xT := x2.less (T' := T) fun p hp => List.mem_append_right _ hp
  refine ⟨U, S2.W, ds, _, _, x2.wo, RU.tms hl2 x2, h3, fun d W' v H' U' q r f dv => k _ _ _ _ q (xT.callBack r f dv), fun x W' c dd H' U' q r f ex => ?_⟩
  exact h2.run x ⟨S2.ρ, W'⟩ σ H' U' c dd q ((xT.to r f).less fun p hp => by cases hp) ex⟩
def S0 (N : List Str) (ds : List D) (W : Wd) : PSt := ⟨ds.map (fun d => some (.val d)) ++ List.replicate (N.length - ds.length) none, W⟩
theorem RU.start {N : List Str} {H : Hp} {vs : List V} {ds : List D} {U : Addr → Prop} {W : Wd} (r : Rw K U W H) (hv : DvL K W.Tp (Hd U H) vs ds) : RU K ⟨U, W, H⟩ (start N vs) H (S0 N ds W) [] U where
  wo := r
  fr := Fr.refl U W H
  ed := r.dom
  len := by
    show (vs.map some ++ List.replicate (N.length - vs.length) none).length = _
    simp [S0, hv.len]
  slot := fun i c h => by
    have h : (ds.map (fun d => some (PC.val d)) ++ List.replicate (N.length - ds.length) none)[i]? = some (some c) := h
    by_cases q : i < ds.length
    · rw [List.getElem?_append_left (by simpa using q), List.getElem?_map] at h
      obtain ⟨d, h1, h2⟩ := Option.map_eq_some_iff.mp h
      cases h2
      obtain ⟨v, h3, h4⟩ := hv.get h1
      refine ⟨v, ?_, h4⟩
      unfold L2.start
      have hlt : i < vs.length := by rw [hv.len]; exact q
      rw [List.getElem?_append_left (by simpa using hlt), List.getElem?_map, h3]; rfl
    · rw [List.getElem?_append_right (by simpa using q), List.getElem?_replicate] at h
      split at h
      · cases h
      · cases h
  sep := fun i j c c' l n hi oi hj oj si sj => by
    have hi : (ds.map (fun d => some (PC.val d)) ++ List.replicate (N.length - ds.length) none)[i]? = some (some c) := hi
    by_cases q : i < ds.length
    · rw [List.getElem?_append_left (by simpa using q), List.getElem?_map] at hi
      obtain ⟨d, h1, h2⟩ := Option.map_eq_some_iff.mp hi
      cases h2
      exact oi
    · rw [List.getElem?_append_right (by simpa using q), List.getElem?_replicate] at hi
      split at hi
      · cases hi
      · cases hi
  tmp := fun p hp => by cases hp
end
section
variable {P : Program} {w : World} {K : PySem.W.Frag} {mg : Str → Option Value} {base : Heap}
theorem Fz.okD {x : Str} {st : Stmt} {ps N : List Str} {k : Nat} {Fs : FSpec} (F : Fz K mg x st ps) (S : FnScope N ps (defScope st)) (hl : ∀ ds W Q E, Fs ds W Q E → ds.length = ps.length)
    (hbody : ∀ (f : Addr) (cdv : Value) (A : Around) (outer : List Env) (s : Shared) (H : Hp) (E : XK) (e : Ent) (ds : List D) (Qd : D → Wd → Prop) (Ed : Exn → Wd → Prop), Room k (A.deeper (PyProof.Rows.envOfC x (defScope st) s.heap.objs.size f cdv)) → WLk K e (fun c d _ H => E c d H) (fun x S => Ed x S.W) → Fs ds e.W Qd Ed →
      ∃ t td, PSs (cxOf (L2.CX P w) P w K mg base N x (defScope st) f cdv A outer s H E) (defBody st) t ∧ SimZ K e t td ∧ td ⟨fun S => Qd .non S.W, Qd, fun _ => False, fun _ => False, fun _ _ => False⟩ (S0 N ds e.W)) : Fx P w K mg base (L2.CX P w) x (k + 1) ps (lift K Fs) := by
  refine F.okX S (fun vs H Q E h => ?_) (fun f cdv A outer s H vs Q E hr h => ?_)
  · obtain ⟨U, W, ds, Qd, Ed, r, dv, hF, _⟩ := h
    rw [dv.len]; exact hl _ _ _ _ hF
  · obtain ⟨U, W, ds, Qd, Ed, r, dv, hF, kq, ke⟩ := h
    obtain ⟨t, td, hp, hs, ht⟩ := hbody f cdv A outer s H E ⟨U, W, H⟩ ds Qd Ed hr ⟨fun x S σ H' U' c d hw ru ex => ke x S.W c d H' U' hw ru.wo ru.fr ex⟩ hF
    refine ⟨t, hp, hs.run (start N vs) H (S0 N ds W) _ _ ⟨U, RU.start r dv⟩ ht ⟨fun S' σ' H' q ⟨U', x'⟩ => ?_, fun d S' σ' v H' q ⟨U', x'⟩ => ?_, fun _ _ _ q => q.elim, fun _ _ _ q => q.elim, fun _ _ _ _ _ q => q.elim⟩⟩
    · exact kq _ _ _ _ U' q x'.wo x'.fr .non
    · exact kq _ _ _ _ U' q x'.wo x'.fr (x'.tmp (.v v (.d d)) (by simp))
end
theorem Fz.noneD {P : Program} {w : World} {K : PySem.W.Frag} {mg : Str → Option Value} {base : Heap} {CX : CXT} {x : Str} {st : Stmt} {ps : List Str} {k : Nat} {Fs : FSpec} (F : Fz K mg x st ps) (h : ∀ ds W Q E, ¬ Fs ds W Q E) : Fx P w K mg base CX x k ps (lift K Fs) := F.none fun vs H Q E ⟨U, W, ds, Qd, Ed, _, _, z, _⟩ => h _ _ _ _ z
section
variable {K : PySem.W.Frag} {e : Ent}
end
section
variable {P : Program} {w : World} {K : PySem.W.Frag} {mg : Str → Option Value} {base : Heap}
end
def tRaise (t : St → Hp → XK → Prop) (W : WX) : TS := fun _ σ H => t σ H fun cls d H' => W cls d σ H'
def tMkO (C : Addr) : St → Hp → XK → Prop := fun _ H Q => Q (.ref C) none H
theorem ps_raiseU {X : Cx} {W : WX} {C : Addr} {ex : Expr} {pos : Pos} (hc : X.calm = true) (tk : Takes X W) (he : PMk X ex (fun _ H Q => Q (.ref C) none H)) : PS X (.Raise (some ex) none pos) (tRaise (tMkO C) W) := ps_raise hc tk he
section
variable {K : PySem.W.Frag} {e : Ent}
def tdRaise (C : Addr) (w : Exn → PSt → Prop) : TDS := fun _ S => w ⟨C, []⟩ S
instance simRaise {C : Addr} {Wx : WX} {w : Exn → PSt → Prop} [h : WLk K e Wx w] : SimS K e (tRaise (tMkO C) Wx) (tdRaise C w) := ⟨fun σ H S T Ed E hT ⟨U, x⟩ q k => h.run ⟨C, []⟩ S σ H U _ _ q (x.less fun p hp => by cases hp) ⟨rfl, .inl ⟨rfl, rfl⟩⟩⟩
def mutO (S : PSt) (j : Nat) (F : List D → (List D → Prop) → Prop) (Q : List D → PSt → Prop) : Option (Option PC) → Prop
  | some (some (.ownL ds)) => F ds fun es => Q es (S.set j (.ownL es))
  | _ => False
def mutC (S : PSt) (a : Addr) (F : List D → (List D → Prop) → Prop) (Q : List D → PSt → Prop) : Option Cell → Prop
  | some (.lst ds) => F ds fun es => Q es ⟨S.ρ, S.W.put a (.lst es)⟩
  | _ => False
def mutL (S : PSt) (r : Rv) (F : List D → (List D → Prop) → Prop) (Q : List D → PSt → Prop) : Prop := match r with
  | .own j => mutO S j F Q S.ρ[j]?
  | .d (.ref a) => mutC S a F Q (S.W.ω a)
  | _ => False
theorem R.mutL {σ : St} {H : Hp} {S : PSt} {T : List Tm} {v : V} {r : Rv} {F : List D → (List D → Prop) → Prop} {Q : List D → PSt → Prop} {C : Prop} (x : R K e σ H S (.v v r :: T)) (h : Kn.mutL S r F Q)
    (k : ∀ (l : Addr) (vs : List V) (ds : List D) (U : Addr → Prop) (Qs : List D → Prop), v = .ref l → H l = some (.lst vs) → DvL K S.W.Tp (Hd U H) vs ds → RU K e σ H S (.v v r :: T) U → F ds Qs →
      (∀ (vs' : List V) (es : List D), Qs es → DvL K S.W.Tp (Hd U H) vs' es → ∃ S', Q es S' ∧ RU K e σ (upd H l (.lst vs')) S' T U ∧ S'.W.Tp = S.W.Tp) → C) : C := by
  obtain ⟨U, x⟩ := x
  match r, x, h with
  | .own j, x, h =>
    have hs : σ[j]? = some (some v) := x.tmp (.v v (.own j)) (by simp)
    have xT := x.less (T' := T) fun p hp => List.mem_cons_of_mem _ hp
    have h : mutO S j F Q S.ρ[j]? := h
    match q : S.ρ[j]?, h with
    | some (some (.ownL ds)), h =>
      obtain ⟨l, vs, e1, ow, e2, e3⟩ := x.ownL q
      rw [hs] at e1; cases e1
      refine k l vs ds U _ rfl e2 e3 x h fun vs' es q1 d1 => ⟨_, q1, ?_, rfl⟩
      exact xT.updO (c' := .ownL es) q trivial trivial hs ow ⟨l, vs', rfl, ow, upd_same, DvL.le (Same.lq (Hd.upd ow.u)) (fun _ z => z) d1⟩
  | .d (.ref a), x, h =>
    have hv : Dv K S.W.Tp (Hd U H) v (.ref a) := x.tmp (.v v (.d (.ref a))) (by simp)
    cases hv
    have xT := x.less (T' := T) fun p hp => List.mem_cons_of_mem _ hp
    have h : mutC S a F Q (S.W.ω a) := h
    cases q : S.W.ω a with
    | none => rw [q] at h; exact h.elim
    | some c =>
      rw [q] at h
      cases c with
      | lst ds =>
        obtain ⟨u, vs, e2, e3⟩ := x.wo.cell a _ q
        refine k a vs ds U _ rfl e2 e3 x h fun vs' es q1 d1 => ⟨_, q1, ?_, rfl⟩
        exact xT.updC (c' := .lst es) q trivial ⟨vs', upd_same, DvL.le (Same.lq (Hd.upd u)) (fun _ z => z) d1⟩
      | ins C fs => exact h.elim
      | dct ks => exact h.elim
      | lk od vs ks => exact h.elim
      | dtn w o ks => exact h.elim
def tdApp (to : TDE) (t : TDA) : TDE := fun S Q => to S fun rx S1 => (∃ ds, derefD S1 rx = some (.lst ds)) ∧ t S1 fun rs S2 => arg1 rs fun r => frc r S2 fun d S3 => mutL S3 rx (fun ds k => ds.length ≤ 999999 ∧ k (ds ++ [d])) fun _ S4 => Q (.d .non) S4
theorem swap2 {σ : St} {H : Hp} {S : PSt} {T : List Tm} {p q : Tm} (x : R K e σ H S (p :: q :: T)) : R K e σ H S (q :: p :: T) := x.less fun r hr => by
  simp at hr ⊢
  rcases hr with h | h | h
  · exact .inr (.inl h)
  · exact .inl h
  · exact .inr (.inr h)
theorem tyV_list {σ : St} {H : Hp} {S : PSt} {T : List Tm} {v : V} {r : Rv} {ds : List D} (x : R K e σ H S (.v v r :: T)) (h : derefD S r = some (.lst ds)) : tyV K "list" v H := by
  obtain ⟨U, _, vw, _⟩ := x.one h
  obtain ⟨a, xs, rfl, h1, _⟩ : Vw K S.W.Tp U H v (.lst ds) := vw
  exact .inl ⟨rfl, _, SqL.of h1⟩
instance simApp {to : TE} {t : TA} {to' : TDE} {t' : TDA} [h1 : SimE K e to to'] [h2 : SimA K e t t'] : SimE K e (tBM K "list" rAppend to t) (tdApp to' t') := ⟨fun σ H S T Qd Q x h k => by
  refine h1.run σ H S T _ _ x h fun rx S1 v H1 hr x1 => ?_
  obtain ⟨⟨ds0, hd0⟩, hr⟩ := hr
  refine ⟨tyV_list x1 hd0, h2.run σ H1 S1 _ _ _ x1 hr fun rs S2 vs H2 hr hl x2 => ?_⟩
  obtain ⟨r, rfl, hr⟩ := arg1_inv hr
  obtain ⟨y, rfl⟩ := len1 hl
  refine R.frc (T := .v v rx :: T) x2 hr fun d S3 h3 x3 => ?_
  refine (swap2 x3).mutL h3 fun l xs ds U Qs e1 e2 e3 x4 hq kk => ?_
  obtain ⟨S4, q4, x5, _⟩ := kk (xs ++ [y]) (ds ++ [d]) hq.2 (e3.app (.cons (x4.tmp (.v y (.d d)) (by simp)) .nil))
  exact ⟨l, xs, y, e1, rfl, e2, bigl_of (by rw [e3.len]; have := hq.1; omega), k _ _ _ _ q4 ⟨U, (x5.less fun p hp => List.mem_cons_of_mem _ hp).push .non⟩⟩⟩
end
end Kn
set_option Elab.async false
set_option maxRecDepth 100000
set_option linter.all false
set_option autoImplicit false
namespace Kn
open PySem L2
theorem hu65_of {A : Around} {k : Nat} (hr : Room k A) : A.units + 65 < cLine := by have := hr.un; omega
theorem Fx.toX {P : Program} {w : World} {K : PySem.W.Frag} {mg : Str → Option Value} {base : Heap} {x : Str} {k : Nat} {ps : List Str} {sp : Sp} (F : Fx P w K mg base CX0 x k ps sp) : Fx P w K mg base (L2.CX P w) x k ps sp := by
  obtain ⟨f, fd, F1, m⟩ := F.ex
  refine ⟨f, fd, ⟨F1.len, fun A outer s H args us vs Q E hr e0 b v h => codeAny_mono (F1.run A outer s H args us vs Q E hr e0 b v h) fun r s' hq => ?_⟩, m⟩
  cases r with
  | error er => exact hq.elim
  | ok fl => cases fl <;> exact hq
theorem Fx.imp {P : Program} {w : World} {K : PySem.W.Frag} {mg : Str → Option Value} {base : Heap} {CX : CXT} {x : Str} {k : Nat} {ps : List Str} {sp sp' : Sp} (F : Fx P w K mg base CX x k ps sp) (h : ∀ vs H Q E, sp' vs H Q E → sp vs H Q E) : Fx P w K mg base CX x k ps sp' :=
  let ⟨f, fd, F1, m⟩ := F.ex
  ⟨f, fd, F1.imp h, m⟩
def F_take : FSpec := fun ds W Q _ => ∃ m : Int, ds = [.tape, .int m] ∧ 0 < m ∧ ∀ r : Int, 0 ≤ r → r < m → Q (.int r) W
theorem take_lift {K : PySem.W.Frag} {vs : List V} {H : Hp} {Q : VK} {E : XK} (h : lift K F_take vs H Q E) : spTake vs H Q E := by
  obtain ⟨U, W, ds, Qd, Ed, r, dv, ⟨m, rfl, hm, hq⟩, kq, _⟩ := h
  cases dv with
  | cons d1 dv =>
  cases dv with
  | cons d2 dv =>
  cases dv
  cases d1 with
  | tape ht =>
  cases d2
  rename_i t
  have htp := (r.tape t ht).2.1
  have hut := (r.tape t ht).1
  refine ⟨t, m, rfl, htp, hm, fun x H' h0 h1 d => ?_⟩
  have kp : ∀ b o, H b = some o → b ≠ t → H' b = some o := d.keep
  refine kq (.int x) W _ H' U (hq x h0 h1) ?_ ?_ (.int x)
  · have sm : Same (Hd U H) (Hd U H') := fun b o q => by
      obtain ⟨q, n⟩ := Hd.of q
      exact Hd.get (kp b o q fun z => n (z ▸ hut)) n
    refine ⟨fun b u => ?_, fun b hb => ?_, fun a c hc => ?_⟩
    · by_cases q : b = t
      · subst q
        obtain ⟨ns, z⟩ := d.tape
        rw [z]; intro z; cases z
      · cases z : H b with
        | none => exact absurd z (r.dom b u)
        | some o => rw [kp b o z q]; intro z; cases z
    · obtain ⟨a1, a2, a3⟩ := r.tape b hb
      refine ⟨a1, ?_, a3⟩
      by_cases q : b = t
      · subst q; exact d.tape
      · exact a2.le fun o z => kp b o z q
    · obtain ⟨u, ck⟩ := r.cell a c hc
      refine ⟨u, ck.le (Same.lq sm) (fun _ z => z) fun o z => kp a o z fun q => ?_⟩
      have := (r.tape t ht).2.2
      rw [← q, hc] at this; cases this
  · refine ⟨fun b o q n => .inl (kp b o q fun z => n (.inl (z ▸ ht))), fun _ u => u, fun _ u => .inl u, fun _ z => .inl z, fun _ z => z, fun b q => ?_, fun _ _ z _ => z⟩
    by_cases z : b = t
    · subst z
      obtain ⟨ns, z⟩ := d.tape
      rw [z]; intro z; cases z
    · cases q2 : H b with
      | none => exact absurd q2 q
      | some o => rw [kp b o q2 z]; intro z; cases z
def F_tape : FSpec := fun ds W Q _ => ∃ k n : Int, ds = [.scr, .int k, .int n] ∧ 0 ≤ k ∧ 0 ≤ n ∧ n ≤ 1000 ∧ ∀ Tp' : Addr → Prop, (∀ t, W.Tp t → Tp' t) → Q .tape ⟨Tp', W.ω⟩
theorem tape_lift {K : PySem.W.Frag} {vs : List V} {H : Hp} {Q : VK} {E : XK} (h : lift K F_tape vs H Q E) : ∃ (a : Addr) (k n : Int) (ns : List Int), vs = [.ref a, .int k, .int n] ∧ SqL K H a (ns.map V.int) ∧ 0 ≤ k ∧ 0 ≤ n ∧ n ≤ 1000 ∧
    ∀ (t : Addr) (H' : Hp), H t = none → Same H H' → Tape H' t → Q (.ref t) H' := by
  obtain ⟨U, W, ds, Qd, Ed, r, dv, ⟨k, n, rfl, hk, hn0, hn, hq⟩, kq, _⟩ := h
  cases dv with
  | cons d1 dv =>
  cases dv with
  | cons d2 dv =>
  cases dv with
  | cons d3 dv =>
  cases dv
  cases d1 with
  | scr hs hl =>
  cases d2
  cases d3
  rename_i a ns
  refine ⟨a, k, n, ns, rfl, Same.seq Hd.sub hs, hk, hn0, hn, fun t H' ht sm tp => ?_⟩
  have nt : ∀ b o, H b = some o → b ≠ t := fun b o q => ne_of_none q ht
  have smd : Same (Hd U H) (Hd (fun b => U b ∨ b = t) H') := fun b o q => by
    obtain ⟨q, n⟩ := Hd.of q
    exact Hd.get (sm b o q) fun z => z.elim n (nt b o q)
  refine kq .tape ⟨fun b => W.Tp b ∨ b = t, W.ω⟩ (.ref t) H' (fun b => U b ∨ b = t) (hq _ fun _ z => .inl z) ?_ ?_ (.tape (.inr rfl))
  · refine ⟨fun b u => ?_, fun b hb => ?_, fun a c hc => ?_⟩
    · rcases u with u | rfl
      · cases z : H b with
        | none => exact absurd z (r.dom b u)
        | some o => rw [sm b o z]; intro z; cases z
      · obtain ⟨ms, z⟩ := tp
        rw [z]; intro z; cases z
    · rcases hb with hb | rfl
      · obtain ⟨a1, a2, a3⟩ := r.tape b hb
        exact ⟨.inl a1, a2.le fun o z => sm b o z, a3⟩
      · refine ⟨.inr rfl, tp, ?_⟩
        show W.ω b = none
        cases z : W.ω b with
        | none => rfl
        | some c => exact absurd ht (r.dom b (r.cell b c z).1)
    · obtain ⟨u, ck⟩ := r.cell a c hc
      exact ⟨.inl u, ck.le (Same.lq smd) (fun _ z => .inl z) fun o z => sm a o z⟩
  · refine ⟨fun b o q _ => .inl (sm b o q), fun _ u => .inl u, fun b u => u.elim .inl fun z => .inr (z ▸ ht), fun b z => ?_, fun _ z => .inl z, fun b q => ?_, fun _ _ z _ => z⟩
    · rcases z with (z | z) | z
      · exact .inl (.inl z)
      · exact .inr (z ▸ ht)
      · exact .inl (.inr z)
    · cases q2 : H b with
      | none => exact absurd q2 q
      | some o => rw [sm b o q2]; intro z; cases z
end Kn
set_option Elab.async false
set_option maxRecDepth 100000
set_option linter.all false
set_option autoImplicit false
namespace Kn
open PySem L2
section
variable {α : Type} {g : TDG} {tt : TDT} {te : TDE} {vs : List Nat} {Q : List D → PSt → Prop} {tb : TDS} {E : DEnds} {S : PSt}
def turnD (g : TDG) (tt : TDT) (te : TDE) (vs : List Nat) (d : D) (S : PSt) (N : D → PSt → Prop) (M : PSt → Prop) : Prop := g d S fun S2 => tt S2 fun b S3 => if b = true then te S3 fun r S4 => frc r S4 fun y S5 => N y (S5.wipe vs) else M (S3.wipe vs)
theorem compD_fm (h : α → D) (f : α → Option D) : ∀ (xs : List α) (acc : List D), acc.length + xs.length ≤ 1000000 → (∀ x ∈ xs, ∀ (N : D → PSt → Prop) (M : PSt → Prop), (∀ y, f x = some y → N y S) → (f x = none → M S) → turnD g tt te vs (h x) S N M) → Q (acc ++ xs.filterMap f) S → compD g tt te vs Q (xs.map h) acc S
  | [], acc, _, _, q => by simpa [compD] using q
  | x :: xs, acc, hl, hs, q => by
    refine ⟨fun a S' => S' = S ∧ a = acc ++ (f x).toList, ?_, hs x (by simp) (fun y S' => acc.length ≤ 999999 ∧ S' = S ∧ acc ++ [y] = acc ++ (f x).toList) (fun S' => S' = S ∧ acc = acc ++ (f x).toList) (fun y hy => ⟨by simp at hl; omega, rfl, by rw [hy]; rfl⟩) fun hy => ⟨rfl, by rw [hy]; simp⟩⟩
    rintro a S' ⟨e, rfl⟩
    rw [e]
    refine compD_fm h f xs _ ?_ (fun y hy => hs y (by simp [hy])) ?_
    · cases f x <;> simp at hl ⊢ <;> omega
    · cases e : f x <;> simp [e] at q ⊢ <;> exact q
theorem compD_map (h f : α → D) (xs : List α) (acc : List D) (hl : acc.length + xs.length ≤ 1000000) (hs : ∀ x ∈ xs, ∀ (N : D → PSt → Prop) (M : PSt → Prop), N (f x) S → turnD g tt te vs (h x) S N M) (q : Q (acc ++ xs.map f) S) : compD g tt te vs Q (xs.map h) acc S :=
  compD_fm h (fun x => some (f x)) xs acc hl (fun x hx N M h1 _ => hs x hx N M (h1 _ rfl)) (by simpa [List.filterMap_eq_map] using q)
inductive All2 {α β : Type} (P : α → β → Prop) : List α → List β → Prop
  | nil : All2 P [] []
  | cons {a : α} {b : β} {as : List α} {bs : List β} : P a b → All2 P as bs → All2 P (a :: as) (b :: bs)
theorem compD_rel (h : α → D) (P : α → D → Prop) : ∀ (xs : List α) (acc : List D), acc.length + xs.length ≤ 1000000 → (∀ x ∈ xs, ∀ (N : D → PSt → Prop) (M : PSt → Prop), (∀ y, P x y → N y S) → turnD g tt te vs (h x) S N M) → (∀ ys, All2 P xs ys → Q (acc ++ ys) S) → compD g tt te vs Q (xs.map h) acc S
  | [], acc, _, _, q => by simpa [compD] using q [] .nil
  | x :: xs, acc, hl, hs, q => by
    refine ⟨fun a S' => S' = S ∧ ∃ y, P x y ∧ a = acc ++ [y], ?_, hs x (by simp) (fun y S' => acc.length ≤ 999999 ∧ S' = S ∧ ∃ y', P x y' ∧ acc ++ [y] = acc ++ [y']) (fun S' => S' = S ∧ ∃ y', P x y' ∧ acc = acc ++ [y']) fun y hy => ⟨by simp at hl; omega, rfl, y, hy, rfl⟩⟩
    rintro a S' ⟨e, y, hy, rfl⟩
    rw [e]
    refine compD_rel h P xs _ ?_ (fun y hy => hs y (by simp [hy])) fun ys h2 => ?_
    · simp at hl ⊢; omega
    · simpa using q (y :: ys) (.cons hy h2)
theorem All2.len {α β : Type} {P : α → β → Prop} : ∀ {as : List α} {bs : List β}, All2 P as bs → as.length = bs.length
  | _, _, .nil => rfl
  | _, _, .cons _ t => by simp [All2.len t]
theorem All2.mem {α β : Type} {P : α → β → Prop} {Q : β → Prop} (h : ∀ a b, P a b → Q b) : ∀ {as : List α} {bs : List β}, All2 P as bs → ∀ b ∈ bs, Q b
  | _, _, .cons p t, b, hb => by
    rcases List.mem_cons.mp hb with rfl | hb
    · exact h _ _ p
    · exact All2.mem h t b hb
theorem forD_ix (h : α → D) (xs : List α) (I : Nat → PSt → Prop) (h0 : I 0 S) (hs : ∀ (i : Nat) x S, xs[i]? = some x → I i S → g (h x) S fun S2 => tb ⟨I (i + 1), E.rt, E.nx, I (i + 1), E.rn⟩ S2) (hd : ∀ S, I xs.length S → E.nx S) : forD g tb E (xs.map h) S := by
  have key : ∀ (ys : List α) (i : Nat) (S : PSt), i ≤ xs.length → xs.drop i = ys → I i S → forD g tb E (ys.map h) S := by
    intro ys
    induction ys with
    | nil =>
      intro i S hle e hi
      have hge : i = xs.length := by
        have := congrArg List.length e
        simp at this; omega
      subst hge
      exact hd S hi
    | cons y ys ih =>
      intro i S hle e hi
      have hlt : i < xs.length := by
        have := congrArg List.length e
        simp at this; omega
      have hy : xs[i]? = some y := by
        rw [List.drop_eq_getElem_cons hlt] at e
        rw [List.getElem?_eq_getElem hlt]
        exact congrArg some (List.cons.inj e).1
      refine ⟨I (i + 1), fun S' h' => ih (i + 1) S' hlt ?_ h', hs i y S hy hi⟩
      rw [List.drop_eq_getElem_cons hlt] at e
      exact (List.cons.inj e).2
  exact key xs 0 S (Nat.zero_le _) (by simp) h0
theorem forD_id (xs : List D) (I : Nat → PSt → Prop) (h0 : I 0 S) (hs : ∀ (i : Nat) x S, xs[i]? = some x → I i S → g x S fun S2 => tb ⟨I (i + 1), E.rt, E.nx, I (i + 1), E.rn⟩ S2) (hd : ∀ S, I xs.length S → E.nx S) : forD g tb E xs S := by
  have := forD_ix (g := g) (tb := tb) (E := E) (S := S) id xs I h0 hs hd
  rwa [List.map_id] at this
theorem compD_mapI (f : D → D) (xs acc : List D) (hl : acc.length + xs.length ≤ 1000000) (hs : ∀ x ∈ xs, ∀ (N : D → PSt → Prop) (M : PSt → Prop), N (f x) S → turnD g tt te vs x S N M) (q : Q (acc ++ xs.map f) S) : compD g tt te vs Q xs acc S := by
  have := compD_map (g := g) (tt := tt) (te := te) (vs := vs) (Q := Q) (S := S) id f xs acc hl hs q
  rwa [List.map_id] at this
theorem compD_relI (P : D → D → Prop) (xs acc : List D) (hl : acc.length + xs.length ≤ 1000000) (hs : ∀ x ∈ xs, ∀ (N : D → PSt → Prop) (M : PSt → Prop), (∀ y, P x y → N y S) → turnD g tt te vs x S N M) (q : ∀ ys, All2 P xs ys → Q (acc ++ ys) S) : compD g tt te vs Q xs acc S := by
  have := compD_rel (g := g) (tt := tt) (te := te) (vs := vs) (Q := Q) (S := S) id P xs acc hl hs q
  rwa [List.map_id] at this
end
theorem eqOk_ii (a b : Int) : eqOk (.int a) (.int b) ↔ True := iff_true_intro (.inl rfl)
theorem eqOk_ss (a b : Str) : eqOk (.str a) (.str b) ↔ True := iff_true_intro (.inl rfl)
theorem eqOk_bb (a b : Bool) : eqOk (.bl a) (.bl b) ↔ True := iff_true_intro (.inl rfl)
theorem eqOk_nn : eqOk .non .non ↔ True := iff_true_intro (.inl rfl)
theorem eqOk_ns (a : Str) : eqOk .non (.str a) ↔ True := iff_true_intro (.inl rfl)
theorem eqOk_sn (a : Str) : eqOk (.str a) .non ↔ True := iff_true_intro (.inl rfl)
theorem eqOk_ni (a : Int) : eqOk .non (.int a) ↔ True := iff_true_intro (.inl rfl)
theorem eqOk_in (a : Int) : eqOk (.int a) .non ↔ True := iff_true_intro (.inl rfl)
theorem eqOk_si (a : Str) (b : Int) : eqOk (.str a) (.int b) ↔ True := iff_true_intro (.inl rfl)
theorem eqOk_is (a : Int) (b : Str) : eqOk (.int a) (.str b) ↔ True := iff_true_intro (.inl rfl)
theorem at_get {α : Type} {xs : List α} {i : Int} {j : Nat} {x : α} (h : i = (j : Int)) (hx : xs[j]? = some x) : atI xs i = some x := by rw [h]; exact atI_nat hx
section
variable {α : Type} (a b c d f : α) (xs : List α)
theorem atI_0 : atI (a :: xs) 0 = some a := at_get (j := 0) rfl rfl
theorem atI_1 : atI (a :: b :: xs) 1 = some b := at_get (j := 1) rfl rfl
theorem atI_2 : atI (a :: b :: c :: xs) 2 = some c := at_get (j := 2) rfl rfl
theorem atI_3 : atI (a :: b :: c :: d :: xs) 3 = some d := at_get (j := 3) rfl rfl
theorem atI_4 : atI (a :: b :: c :: d :: f :: xs) 4 = some f := at_get (j := 4) rfl rfl
theorem cut1 : cut (a :: xs) (some 1) none = xs := by
  unfold cut
  rw [show HT.sIx (a :: xs).length 0 (some (1 : Int)) = 1 from sIx_nat (i := 1) rfl (by simp), show HT.sIx (a :: xs).length (a :: xs).length none = (a :: xs).length from rfl]
  simp
end
theorem cut_to {α : Type} {xs : List α} {i : Nat} {z : Int} (e : z = (i : Int)) (h : i ≤ xs.length) : cut xs none (some z) = xs.take i := by
  unfold cut
  rw [sIx_nat e h, show HT.sIx xs.length 0 none = 0 from rfl]
  simp
theorem cut_from {α : Type} {xs : List α} {i : Nat} {z : Int} (e : z = (i : Int)) (h : i ≤ xs.length) : cut xs (some z) none = xs.drop i := by
  unfold cut
  rw [sIx_nat e h, show HT.sIx xs.length xs.length none = xs.length from rfl]
  rw [List.take_of_length_le (by simp)]
theorem take_succ_get {α : Type} {l : List α} {i : Nat} {y : α} (h : l[i]? = some y) : l.take (i + 1) = l.take i ++ [y] := by
  obtain ⟨hi, e⟩ := List.getElem?_eq_some_iff.mp h
  rw [List.take_succ_eq_append_getElem hi, e]
end Kn
set_option Elab.async false
set_option maxRecDepth 100000
set_option linter.all false
set_option autoImplicit false
namespace Kn
open PySem L2
section
variable {K : PySem.W.Frag} {e : Ent}
def mutDO (S : PSt) (j : Nat) (F : List (Key × D) → (List (Key × D) → Prop) → Prop) (Q : PSt → Prop) : Option (Option PC) → Prop
  | some (some (.ownD ds)) => F ds fun es => Q (S.set j (.ownD es))
  | _ => False
def mutDC (S : PSt) (a : Addr) (F : List (Key × D) → (List (Key × D) → Prop) → Prop) (Q : PSt → Prop) : Option Cell → Prop
  | some (.dct ds) => F ds fun es => Q ⟨S.ρ, S.W.put a (.dct es)⟩
  | _ => False
def mutD (S : PSt) (r : Rv) (F : List (Key × D) → (List (Key × D) → Prop) → Prop) (Q : PSt → Prop) : Prop := match r with
  | .own j => mutDO S j F Q S.ρ[j]?
  | .d (.ref a) => mutDC S a F Q (S.W.ω a)
  | _ => False
theorem R.mutD {σ : St} {H : Hp} {S : PSt} {T : List Tm} {v : V} {r : Rv} {F : List (Key × D) → (List (Key × D) → Prop) → Prop} {Q : PSt → Prop} {C : Prop} (x : R K e σ H S (.v v r :: T)) (h : Kn.mutD S r F Q)
    (k : ∀ (l : Addr) (vs : List (Key × V)) (ds : List (Key × D)) (U : Addr → Prop) (Qs : List (Key × D) → Prop), v = .ref l → H l = some (.dK vs) → DvK K S.W.Tp (Hd U H) vs ds → RU K e σ H S (.v v r :: T) U → F ds Qs →
      (∀ (vs' : List (Key × V)) (es : List (Key × D)), Qs es → DvK K S.W.Tp (Hd U H) vs' es → ∃ S', Q S' ∧ RU K e σ (upd H l (.dK vs')) S' T U) → C) : C := by
  obtain ⟨U, x⟩ := x
  match r, x, h with
  | .own j, x, h =>
    have hs : σ[j]? = some (some v) := x.tmp (.v v (.own j)) (by simp)
    have xT := x.less (T' := T) fun p hp => List.mem_cons_of_mem _ hp
    have h : mutDO S j F Q S.ρ[j]? := h
    match q : S.ρ[j]?, h with
    | some (some (.ownD ds)), h =>
      obtain ⟨l, vs, e1, ow, e2, e3⟩ := x.ownD q
      rw [hs] at e1; cases e1
      refine k l vs ds U _ rfl e2 e3 x h fun vs' es q1 d1 => ⟨_, q1, ?_⟩
      exact xT.updO (c' := .ownD es) q trivial trivial hs ow ⟨l, vs', rfl, ow, upd_same, DvK.le (Same.lq (Hd.upd ow.u)) (fun _ z => z) d1⟩
  | .d (.ref a), x, h =>
    have hv : Dv K S.W.Tp (Hd U H) v (.ref a) := x.tmp (.v v (.d (.ref a))) (by simp)
    cases hv
    have xT := x.less (T' := T) fun p hp => List.mem_cons_of_mem _ hp
    have h : mutDC S a F Q (S.W.ω a) := h
    cases q : S.W.ω a with
    | none => rw [q] at h; exact h.elim
    | some c =>
      rw [q] at h
      cases c with
      | dct ds =>
        obtain ⟨u, vs, e2, e3⟩ := x.wo.cell a _ q
        refine k a vs ds U _ rfl e2 e3 x h fun vs' es q1 d1 => ⟨_, q1, ?_⟩
        exact xT.updC (c' := .dct es) q trivial ⟨vs', upd_same, DvK.le (Same.lq (Hd.upd u)) (fun _ z => z) d1⟩
      | ins C fs => exact h.elim
      | lst ks => exact h.elim
      | lk od vs ks => exact h.elim
      | dtn w o ks => exact h.elim
def tdDPut (td ty tv : TDE) : TDS := fun E S => tv S fun rv S1 => td S1 fun rx S2 => ty S2 fun ry S3 => frc rv S3 fun d S4 => dd1 S4 ry fun dk => opt (keyD dk) fun k => mutD S4 rx (fun ks c => ks.length ≤ 999999 ∧ c (put ks k d)) E.nx
instance simDPut {td ty tv : TE} {td' ty' tv' : TDE} [h1 : SimE K e td td'] [h2 : SimE K e ty ty'] [h3 : SimE K e tv tv'] : SimS K e (sDPut td ty tv) (tdDPut td' ty' tv') := ⟨fun σ H S T Ed E hT x h k => by
  refine h3.run σ H S T _ _ x h fun rv S1 v H1 hr x1 => ?_
  refine h1.run σ H1 S1 _ _ _ x1 hr fun rx S2 xx H2 hr x2 => ?_
  refine h2.run σ H2 S2 _ _ _ x2 hr fun ry S3 y H3 hr x3 => ?_
  have x3' : R K e σ H3 S3 (.v v rv :: .v y ry :: .v xx rx :: T) := x3.less fun p hp => by
    simp at hp ⊢
    rcases hp with h | h | h | h <;> simp [h]
  refine x3'.frc hr fun d S4 h4 x4 => ?_
  obtain ⟨dk, hk, h4⟩ := dd1_inv h4
  obtain ⟨key, hkey, h4⟩ := opt_inv h4
  have x4' : R K e σ H3 S4 (.v y ry :: .v xx rx :: .v v (.d d) :: T) := x4.less fun p hp => by
    simp at hp ⊢
    rcases hp with h | h | h | h <;> simp [h]
  obtain ⟨Uy, _, vy, _⟩ := x4'.one hk
  have ey := keyD_v vy hkey
  refine R.mutD (v := xx) (r := rx) (T := .v v (.d d) :: T) x4'.pop h4 fun l vs ds U Qs e1 e2 e3 x5 hq kk => ?_
  obtain ⟨S5, q5, x6⟩ := kk (putK vs key v) _ hq.2 (e3.put (x5.tmp (.v v (.d d)) (by simp)))
  refine ⟨l, _, e1, .inl ⟨vs, key, e2, ey, bigl_of (by rw [e3.len]; have := hq.1; omega), rfl⟩, k.nx _ _ _ q5 ⟨U, x6.less fun p hp => List.mem_cons_of_mem _ hp⟩⟩⟩
def rDictOf : List V → Hp → VK → Prop := fun xs H Q => ∃ (a : Addr) (kvs : List (Key × V)), xs = [.ref a] ∧ Rd H a (.dK kvs) ∧ ∀ p, H p = none → Q (.ref p) (upd H p (.dK kvs))
theorem call_dictU {X : Cx} (K : PySem.W.Frag) (hc : X.calm = true) (h : X.K = K := by rfl) : CallR X (.type "dict") rDictOf := call_dictD
def tkDict (t : TDA) : TDK := fun S Q => t S fun rs S1 => arg1 rs fun r => dd1 S1 r fun d => match d with
  | .dct ks => Q ks S1
  | _ => False
instance simDictOf {t : TA} {t' : TDA} [h1 : SimA K e t t'] : SimK K e (tCB rDictOf t) (tkDict t') := ⟨fun σ H S T Qd Q x h k => by
  refine h1.run σ H S T _ _ x h fun rs S1 vs H1 hr hl x1 => ?_
  obtain ⟨r, rfl, hr⟩ := arg1_inv hr
  obtain ⟨v, rfl⟩ := len1 hl
  obtain ⟨d, hd, hr⟩ := dd1_inv hr
  obtain ⟨U, wT, vw, _⟩ := R.one (T := T) x1 hd
  match d, hr, vw with
  | .dct ks, hr, ⟨a, xs, e1, g1, g2⟩ =>
    subst e1
    exact ⟨a, xs, rfl, g1, fun p hp => k _ _ _ _ hr (wT.newD hp g2)⟩⟩
end
end Kn
set_option Elab.async false
set_option maxRecDepth 100000
set_option linter.all false
set_option autoImplicit false
namespace Kn
open PySem L2
section
variable {K : PySem.W.Frag} {e : Ent} {σ : St} {H : Hp} {S : PSt} {T : List Tm}
theorem RU.share {U : Addr → Prop} {l : Addr} {c : Cell} (x : RU K e σ H S T U) (ow : Ow e U S.W l) (ns : NoSlot σ S l) (nt : NoTm T l) (ck : CellOk K S.W.Tp U H l c) : RU K e σ H ⟨S.ρ, S.W.put l c⟩ T U := by
  exact {
    wo := {
      dom := x.wo.dom
      tape := fun t ht => by
        obtain ⟨a, b, d⟩ := x.wo.tape t ht
        refine ⟨a, b, ?_⟩
        have : t ≠ l := fun z => ow.tp (z ▸ ht)
        show (S.W.put l c).ω t = none
        rw [Wd.put_ne this]; exact d
      cell := fun a c1 h => by
        have h : (S.W.put l c).ω a = some c1 := h
        by_cases q : a = l
        · subst q
          rw [Wd.put_same] at h
          cases h
          exact ⟨ow.u, ck⟩
        · rw [Wd.put_ne q] at h
          exact x.wo.cell a c1 h }
    fr := { x.fr with
      wnew := fun b h => by
        by_cases q : b = l
        · subst q; exact .inr ow.e0
        · refine x.fr.wnew b ?_
          rcases h with h | ⟨c1, h⟩
          · exact .inl h
          · have h : (S.W.put l c).ω b = some c1 := h
            rw [Wd.put_ne q] at h; exact .inr ⟨c1, h⟩
      lk := fun b c1 h n => by
        show (S.W.put l c).ω b = some c1
        by_cases q : b = l
        · subst q
          have := x.fr.lk b c1 h n
          rw [ow.w] at this; cases this
        · rw [Wd.put_ne q]; exact x.fr.lk b c1 h n }
    ed := x.ed
    len := x.len
    slot := fun i c1 h => by
      obtain ⟨v, h1, h2⟩ := x.slot i c1 h
      refine ⟨v, h1, ?_⟩
      cases c1 with
      | val d => exact h2
      | ownL es =>
        obtain ⟨l', vs, e1, o, e2, e3⟩ := h2
        refine ⟨l', vs, e1, ⟨o.u, o.e0, o.tp, ?_⟩, e2, e3⟩
        show (S.W.put l c).ω l' = none
        rw [Wd.put_ne fun z => ns i _ h trivial (by rw [h1, e1, z])]; exact o.w
      | ownD es =>
        obtain ⟨l', vs, e1, o, e2, e3⟩ := h2
        refine ⟨l', vs, e1, ⟨o.u, o.e0, o.tp, ?_⟩, e2, e3⟩
        show (S.W.put l c).ω l' = none
        rw [Wd.put_ne fun z => ns i _ h trivial (by rw [h1, e1, z])]; exact o.w
    sep := x.sep
    tmp := fun p hp => by
      have h := x.tmp p hp
      match p, h, hp with
      | .v v (.d d), h, _ => exact h
      | .v v (.own j), h, _ => exact h
      | .pin b o w, h, _ => exact h
      | .nw l' es, h, hp =>
        obtain ⟨o, a, b⟩ := h
        refine ⟨⟨o.u, o.e0, o.tp, ?_⟩, a, b⟩
        show (S.W.put l c).ω l' = none
        rw [Wd.put_ne fun z => by subst z; exact nt es hp]; exact o.w }
theorem RN.share {l : Addr} {ds : List D} (y : RN K e σ H S T l ds) : S.W.ω l = none ∧ ¬ S.W.Tp l ∧ R K e σ H ⟨S.ρ, S.W.put l (.lst ds)⟩ (.v (.ref l) (.d (.ref l)) :: T) := by
  obtain ⟨U, xs, x, ow, ns, nt, hl, dv⟩ := y.ex
  exact ⟨ow.w, ow.tp, U, RU.push (x.share (c := .lst ds) ow ns nt ⟨xs, hl, dv⟩) (.ref l)⟩
def refC (Q : List D → Prop) : Option Cell → Prop
  | some (.lst ds) => Q ds
  | _ => False
def refF (S : PSt) (Q : Addr → List D → Prop) : Rv → Prop
  | .d (.ref a) => refC (Q a) (S.W.ω a)
  | _ => False
def forR (g : TDG) (tb : TDS) (E : DEnds) (a : Addr) (es : List D) : List D → PSt → Prop
  | [], S => S.W.ω a = some (.lst es) ∧ E.nx S
  | d :: ds, S => S.W.ω a = some (.lst es) ∧ ∃ N : PSt → Prop, (∀ S', N S' → forR g tb E a es ds S') ∧ g d S fun S2 => tb ⟨N, E.rt, E.nx, N, E.rn⟩ S2
def iRef (K : PySem.W.Frag) (td : TE) : TI := iAny K td
theorem pi_ref {X : Cx} {tg l : Expr} {tl : TE} (K : PySem.W.Frag) (hl : PE X l tl) (hK : X.K = K := by rfl) : PI X tg l (iRef K tl) := pi_any K hl hK
def tdForR (td : TDE) (g : TDG) (tb : TDS) : TDS := fun E S => td S fun r S1 => refF S1 (fun a ds => forR g tb E a ds ds S1) r
theorem refF_inv {S : PSt} {Q : Addr → List D → Prop} {r : Rv} (h : refF S Q r) : ∃ a ds, r = .d (.ref a) ∧ S.W.ω a = some (.lst ds) ∧ Q a ds := by
  cases r with
  | own j => exact h.elim
  | d d =>
    cases d with
    | ref a =>
      have h : refC (Q a) (S.W.ω a) := h
      cases q : S.W.ω a with
      | none => rw [q] at h; exact h.elim
      | some c =>
        rw [q] at h
        cases c with
        | lst ds => exact ⟨a, ds, rfl, q, h⟩
        | ins C fs => exact h.elim
        | dct ks => exact h.elim
        | lk od vs ks => exact h.elim
        | dtn w o ks => exact h.elim
    | _ => exact h.elim
theorem cell_list {a : Addr} {es : List D} {i : Nat} {σ : St} {H : Hp} {S : PSt} {T : List Tm} (w : S.W.ω a = some (.lst es)) (x : R K e σ H S T) : (es.length ≤ i → (Itl K a).stop i H) ∧ (i < es.length → (Itl K a).go i H ∧ ∀ x H', (Itl K a).yld i H x H' → ∃ d, es[i]? = some d ∧ R K e σ H' S (.v x (.d d) :: T)) := by
  obtain ⟨U, x⟩ := x
  obtain ⟨u, vs, e2, t⟩ := x.wo.cell a _ w
  refine ⟨fun hi => ⟨vs, SqL.of e2, by rw [t.len]; exact hi⟩, fun hi => ?_⟩
  obtain ⟨v, h1, h2⟩ := t.get (List.getElem?_eq_getElem hi)
  refine ⟨⟨vs, v, SqL.of e2, h1⟩, ?_⟩
  rintro w H' ⟨rfl, hw⟩
  have := hw vs (SqL.of e2)
  rw [h1] at this; cases this
  exact ⟨_, List.getElem?_eq_getElem hi, U, x.push h2⟩
instance simForR {td : TE} {g : TG} {tb : TS} {td' : TDE} {g' : TDG} {tb' : TDS} [h1 : SimE K e td td'] [h2 : SimG K e g g'] [h3 : SimS K e tb tb'] : SimS K e (tFor (iRef K td) g tb) (tdForR td' g' tb') := ⟨fun σ H S T Ed E hT x h k => by
  refine h1.run σ H S T _ _ x h fun r S1 v H1 hd x1 => ?_
  obtain ⟨a, ds, rfl, q, hd⟩ := refF_inv hd
  have hv : v = .ref a := by
    obtain ⟨U, x⟩ := x1
    have hv : Dv K S1.W.Tp (Hd U H1) v (.ref a) := x.tmp (.v v (.d (.ref a))) (by simp)
    cases hv; rfl
  subst hv
  have xT : R K e σ H1 S1 T := x1.pop
  have hsq : ∃ xs, SqL K H1 a xs := by
    obtain ⟨U, x⟩ := xT
    obtain ⟨u, vs, e2, t⟩ := x.wo.cell a _ q
    exact ⟨vs, SqL.of e2⟩
  refine .inl ⟨a, rfl, .inl ⟨hsq, ?_⟩⟩
  refine ⟨fun i m σ H => m = ds.length - i ∧ i ≤ ds.length ∧ ∃ S, forR g' tb' Ed a ds (ds.drop i) S ∧ R K e σ H S T, ⟨_, rfl, Nat.zero_le _, S1, hd, xT⟩, ?_⟩
  rintro i m σ H ⟨rfl, hi, S, hf, x⟩
  by_cases c : i < ds.length
  · rw [List.drop_eq_getElem_cons c] at hf
    obtain ⟨hw, N, hN, hf⟩ := hf
    obtain ⟨i1, i2⟩ := cell_list (i := i) hw x
    obtain ⟨g1, g2⟩ := i2 c
    refine .inr ⟨g1, fun σ' H' => ∃ S', N S' ∧ R K e σ' H' S' T, ?_, fun v H' hy => ?_⟩
    · rintro σ' H' ⟨S', n, x'⟩
      exact ⟨ds.length - (i + 1), by omega, rfl, by omega, S', hN S' n, x'⟩
    · obtain ⟨d, hd', x'⟩ := g2 v H' hy
      have : d = ds[i] := by rw [List.getElem?_eq_getElem c] at hd'; exact (Option.some.inj hd').symm
      subst this
      refine h2.run v _ σ H' S T _ _ hT x' hf fun S2 σ2 H2 hb x2 => ?_
      exact h3.run σ2 H2 S2 T _ _ hT x2 hb ⟨fun S' σ' H' n x' => ⟨S', n, x'⟩, k.rt, k.nx, fun S' σ' H' n x' => ⟨S', n, x'⟩, k.rn⟩
  · rw [List.drop_of_length_le (by omega)] at hf
    obtain ⟨hw, hf⟩ := hf
    obtain ⟨i1, i2⟩ := cell_list (i := i) hw x
    exact .inl ⟨i1 (by omega), k.nx _ _ _ hf x⟩⟩
end
end Kn
set_option Elab.async false
set_option maxRecDepth 100000
set_option linter.all false
set_option autoImplicit false
namespace Kn
open PySem L2
section
variable {K : PySem.W.Frag} {e : Ent} {σ : St} {H : Hp} {S : PSt} {T : List Tm} {U : Addr → Prop}
def fldF (C : Addr) (f : Str) (Q : D → Prop) : D → Prop
  | .obj C' fs => C' = C ∧ opt (look fs f) Q
  | _ => False
theorem fldF_inv {C : Addr} {f : Str} {Q : D → Prop} {d : D} (h : fldF C f Q d) : ∃ fs v, d = .obj C fs ∧ look fs f = some v ∧ Q v := by
  cases d with
  | obj C' fs =>
    obtain ⟨rfl, h⟩ := h
    cases q : look fs f with
    | none => rw [q] at h; exact h.elim
    | some v => rw [q] at h; exact ⟨fs, v, rfl, q, h⟩
  | _ => exact h.elim
def tdFldC (C : Addr) (f : Str) (t : TDE) : TDE := fun S Q => t S fun r S1 => dd1 S1 r (fldF C f fun d => Q (.d d) S1)
instance simFldC {C : Addr} {f : Str} {ta : TE} {ta' : TDE} [h1 : SimE K e ta ta'] : SimE K e (tFldC C f ta) (tdFldC C f ta') := ⟨fun σ H S T Qd Q x h k => by
  refine h1.run σ H S T _ _ x h fun r S1 v H1 hr x1 => ?_
  obtain ⟨d, hd, hr⟩ := dd1_inv hr
  obtain ⟨fs, y, rfl, hl, q⟩ := fldF_inv hr
  obtain ⟨U, xT, vw, x2⟩ := x1.one hd
  obtain ⟨a, dx, xs, rfl, ha, dv⟩ : Vw K S1.W.Tp U H1 v (.obj C fs) := vw
  obtain ⟨z, hz, dz⟩ := DvF.look_some dv hl
  exact ⟨a, dx, xs, z, rfl, ha, hz, k _ _ _ _ q ⟨U, xT.push dz⟩⟩⟩
def insC (C : Addr) (Q : List (Str × D) → Prop) : Option Cell → Prop
  | some (.ins C' fs) => C' = C ∧ Q fs
  | _ => False
def insF (S : PSt) (C : Addr) (Q : Addr → List (Str × D) → Prop) : Rv → Prop
  | .d (.ref a) => insC C (Q a) (S.W.ω a)
  | _ => False
theorem insF_inv {S : PSt} {C : Addr} {Q : Addr → List (Str × D) → Prop} {r : Rv} (h : insF S C Q r) : ∃ a fs, r = .d (.ref a) ∧ S.W.ω a = some (.ins C fs) ∧ Q a fs := by
  cases r with
  | own j => exact h.elim
  | d d =>
    cases d with
    | ref a =>
      have h : insC C (Q a) (S.W.ω a) := h
      cases q : S.W.ω a with
      | none => rw [q] at h; exact h.elim
      | some c =>
        rw [q] at h
        cases c with
        | ins C' fs =>
          obtain ⟨z, h2⟩ := h
          subst z
          exact ⟨a, fs, rfl, q, h2⟩
        | lst ks => exact h.elim
        | dct ks => exact h.elim
        | lk od vs ks => exact h.elim
        | dtn w o ks => exact h.elim
    | _ => exact h.elim
def tdSetC (C : Addr) (f : Str) (ta tv : TDE) : TDS := fun E S => tv S fun r S1 => frc r S1 fun d S2 => ta S2 fun rx S3 => insF S3 C (fun a fs => fs.length < 1000 ∧ E.nx ⟨S3.ρ, S3.W.put a (.ins C (putFd f d fs))⟩) rx
instance simSetC {C : Addr} {f : Str} {ta tv : TE} {ta' tv' : TDE} [h1 : SimE K e ta ta'] [h2 : SimE K e tv tv'] : SimS K e (sFldC C f ta tv) (tdSetC C f ta' tv') := ⟨fun σ H S T Ed E hT x h k => by
  refine h2.run σ H S T _ _ x h fun r S1 y H1 hr x1 => x1.frc hr fun d S2 h3 x2 => ?_
  refine h1.run σ H1 S2 _ _ _ x2 h3 fun rx S3 v H2 hq x3 => ?_
  obtain ⟨a, fs, rfl, hw, hl, q⟩ := insF_inv hq
  obtain ⟨U, x3⟩ := x3
  have hv : Dv K S3.W.Tp (Hd U H2) v (.ref a) := x3.tmp (.v v (.d (.ref a))) (by simp)
  cases hv
  obtain ⟨u, dx, vs, e2, e3⟩ := x3.wo.cell a _ hw
  have dy : Dv K S3.W.Tp (Hd U H2) y d := x3.tmp (.v y (.d d)) (by simp)
  refine ⟨a, dx, vs, rfl, e2, by rw [e3.len]; exact hl, k.nx _ _ _ q ⟨U, ?_⟩⟩
  have xT := x3.less (T' := T) fun p hp => List.mem_cons_of_mem _ (List.mem_cons_of_mem _ hp)
  exact xT.updC (c' := .ins C (putFd f d fs)) hw trivial ⟨dx, _, upd_same, DvF.le (Same.lq (Hd.upd u)) (fun _ z => z) (DvF.put dy e3)⟩⟩
class DvC (vs : List V) (ds : outParam (List D)) : Prop where
  run : ∀ (K : PySem.W.Frag) (Tp : Addr → Prop) (H : Hp), DvL K Tp H vs ds
instance dvcNil : DvC [] [] := ⟨fun _ _ _ => .nil⟩
instance dvcBl {b : Bool} {vs : List V} {ds : List D} [h : DvC vs ds] : DvC (.bl b :: vs) (.bl b :: ds) := ⟨fun K Tp H => .cons (.bl b) (h.run K Tp H)⟩
theorem DvL.cat {Tp : Addr → Prop} {H : Hp} : ∀ {vs ws : List V} {ds es : List D}, DvL K Tp H vs ds → DvL K Tp H ws es → DvL K Tp H (vs ++ ws) (ds ++ es)
  | _, _, _, _, .nil, h => h
  | _, _, _, _, .cons a t, h => .cons a (DvL.cat t h)
def recF (C : Addr) (m : Str) (Q : Prop) : D → Prop
  | .obj C' fs => C' = C ∧ look fs m = none ∧ Q
  | _ => False
theorem recF_inv {C : Addr} {m : Str} {Q : Prop} {d : D} (h : recF C m Q d) : ∃ fs, d = .obj C fs ∧ look fs m = none ∧ Q := by
  cases d with
  | obj C' fs =>
    obtain ⟨z, h2, h3⟩ := h
    subst z
    exact ⟨fs, rfl, h2, h3⟩
  | _ => exact h.elim
def tdMeth (C : Addr) (m : Str) (F : FSpec) (w : Exn → PSt → Prop) (dds : List D) (ta : TDE) (t : TDA) : TDE := fun S Q => ta S fun r S1 => frc r S1 fun d S2 => dd1 S2 (.d d) (recF C m (t S2 fun rs S3 => frcL rs S3 fun ds S4 => CallF F (d :: (ds ++ dds)) S4 Q w))
instance simMethX {C : Addr} {m : Str} {F : FSpec} {dvs : List V} {dds : List D} {Wx : WX} {w : Exn → PSt → Prop} {ta : TE} {t : TA} {ta' : TDE} {t' : TDA} [h0 : SimE K e ta ta'] [h1 : SimA K e t t'] [h2 : WLk K e Wx w] [hd : DvC dvs dds] :
    SimE K e (tMethX C m (lift K F) dvs (WE Wx) ta t) (tdMeth C m F w dds ta' t') := ⟨fun σ H S T Qd Q x h k => by
  refine h0.run σ H S T _ _ x h fun r S1 v H1 hr x1 => x1.frc hr fun d S2 hr x2 => ?_
  obtain ⟨o, ho, hr⟩ := dd1_inv hr
  obtain ⟨fs, rfl, hl, hr⟩ := recF_inv hr
  obtain ⟨U1, xT1, vw, x3⟩ := x2.one ho
  obtain ⟨a, dx, xs, rfl, ha, dv⟩ : Vw K S2.W.Tp U1 H1 v (.obj C fs) := vw
  refine ⟨a, dx, xs, rfl, ha, DvF.look_none dv hl, ?_⟩
  refine h1.run σ H1 S2 _ _ _ ⟨U1, x3⟩ hr fun rs S3 vs H2 hc hl2 x4 => ?_
  refine R.frcL hl2 x4 hc fun ds S4 h3 hl3 x5 => ?_
  obtain ⟨U, x5⟩ := x5
  have xT := x5.less (T' := T) fun p hp => List.mem_append_right _ (List.mem_cons_of_mem _ hp)
  have dv0 : Dv K S4.W.Tp (Hd U H2) (.ref a) d := x5.tmp (.v (.ref a) (.d d)) (List.mem_append_right _ (List.mem_cons_self))
  refine ⟨U, S4.W, d :: (ds ++ dds), _, _, x5.wo, .cons dv0 (DvL.cat (RU.tms hl3 x5) (hd.run K _ _)), h3, fun d W' v H' U' q r f dv => k _ _ _ _ q (xT.callBack r f dv), fun x W' c dd H' U' q r f ex => ?_⟩
  exact h2.run x ⟨S4.ρ, W'⟩ σ H' U' c dd q ((xT.to r f).less fun p hp => by cases hp) ex⟩
def ofC (C : Addr) (Q : Prop) : D → Prop
  | .obj C' _ => C' = C ∧ Q
  | _ => False
theorem propF_inv {C : Addr} {Q : Prop} {d : D} (h : ofC C Q d) : ∃ fs, d = .obj C fs ∧ Q := by
  cases d with
  | obj C' fs =>
    obtain ⟨z, h3⟩ := h
    subst z
    exact ⟨fs, rfl, h3⟩
  | _ => exact h.elim
open Classical in
noncomputable def Wd.del (W : Wd) (a : Addr) : Wd := ⟨W.Tp, fun b => if b = a then none else W.ω b⟩
theorem Wd.del_same {W : Wd} {a : Addr} : (W.del a).ω a = none := by unfold Wd.del; simp
theorem Wd.del_ne {W : Wd} {a b : Addr} (h : b ≠ a) : (W.del a).ω b = W.ω b := by unfold Wd.del; simp [h]
theorem Wd.del_put {W : Wd} {a : Addr} {c : Cell} (h : W.ω a = none) : (W.put a c).del a = W := by
  obtain ⟨Tp, ω⟩ := W
  unfold Wd.del Wd.put
  congr 1
  funext b
  by_cases q : b = a
  · subst q; simp only [if_true]; exact h.symm
  · simp only [if_neg q]
theorem RU.newI (x : RU K e σ H S T U) {a dx C : Addr} (ha : H a = none) (hx : H dx = none) (ne : dx ≠ a) : S.W.ω a = none ∧ ¬ S.W.Tp a ∧ RU K e σ (upd (upd H dx (.own a)) a (.ins C dx [])) ⟨S.ρ, S.W.put a (.ins C [])⟩ T (fun b => U b ∨ b = a) := by
  have x1 := x.alloc (o := .own a) hx
  obtain ⟨x2, o, ns, nt⟩ := x1.moreU (o := .ins C dx []) (p := a) (by rw [upd_ne ne.symm]; exact ha)
  exact ⟨o.w, o.tp, x2.share (c := .ins C []) o ns nt ⟨dx, [], upd_same, .nil⟩⟩
theorem RU.del (x : RU K e σ H S T U) {a : Addr} {c : Cell} (h : S.W.ω a = some c) (mc : c.isMut) (e0 : e.H a = none) : RU K e σ H ⟨S.ρ, S.W.del a⟩ T U ∧ Ow e U (S.W.del a) a ∧ NoSlot σ S a ∧ NoTm T a := by
  have u := (x.wo.cell a c h).1
  have ntp : ¬ S.W.Tp a := fun z => by have := (x.wo.tape a z).2.2; rw [h] at this; cases this
  have ns : NoSlot σ S a := fun i c1 h1 oc z => by
    obtain ⟨v, h2, h3⟩ := x.slot i c1 h1
    rw [h2] at z; cases z
    match c1, oc, h3 with
    | .ownL ds, _, ⟨l, vs, e1, o, _⟩ => cases e1; have := o.w; rw [h] at this; cases this
    | .ownD ds, _, ⟨l, vs, e1, o, _⟩ => cases e1; have := o.w; rw [h] at this; cases this
  have nt : NoTm T a := fun ds hm => by
    obtain ⟨o, _⟩ := x.tmp _ hm
    have := o.w; rw [h] at this; cases this
  have dn : ∀ b, S.W.ω b = none → (S.W.del a).ω b = none := fun b z => by
    by_cases q : b = a
    · subst q; exact Wd.del_same
    · rw [Wd.del_ne q]; exact z
  refine ⟨?_, ⟨u, e0, ntp, Wd.del_same⟩, ns, nt⟩
  exact {
    wo := {
      dom := x.wo.dom
      tape := fun t ht => let ⟨p, q, r⟩ := x.wo.tape t ht; ⟨p, q, dn t r⟩
      cell := fun b c1 hb => by
        have hb : (S.W.del a).ω b = some c1 := hb
        by_cases q : b = a
        · subst q; rw [Wd.del_same] at hb; cases hb
        · rw [Wd.del_ne q] at hb; exact x.wo.cell b c1 hb }
    fr := { x.fr with
      wnew := fun b hb => by
        refine x.fr.wnew b ?_
        rcases hb with hb | ⟨c1, hb⟩
        · exact .inl hb
        · have hb : (S.W.del a).ω b = some c1 := hb
          by_cases q : b = a
          · subst q; rw [Wd.del_same] at hb; cases hb
          · rw [Wd.del_ne q] at hb; exact .inr ⟨c1, hb⟩
      lk := fun b c1 hb n => by
        show (S.W.del a).ω b = some c1
        have hb := x.fr.lk b c1 hb n
        by_cases q : b = a
        · subst q; rw [h] at hb; cases hb; exact (n mc).elim
        · rw [Wd.del_ne q]; exact hb }
    ed := x.ed
    len := x.len
    slot := fun i c1 h1 => by
      obtain ⟨v, h2, h3⟩ := x.slot i c1 h1
      refine ⟨v, h2, ?_⟩
      cases c1 with
      | val d => exact h3
      | ownL es =>
        obtain ⟨l', vs, e1, o, e2, e3⟩ := h3
        exact ⟨l', vs, e1, ⟨o.u, o.e0, o.tp, dn _ o.w⟩, e2, e3⟩
      | ownD es =>
        obtain ⟨l', vs, e1, o, e2, e3⟩ := h3
        exact ⟨l', vs, e1, ⟨o.u, o.e0, o.tp, dn _ o.w⟩, e2, e3⟩
    sep := x.sep
    tmp := fun p hp => by
      have h := x.tmp p hp
      match p, h, hp with
      | .v v (.d d), h, _ => exact h
      | .v v (.own j), h, _ => exact h
      | .pin b o w, h, _ => exact h
      | .nw l' es, ⟨o, a1, b1⟩, hp => exact ⟨⟨o.u, o.e0, o.tp, dn _ o.w⟩, a1, b1⟩ }
theorem RU.freezeI (x : RU K e σ H S T U) {a C : Addr} {fs : List (Str × D)} (h : S.W.ω a = some (.ins C fs)) (e0 : e.H a = none) : R K e σ H ⟨S.ρ, S.W.del a⟩ (.v (.ref a) (.d (.obj C fs)) :: T) := by
  obtain ⟨x1, o, ns, nt⟩ := x.del h trivial e0
  obtain ⟨u, dx, vs, e2, e3⟩ := x.wo.cell a _ h
  exact ⟨_, (x1.thaw o ns nt).push (.obj (Hd.get e2 fun z => z.2 rfl) (DvF.le (Same.lq Hd.less) (fun _ z => z) e3))⟩
theorem insC_inv {C : Addr} {Q : List (Str × D) → Prop} {o : Option Cell} (h : insC C Q o) : ∃ fs, o = some (.ins C fs) ∧ Q fs := by
  cases o with
  | none => exact h.elim
  | some c =>
    cases c with
    | ins C' fs =>
      obtain ⟨z, h2⟩ := h
      subst z
      exact ⟨fs, rfl, h2⟩
    | lst ks => exact h.elim
    | dct ks => exact h.elim
    | lk od vs ks => exact h.elim
    | dtn w o ks => exact h.elim
def tdMakeR (C : Addr) (F : FSpec) (w : Exn → PSt → Prop) (dds : List D) (t : TDA) : TDE := fun S Q => t S fun rs S1 => frcL rs S1 fun ds S2 => ∀ a : Addr, S2.W.ω a = none → ¬ S2.W.Tp a → CallF F (.ref a :: (ds ++ dds)) ⟨S2.ρ, S2.W.put a (.ins C [])⟩ (fun r S' => r = .d .non ∧ Q (.d (.ref a)) S') (fun x S' => insC C (fun _ => w x ⟨S'.ρ, S'.W.del a⟩) (S'.W.ω a))
def tdMakeF (C : Addr) (F : FSpec) (w : Exn → PSt → Prop) (dds : List D) (t : TDA) : TDE := fun S Q => t S fun rs S1 => frcL rs S1 fun ds S2 => ∀ a : Addr, S2.W.ω a = none → ¬ S2.W.Tp a → CallF F (.ref a :: (ds ++ dds)) ⟨S2.ρ, S2.W.put a (.ins C [])⟩ (fun r S' => r = .d .non ∧ insC C (fun fs => Q (.d (.obj C fs)) ⟨S'.ρ, S'.W.del a⟩) (S'.W.ω a)) (fun x S' => insC C (fun _ => w x ⟨S'.ρ, S'.W.del a⟩) (S'.W.ω a))
def tMakeF (C : Addr) (sp : Sp) (dvs : List V) (E : St → XK) (t : TA) : TE := tMakeX C sp dvs E t
theorem mkF_of {X : Cx} {ex : Expr} {C : Addr} {sp : Sp} {dvs : List V} {E : St → XK} {t : TA} (h : PE X ex (tMakeX C sp dvs E t)) : PE X ex (tMakeF C sp dvs E t) := h
theorem Dv.non_inv {Tp : Addr → Prop} {H : Hp} {v : V} (h : Dv K Tp H v .non) : v = .non := by cases h; rfl
theorem exc_del {Wx : WX} {w : Exn → PSt → Prop} (h2 : WLk K e Wx w) {a C : Addr} {fs : List (Str × D)} {ρ : List (Option PC)} {W' : Wd} {x : Exn} {c : Value} {dd : Option Addr} (hw : W'.ω a = some (.ins C fs)) (e0 : e.H a = none) (q : w x ⟨ρ, W'.del a⟩) (r : RU K e σ H ⟨ρ, W'⟩ T U) (ex : ExOk K U W' H x c dd) : Wx c dd σ H := by
  obtain ⟨x1, _, _, _⟩ := RU.del (S := ⟨ρ, W'⟩) r hw trivial e0
  exact h2.run x ⟨ρ, W'.del a⟩ σ H U c dd q (x1.less fun p hp => by cases hp) ex
instance simMakeX {C : Addr} {F : FSpec} {dvs : List V} {dds : List D} {Wx : WX} {w : Exn → PSt → Prop} {t : TA} {t' : TDA} [h1 : SimA K e t t'] [h2 : WLk K e Wx w] [hd : DvC dvs dds] :
    SimE K e (tMakeX C (lift K F) dvs (WE Wx) t) (tdMakeR C F w dds t') := ⟨fun σ H S T Qd Q x h k => by
  refine h1.run σ H S T _ _ x h fun rs S1 vs H1 hc hl x1 => ?_
  refine R.frcL hl x1 hc fun ds S2 h3 hl2 x2 => ?_
  intro a dx ha hx ne
  obtain ⟨U, x2⟩ := x2
  obtain ⟨w0, tp0, x3⟩ := x2.newI (C := C) ha hx ne
  have e0 := x2.free0 ha
  have xT := x3.less (T' := T) fun p hp => List.mem_append_right _ hp
  refine ⟨_, _, .ref a :: (ds ++ dds), _, _, x3.wo, .cons (.ref a) (DvL.cat (RU.tms hl2 x3) (hd.run K _ _)), h3 a w0 tp0, fun d W' v H' U' q r f dv => ?_, fun x W' c dd H' U' q r f ex => ?_⟩
  · obtain ⟨q0, q⟩ := q
    cases q0
    exact ⟨dv.non_inv, k _ _ _ _ q ⟨U', (xT.to r f).push (.ref a)⟩⟩
  · obtain ⟨fs, hw, q⟩ := insC_inv q
    exact exc_del h2 hw e0 q (xT.to r f) ex⟩
instance simMakeF {C : Addr} {F : FSpec} {dvs : List V} {dds : List D} {Wx : WX} {w : Exn → PSt → Prop} {t : TA} {t' : TDA} [h1 : SimA K e t t'] [h2 : WLk K e Wx w] [hd : DvC dvs dds] :
    SimE K e (tMakeF C (lift K F) dvs (WE Wx) t) (tdMakeF C F w dds t') := ⟨fun σ H S T Qd Q x h k => by
  refine h1.run σ H S T _ _ x h fun rs S1 vs H1 hc hl x1 => ?_
  refine R.frcL hl x1 hc fun ds S2 h3 hl2 x2 => ?_
  intro a dx ha hx ne
  obtain ⟨U, x2⟩ := x2
  obtain ⟨w0, tp0, x3⟩ := x2.newI (C := C) ha hx ne
  have e0 := x2.free0 ha
  have xT := x3.less (T' := T) fun p hp => List.mem_append_right _ hp
  refine ⟨_, _, .ref a :: (ds ++ dds), _, _, x3.wo, .cons (.ref a) (DvL.cat (RU.tms hl2 x3) (hd.run K _ _)), h3 a w0 tp0, fun d W' v H' U' q r f dv => ?_, fun x W' c dd H' U' q r f ex => ?_⟩
  · obtain ⟨q0, q⟩ := q
    cases q0
    obtain ⟨fs, hw, q⟩ := insC_inv q
    exact ⟨dv.non_inv, k _ _ _ _ q (RU.freezeI (S := ⟨S2.ρ, W'⟩) (xT.to r f) hw e0)⟩
  · obtain ⟨fs, hw, q⟩ := insC_inv q
    exact exc_del h2 hw e0 q (xT.to r f) ex⟩
end
section
variable {P : Program} {w : World} {K : PySem.W.Frag} {mg : Str → Option Value} {base : Heap}
def BodyD (P : Program) (w : World) (K : PySem.W.Frag) (mg : Str → Option Value) (base : Heap) (N : List Str) (qual : Str) (st : Stmt) (k : Nat) (Fs : FSpec) : Prop := ∀ (f : Addr) (cdv : Value) (A : Around) (outer : List Env) (s : Shared) (H : Hp) (E : XK) (e : Ent) (ds : List D) (Qd : D → Wd → Prop) (Ed : Exn → Wd → Prop), Room k (A.deeper (PyProof.Rows.envOfC qual (defScope st) s.heap.objs.size f cdv)) → WLk K e (fun c d _ H => E c d H) (fun x S => Ed x S.W) → Fs ds e.W Qd Ed →
      ∃ t td, PSs (cxOf (L2.CX P w) P w K mg base N qual (defScope st) f cdv A outer s H E) (defBody st) t ∧ SimZ K e t td ∧ td ⟨fun S => Qd .non S.W, Qd, fun _ => False, fun _ => False, fun _ _ => False⟩ (S0 N ds e.W)
theorem BodyD.run {N : List Str} {qual : Str} {st : Stmt} {k : Nat} {Fs : FSpec} (hbody : BodyD P w K mg base N qual st k Fs) (f : Addr) (cdv : Value) (A : Around) (outer : List Env) (s : Shared) (H : Hp) (vs : List V) (Q : VK) (E : XK) (hr : Room k (A.deeper (PyProof.Rows.envOfC qual (defScope st) s.heap.objs.size f cdv))) (h : lift K Fs vs H Q E) :
    ∃ t, PSs (cxOf (L2.CX P w) P w K mg base N qual (defScope st) f cdv A outer s H E) (defBody st) t ∧ t { nx := fun _ H' => Q .non H', rt := Q } (start N vs) H := by
  obtain ⟨U, W, ds, Qd, Ed, r, dv, hF, kq, ke⟩ := h
  obtain ⟨t, td, hp, hs, ht⟩ := hbody f cdv A outer s H E ⟨U, W, H⟩ ds Qd Ed hr ⟨fun x S σ H' U' c d hw ru ex => ke x S.W c d H' U' hw ru.wo ru.fr ex⟩ hF
  refine ⟨t, hp, hs.run (start N vs) H (S0 N ds W) _ _ ⟨U, RU.start r dv⟩ ht ⟨fun S' σ' H' q ⟨U', x'⟩ => ?_, fun d S' σ' v H' q ⟨U', x'⟩ => ?_, fun _ _ _ q => q.elim, fun _ _ _ q => q.elim, fun _ _ _ _ _ q => q.elim⟩⟩
  · exact kq _ _ _ _ U' q x'.wo x'.fr .non
  · exact kq _ _ _ _ U' q x'.wo x'.fr (x'.tmp (.v v (.d d)) (by simp))
theorem lift_len {Fs : FSpec} {ps : List Str} (hl : ∀ ds W Q E, Fs ds W Q E → ds.length = ps.length) (vs : List V) (H : Hp) (Q : VK) (E : XK) (h : lift K Fs vs H Q E) : vs.length = ps.length := by
  obtain ⟨U, W, ds, Qd, Ed, r, dv, hF, _⟩ := h
  rw [dv.len]; exact hl _ _ _ _ hF
theorem Mz.okD {C : Addr} {m qual : Str} {st : Stmt} {ps N : List Str} {dvs : List V} {k : Nat} {Fs : FSpec} (F : Mz K C m qual st ps dvs) (S : FnScope N ps (defScope st)) (hl : ∀ ds W Q E, Fs ds W Q E → ds.length = ps.length) (hbody : BodyD P w K mg base N qual st k Fs) : Mx P w K mg base C m (k + 1) ps dvs (lift K Fs) := F.okX S (lift_len hl) hbody.run
theorem Kz.okD {C : Addr} {qual : Str} {st : Stmt} {ps N : List Str} {dvs : List V} {k : Nat} {Fs : FSpec} (F : Kz K C qual st ps dvs) (S : FnScope N ps (defScope st)) (hl : ∀ ds W Q E, Fs ds W Q E → ds.length = ps.length) (hbody : BodyD P w K mg base N qual st k Fs) : Kx P w K mg base C (k + 1) ps dvs (lift K Fs) := F.okX S (lift_len hl) hbody.run
theorem Pz.okD {C : Addr} {m qual : Str} {st : Stmt} {ps N : List Str} {k : Nat} {Fs : FSpec} (F : Pz K C m qual st ps) (S : FnScope N ps (defScope st)) (hl : ∀ ds W Q E, Fs ds W Q E → ds.length = ps.length) (hbody : BodyD P w K mg base N qual st k Fs) : Pp P w K mg base C m (k + 1) ps (lift K Fs) := F.okX S (lift_len hl) hbody.run
end
end Kn
set_option Elab.async false
set_option maxRecDepth 100000
set_option linter.all false
set_option autoImplicit false
namespace Kn
open PySem L2
section
variable {K : PySem.W.Frag} {e : Ent}
end
end Kn
set_option Elab.async false
set_option maxRecDepth 100000
set_option linter.all false
set_option autoImplicit false
namespace Kn
open PySem L2
section
variable {K : PySem.W.Frag} {e : Ent}
theorem DvF.app {Tp : Addr → Prop} {H : Hp} : ∀ {a b : List (Str × V)} {c d : List (Str × D)}, DvF K Tp H a c → DvF K Tp H b d → DvF K Tp H (a ++ b) (c ++ d)
  | _, _, _, _, .nil, h => h
  | _, _, _, _, .cons h t, g => .cons h (DvF.app t g)
theorem DvF.zipR {Tp : Addr → Prop} {H : Hp} : ∀ {fs : List Str} {vs : List V} {ds : List D}, DvL K Tp H vs ds → DvF K Tp H (fs.zip vs).reverse (fs.zip ds).reverse
  | [], _, _, _ => .nil
  | _ :: _, _, _, .nil => .nil
  | f :: fs, _, _, .cons h t => by
    rw [List.zip_cons_cons, List.zip_cons_cons, List.reverse_cons, List.reverse_cons]
    exact DvF.app (DvF.zipR t) (.cons h .nil)
theorem ps_raiseF {X : Cx} {W : WX} {t : St → Hp → XK → Prop} {ex : Expr} {pos : Pos} (hc : X.calm = true) (tk : Takes X W) (he : PMk X ex t) : PS X (.Raise (some ex) none pos) (tRaise t W) := ps_raise hc tk he
def okDm (m : Bool) (ds : List D) : Prop := m = true → ∃ y, ds = [.str y] ∧ y.length ≤ 1000
def tdRaiseS (C : Addr) (fs : List Str) (m : Bool) (w : Exn → PSt → Prop) (t : TDA) : TDS := fun _ S => t S fun rs S1 => frcL rs S1 fun ds S2 => fs ≠ [] ∧ ds.length = fs.length ∧ okDm m ds ∧ w ⟨C, (fs.zip ds).reverse⟩ S2
instance simRaiseS {C : Addr} {fs : List Str} {m : Bool} {Wx : WX} {w : Exn → PSt → Prop} {t : TA} {t' : TDA} [h1 : SimA K e t t'] [h : WLk K e Wx w] : SimS K e (tRaise (tMkS C fs m t) Wx) (tdRaiseS C fs m w t') := ⟨fun σ H S T Ed E hT x q k => by
  refine h1.run σ H S T _ _ x q fun rs S1 vs H1 hc hl x1 => ?_
  refine R.frcL hl x1 hc fun ds S2 ⟨nf, ld, ok, hw⟩ hl2 ⟨U, x2⟩ => ?_
  have dv := RU.tms hl2 x2
  refine ⟨by rw [hl2, ld], fun hm => ?_, fun d hd => ?_⟩
  · obtain ⟨y, rfl, hy⟩ := ok hm
    cases dv with
    | cons a b => cases b; cases a; exact ⟨y, rfl, hy⟩
  · have x3 := (x2.less (T' := []) fun p hp => by cases hp).alloc (o := .xd (fs.zip vs).reverse) hd
    refine h.run ⟨C, (fs.zip ds).reverse⟩ S2 σ _ U _ _ hw x3 ⟨rfl, .inr ⟨fun z => ?_, d, _, rfl, x2.fresh hd, upd_same, DvF.le (Same.lq (same_upd hd)) (fun _ z => z) (DvF.zipR dv)⟩⟩
    have z : (fs.zip ds).reverse = [] := z
    rw [List.reverse_eq_nil_iff] at z
    match fs, ds, nf, ld, z with
    | f :: fs, d :: ds, _, _, z => cases z⟩
def PSt.unset (S : PSt) (i : Nat) : PSt := ⟨S.ρ.set i none, S.W⟩
theorem RU.unset {σ : St} {H : Hp} {S : PSt} {T : List Tm} {U : Addr → Prop} (x : RU K e σ H S T U) (hT : NoOwn T) (i : Nat) : RU K e (σ.set i none) H (S.unset i) T U :=
  x.slots (by simp [x.len]) (fun j c hj => by
    rw [List.getElem?_set] at hj ⊢
    by_cases q : i = j
    · rw [if_pos q] at hj
      split at hj
      · cases hj
      · cases hj
    · rw [if_neg q] at hj ⊢
      exact ⟨hj, rfl⟩) hT
def DEnds.un (i : Nat) (E : DEnds) : DEnds := { E with nx := fun S => E.nx (S.unset i), bk := fun S => E.bk (S.unset i), ct := fun S => E.ct (S.unset i) }
def exB (K : PySem.W.Frag) (c : Value) (x : Exn) (Y N : Prop) : Prop := ∃ b, PySem.W.exmOne K (.ref x.cls) c = some b ∧ (b = true → Y) ∧ (b = false → N)
def tTryAs (K : PySem.W.Frag) (c : Value) (i : Nat) (tb : WX → TS) (ts : Addr → Value → Option Addr → TS) (Wout : WX) : TS := fun D σ H => tb (wAs K c i ts Wout D) D σ H
def tdTryAs (K : PySem.W.Frag) (c : Value) (i : Nat) (tb : (Exn → PSt → Prop) → TDS) (ts : Addr → Value → Option Addr → TDS) (wo : Exn → PSt → Prop) : TDS := fun E S =>
  tb (fun x S' => exB K c x (∀ a d, ts a (.ref x.cls) d (E.un i) (S'.set i (.val (.exc a x.cls d x.fs)))) (wo x S')) E S
theorem ExOk.dv {U : Addr → Prop} {W : Wd} {H : Hp} {x : Exn} {c : Value} {d : Option Addr} (h : ExOk K U W H x c d) (a : Addr) : c = .ref x.cls ∧ Dv K W.Tp (Hd U H) (.ref a) (.exc a x.cls d x.fs) := by
  obtain ⟨h1, ⟨h2, h3⟩ | ⟨_, b, vs, rfl, nu, hb, t⟩⟩ := h
  · rw [h2, h3]; exact ⟨h1, .exc0 a x.cls⟩
  · exact ⟨h1, .exc1 (Hd.get hb nu) t⟩
def TagW {K : PySem.W.Frag} {e : Ent} {W : WX} {w : Exn → PSt → Prop} (_ : WLk K e W w) : WX := W
instance simTryAs {c : Value} {i : Nat} {tb : WX → TS} {ts : Addr → Value → Option Addr → TS} {Wout : WX} {tb' : (Exn → PSt → Prop) → TDS} {ts' : Addr → Value → Option Addr → TDS} {wo : Exn → PSt → Prop}
    [h1 : ∀ (W : WX) (w : Exn → PSt → Prop) (h : WLk K e W w), SimZ K e (tb (TagW h)) (tb' w)] [h2 : ∀ a cls d, SimZ K e (ts a cls d) (ts' a cls d)] [h3 : WLk K e Wout wo] : SimZ K e (tTryAs K c i tb ts Wout) (tdTryAs K c i tb' ts' wo) := ⟨fun σ H S Ed E x h k => by
  have lk : WLk K e (wAs K c i ts Wout E) (fun x S' => exB K c x (∀ a d, ts' a (.ref x.cls) d (Ed.un i) (S'.set i (.val (.exc a x.cls d x.fs)))) (wo x S')) := ⟨fun x S σ H U cv d hw ru ex => by
    obtain ⟨b, hb, hy, hn⟩ := hw
    have ec := (ex.dv 0).1
    subst ec
    refine ⟨b, hb, fun z a ha => ?_, fun z => h3.run x S σ H U _ d (hn z) ru ex⟩
    refine (h2 a (.ref x.cls) d).run _ H _ (Ed.un i) _ ⟨U, ru.setVal (i := i) (ex.dv a).2 (fun p hp => by cases hp)⟩ (hy z a d) ⟨?_, ?_, ?_, ?_, ?_⟩
    · rintro S' σ' H' q ⟨U', x'⟩; exact k.nx _ _ _ q ⟨U', x'.unset noOwn0 i⟩
    · exact k.rt
    · rintro S' σ' H' q ⟨U', x'⟩; exact k.bk _ _ _ q ⟨U', x'.unset noOwn0 i⟩
    · rintro S' σ' H' q ⟨U', x'⟩; exact k.ct _ _ _ q ⟨U', x'.unset noOwn0 i⟩
    · exact k.rn⟩
  exact (h1 _ _ lk).run σ H S Ed E x h k⟩
def tTryN (K : PySem.W.Frag) (l : List (Value × (Addr → Value → Option Addr → TS))) (tb : WX → TS) (Wout : WX) : TS := fun D σ H => tb (wMany K Wout D l) D σ H
class SimCl (K : PySem.W.Frag) (e : Ent) (l : List (Value × (Addr → Value → Option Addr → TS))) (t : outParam (List (Value × (Addr → Value → Option Addr → TDS)))) : Prop where
  run : ∀ (Ed : DEnds) (E : Ends) (Wout : WX) (wo : Exn → PSt → Prop), Lnk K e [] Ed E → WLk K e Wout wo → WLk K e (wMany K Wout E l) (t.foldr (fun p w x S' => exB K p.1 x (∀ a d, p.2 a (.ref x.cls) d Ed S') (w x S')) wo)
instance simClCons {c : Value} {ts : Addr → Value → Option Addr → TS} {l : List (Value × (Addr → Value → Option Addr → TS))} {ts' : Addr → Value → Option Addr → TDS} {l' : List (Value × (Addr → Value → Option Addr → TDS))} [h1 : ∀ a cls d, SimZ K e (ts a cls d) (ts' a cls d)] [h2 : SimCl K e l l'] : SimCl K e ((c, ts) :: l) ((c, ts') :: l') := ⟨fun Ed E Wout wo k h => ⟨fun x S σ H U cv d hw ru ex => by
  obtain ⟨b, hb, hy, hn⟩ := hw
  have ec := (ex.dv 0).1
  subst ec
  exact ⟨b, hb, fun z a ha => (h1 a (.ref x.cls) d).run σ H S Ed E ⟨U, ru⟩ (hy z a d) k, fun z => (h2.run Ed E Wout wo k h).run x S σ H U _ d (hn z) ru ex⟩⟩⟩
def tdTryN (K : PySem.W.Frag) (l : List (Value × (Addr → Value → Option Addr → TDS))) (tb : (Exn → PSt → Prop) → TDS) (wo : Exn → PSt → Prop) : TDS := fun E S =>
  tb (l.foldr (fun p w x S' => exB K p.1 x (∀ a d, p.2 a (.ref x.cls) d E S') (w x S')) wo) E S
instance simTryN {l : List (Value × (Addr → Value → Option Addr → TS))} {tb : WX → TS} {Wout : WX} {tb' : (Exn → PSt → Prop) → TDS} {l' : List (Value × (Addr → Value → Option Addr → TDS))} {wo : Exn → PSt → Prop}
    [h1 : ∀ (W : WX) (w : Exn → PSt → Prop) (h : WLk K e W w), SimZ K e (tb (TagW h)) (tb' w)] [h2 : SimCl K e l l'] [h3 : WLk K e Wout wo] : SimZ K e (tTryN K l tb Wout) (tdTryN K l' tb' wo) := ⟨fun σ H S Ed E x h k => by
  have lk := h2.run Ed E Wout wo k h3
  exact (h1 _ _ lk).run σ H S Ed E x h k⟩
theorem z_seq {t u : TS} {t' u' : TDS} (h1 : SimZ K e t t') (h2 : SimZ K e u u') : SimZ K e (tSeq t u) (tdSeq t' u') := simZSeq
theorem z_if {c : TT} {t u : TS} {c' : TDT} {t' u' : TDS} (h0 : SimT K e c c') (h1 : SimZ K e t t') (h2 : SimZ K e u u') : SimZ K e (tIfS c t u) (tdIfS c' t' u') := simZIf
theorem z_while {c : TT} {tb : TS} {c' : TDT} {tb' : TDS} (h1 : SimT K e c c') (h2 : SimZ K e tb tb') : SimZ K e (tWhile c tb) (tdWhile c' tb') := simZWhile
theorem z_for {wi : TI} {g : TG} {tb : TS} {wi' : TDI} {g' : TDG} {tb' : TDS} (h1 : SimI0 K e wi wi') (h2 : SimG K e g g') (h3 : SimZ K e tb tb') : SimZ K e (tFor wi g tb) (tdFor wi' g' tb') := simZFor
theorem z_try {c : Value} {i : Nat} {tb : WX → TS} {ts : Addr → Value → Option Addr → TS} {Wout : WX} {tb' : (Exn → PSt → Prop) → TDS} {ts' : Addr → Value → Option Addr → TDS} {wo : Exn → PSt → Prop}
    (h1 : ∀ (W : WX) (w : Exn → PSt → Prop) (h : WLk K e W w), SimZ K e (tb (TagW h)) (tb' w)) (h2 : ∀ a cls d, SimZ K e (ts a cls d) (ts' a cls d)) (h3 : WLk K e Wout wo) : SimZ K e (tTryAs K c i tb ts Wout) (tdTryAs K c i tb' ts' wo) := simTryAs
theorem z_tryN {l : List (Value × (Addr → Value → Option Addr → TS))} {tb : WX → TS} {Wout : WX} {tb' : (Exn → PSt → Prop) → TDS} {l' : List (Value × (Addr → Value → Option Addr → TDS))} {wo : Exn → PSt → Prop}
    (h1 : ∀ (W : WX) (w : Exn → PSt → Prop) (h : WLk K e W w), SimZ K e (tb (TagW h)) (tb' w)) (h2 : SimCl K e l l') (h3 : WLk K e Wout wo) : SimZ K e (tTryN K l tb Wout) (tdTryN K l' tb' wo) := simTryN
theorem z_cl {c : Value} {ts : Addr → Value → Option Addr → TS} {l : List (Value × (Addr → Value → Option Addr → TS))} {ts' : Addr → Value → Option Addr → TDS} {l' : List (Value × (Addr → Value → Option Addr → TDS))} (h1 : ∀ a cls d, SimZ K e (ts a cls d) (ts' a cls d)) (h2 : SimCl K e l l') : SimCl K e ((c, ts) :: l) ((c, ts') :: l') := simClCons
end
end Kn
set_option Elab.async false
set_option maxRecDepth 100000
set_option linter.all false
set_option autoImplicit false
namespace Kn
open PySem L2
section
variable {K : PySem.W.Frag} {e : Ent}
end
end Kn
set_option Elab.async false
set_option maxRecDepth 100000
set_option linter.all false
set_option autoImplicit false
namespace Kn
open PySem L2
section
variable {K : PySem.W.Frag} {e : Ent}
end
end Kn
set_option Elab.async false
set_option maxRecDepth 100000
set_option linter.all false
set_option autoImplicit false
namespace Kn
open PySem L2
section
variable {K : PySem.W.Frag} {e : Ent}
class SimV (K : PySem.W.Frag) (e : Ent) (te : TE) (f : outParam (PSt → (D → Prop) → Prop)) : Prop where
  run : ∀ (σ : St) (H : Hp) (S : PSt) (T : List Tm) (U : Addr → Prop) (Qd : D → Prop) (Q : VK), RU K e σ H S T U → f S Qd → (∀ d v, Qd d → Dv K S.W.Tp (Hd U H) v d → Q v H) → te σ H Q
def valV1 (Q : D → Prop) : Option (Option PC) → Prop
  | some (some (.val d)) => Q d
  | _ => False
instance simVVar {i : Nat} : SimV K e (tVar i) (fun S Q => valV1 Q S.ρ[i]?) := ⟨fun σ H S T U Qd Q x h k => by
  cases q : S.ρ[i]? with
  | none => rw [q] at h; exact h.elim
  | some c =>
    cases c with
    | none => rw [q] at h; exact h.elim
    | some c =>
      rw [q] at h
      cases c with
      | val d =>
        obtain ⟨v, h1, h2⟩ := x.slot i _ q
        exact ⟨v, h1, k d v h h2⟩
      | ownL ds => exact h.elim
      | ownD ds => exact h.elim⟩
def tShare (te : TE) : TE := te
theorem share_of {X : Cx} {ex : Expr} {te : TE} (h : PE X ex te) : PE X ex (tShare te) := h
theorem RNd.share {σ : St} {H : Hp} {S : PSt} {T : List Tm} {l : Addr} {ks : List (Key × D)} (y : RNd K e σ H S T l ks) : S.W.ω l = none ∧ ¬ S.W.Tp l ∧ R K e σ H ⟨S.ρ, S.W.put l (.dct ks)⟩ (.v (.ref l) (.d (.ref l)) :: T) := by
  obtain ⟨U, xs, x, ow, ns, nt, hl, dv⟩ := y.ex
  exact ⟨ow.w, ow.tp, U, RU.push (x.share (c := .dct ks) ow ns nt ⟨xs, hl, dv⟩) (.ref l)⟩
def tdShK (t : TDK) : TDE := fun S Q => t S fun ks S1 => ∀ a : Addr, S1.W.ω a = none → ¬ S1.W.Tp a → Q (.d (.ref a)) ⟨S1.ρ, S1.W.put a (.dct ks)⟩
instance simShK {te : TE} {t : TDK} [h1 : SimK K e te t] : SimE K e (tShare te) (tdShK t) := ⟨fun σ H S T Qd Q x h k => h1.run σ H S T _ _ x h fun ks S1 l H1 hq x1 => by
  obtain ⟨a, b, x2⟩ := x1.share
  exact k _ _ _ _ (hq l a b) x2⟩
end
theorem put_comm {W : Wd} {a b : Addr} {c d : Cell} (h : a ≠ b) : (W.put a c).put b d = (W.put b d).put a c := by
  unfold Wd.put
  congr 1
  funext x
  by_cases h1 : x = b
  · by_cases h2 : x = a
    · exact absurd (h2.symm.trans h1) h
    · subst h1; simp [h2]
  · by_cases h2 : x = a
    · subst h2; simp [h1]
    · simp [h1, h2]
theorem put_ne {W : Wd} {a b : Addr} {c : Cell} (h : (W.put a c).ω b = none) : b ≠ a := fun z => by
  subst z
  rw [Wd.put_same] at h; cases h
theorem put_none' {W : Wd} {a b : Addr} {c : Cell} (h : (W.put a c).ω b = none) : W.ω b = none := by
  rw [Wd.put_ne (put_ne h)] at h; exact h
end Kn
set_option Elab.async false
set_option maxRecDepth 100000
set_option linter.all false
set_option autoImplicit false
namespace Kn
open PySem L2
section
variable {K : PySem.W.Frag} {e : Ent}
def tdOGet (C : Addr) (F : FSpec) (w : Exn → PSt → Prop) (ta ti : TDE) : TDE := fun S Q => ta S fun r S1 => frc r S1 fun d S2 => ti S2 fun r2 S3 => frc r2 S3 fun k S4 => dd1 S4 (.d d) (ofC C (CallF F [d, k] S4 Q w))
instance simOGet {C : Addr} {F : FSpec} {Wx : WX} {w : Exn → PSt → Prop} {ta ti : TE} {ta' ti' : TDE} [h0 : SimE K e ta ta'] [h1 : SimE K e ti ti'] [h2 : WLk K e Wx w] : SimE K e (tOGet C (lift K F) (WE Wx) ta ti) (tdOGet C F w ta' ti') := ⟨fun σ H S T Qd Q x h k => by
  refine h0.run σ H S T _ _ x h fun r S1 v H1 hr x1 => x1.frc hr fun d S2 hr x2 => ?_
  refine h1.run σ H1 S2 _ _ _ x2 hr fun r2 S3 y H2 hr3 x3 => x3.frc hr3 fun kd S4 hr4 x4 => ?_
  obtain ⟨o, ho, hr5⟩ := dd1_inv hr4
  obtain ⟨fs, rfl, hr6⟩ := propF_inv hr5
  have x5 : R K e σ H2 S4 (.v v (.d d) :: .v y (.d kd) :: T) := x4.less fun p hp => by
    rcases List.mem_cons.mp hp with rfl | hp
    · simp
    · rcases List.mem_cons.mp hp with rfl | hp
      · simp
      · exact List.mem_cons_of_mem _ (List.mem_cons_of_mem _ hp)
  obtain ⟨U, xT1, vw, x6⟩ := x5.one ho
  obtain ⟨a, dx, xs, rfl, ha, dv⟩ : Vw K S4.W.Tp U H2 v (.obj C fs) := vw
  have dv0 : Dv K S4.W.Tp (Hd U H2) (.ref a) d := x6.tmp (.v (.ref a) (.d d)) (by simp)
  have dv1 : Dv K S4.W.Tp (Hd U H2) y kd := x6.tmp (.v y (.d kd)) (by simp)
  have xT := x6.less (T' := T) fun p hp => List.mem_cons_of_mem _ (List.mem_cons_of_mem _ hp)
  refine ⟨a, dx, xs, rfl, ha, U, S4.W, [d, kd], _, _, x6.wo, .cons dv0 (.cons dv1 .nil), hr6, fun d W' v H' U' q r f dv => k _ _ _ _ q (xT.callBack r f dv), fun x W' c dd H' U' q r f ex => ?_⟩
  exact h2.run x ⟨S4.ρ, W'⟩ σ H' U' c dd q ((xT.to r f).less fun p hp => by cases hp) ex⟩
def tdOSet (C : Addr) (F : FSpec) (w : Exn → PSt → Prop) (ta ti tv : TDE) : TDS := fun E S => tv S fun r S1 => frc r S1 fun v S2 => ta S2 fun r2 S3 => frc r2 S3 fun d S4 => ti S4 fun r3 S5 => frc r3 S5 fun k S6 => dd1 S6 (.d d) (ofC C (CallF F [d, k, v] S6 (fun _ S' => E.nx S') w))
instance simOSet {C : Addr} {F : FSpec} {Wx : WX} {w : Exn → PSt → Prop} {ta ti tv : TE} {ta' ti' tv' : TDE} [h0 : SimE K e ta ta'] [h1 : SimE K e ti ti'] [h3 : SimE K e tv tv'] [h2 : WLk K e Wx w] : SimS K e (sOSet C (lift K F) (WE Wx) ta ti tv) (tdOSet C F w ta' ti' tv') := ⟨fun σ H S T Ed E hT x h k => by
  refine h3.run σ H S T _ _ x h fun r S1 vv H1 hr x1 => x1.frc hr fun dv S2 hr x2 => ?_
  refine h0.run σ H1 S2 _ _ _ x2 hr fun r S3 v H2 hr x3 => x3.frc hr fun d S4 hr x4 => ?_
  refine h1.run σ H2 S4 _ _ _ x4 hr fun r2 S5 y H3 hr3 x5 => x5.frc hr3 fun kd S6 hr4 x6 => ?_
  obtain ⟨o, ho, hr5⟩ := dd1_inv hr4
  obtain ⟨fs, rfl, hr6⟩ := propF_inv hr5
  have x7 : R K e σ H3 S6 (.v v (.d d) :: .v y (.d kd) :: .v vv (.d dv) :: T) := x6.less fun p hp => by
    rcases List.mem_cons.mp hp with rfl | hp
    · simp
    · rcases List.mem_cons.mp hp with rfl | hp
      · simp
      · exact List.mem_cons_of_mem _ (List.mem_cons_of_mem _ hp)
  obtain ⟨U, xT1, vw, x8⟩ := x7.one ho
  obtain ⟨a, dx, xs, rfl, ha, dvf⟩ : Vw K S6.W.Tp U H3 v (.obj C fs) := vw
  have dv0 : Dv K S6.W.Tp (Hd U H3) (.ref a) d := x8.tmp (.v (.ref a) (.d d)) (by simp)
  have dv1 : Dv K S6.W.Tp (Hd U H3) y kd := x8.tmp (.v y (.d kd)) (by simp)
  have dv2 : Dv K S6.W.Tp (Hd U H3) vv dv := x8.tmp (.v vv (.d dv)) (by simp)
  have xT := x8.less (T' := T) fun p hp => List.mem_cons_of_mem _ (List.mem_cons_of_mem _ (List.mem_cons_of_mem _ hp))
  refine ⟨a, dx, xs, rfl, ha, U, S6.W, [d, kd, dv], _, _, x8.wo, .cons dv0 (.cons dv1 (.cons dv2 .nil)), hr6, fun d W' v H' U' q r f dv => k.nx _ _ _ q ⟨U', xT.to r f⟩, fun x W' c dd H' U' q r f ex => ?_⟩
  exact h2.run x ⟨S6.ρ, W'⟩ σ H' U' c dd q ((xT.to r f).less fun p hp => by cases hp) ex⟩
def tdNeg (t : TDE) : TDE := fun S Q => t S fun r S1 => asI r fun i => Q (.d (.int (-i))) S1
instance simNeg {te : TE} {t : TDE} [h : SimE K e te t] : SimE K e (tUn (rU fun i => .int (-i)) te) (tdNeg t) := ⟨fun σ H S T Qd Q x ht k => by
  refine h.run σ H S T _ _ x ht fun r S1 v H1 h1 x1 => ?_
  match r, h1, x1 with
  | .d (.int b), h1, ⟨U, x1⟩ =>
    have hv : Dv K S1.W.Tp (Hd U H1) v (.int b) := x1.tmp (.v v (.d (.int b))) (by simp)
    cases hv
    have xT := x1.less (T' := T) fun p hp => List.mem_cons_of_mem _ hp
    exact ⟨b, rfl, k _ _ _ _ h1 ⟨U, xT.push (.int (-b))⟩⟩⟩
end
section
variable {P : Program} {w : World} {K : PySem.W.Frag} {mg : Str → Option Value} {base : Heap}
theorem Mz.okOD {C : Addr} {m qual : Str} {st : Stmt} {ps N : List Str} {k : Nat} {Fs : FSpec} (F : Mz K C m qual st ps []) (ns : PySem.W.noSeq K C = true) (S : FnScope N ps (defScope st)) (hl : ∀ ds W Q E, Fs ds W Q E → ds.length = ps.length) (hbody : BodyD P w K mg base N qual st k Fs) : Ox P w K mg base C m (k + 1) ps (lift K Fs) := F.okO ns S (lift_len hl) hbody.run
end
end Kn
set_option Elab.async false
set_option maxRecDepth 100000
set_option linter.all false
set_option autoImplicit false
namespace Kn
open PySem L2
section
variable {K : PySem.W.Frag} {e : Ent} {σ : St} {H : Hp} {S : PSt} {T : List Tm} {U : Addr → Prop}
theorem RU.updC2 (x : RU K e σ H S T U) {a : Addr} {o : HO} {c c' : Cell} (hc : S.W.ω a = some c) (hm : ∀ c0, e.W.ω a = some c0 → c0.isMut) (hn : CellOk K S.W.Tp U (L2.upd H a o) a c') : RU K e σ (L2.upd H a o) ⟨S.ρ, S.W.put a c'⟩ T U := by
  have u := (x.wo.cell a c hc).1
  have h0 : e.H a = none ∨ e.W.mt a := by
    rcases x.fr.wnew a (.inr ⟨c, hc⟩) with (z | ⟨c0, z⟩) | z
    · exact .inr (.inl z)
    · exact .inr (.inr ⟨c0, z, hm c0 z⟩)
    · exact .inl z
  have f1 : Fr e U (S.W.put a c') (L2.upd H a o) := by
    have f := x.fr.upd (o := o) h0
    exact { f with
      wnew := fun b h => by
        by_cases q : b = a
        · subst q; exact x.fr.wnew b (.inr ⟨c, hc⟩)
        · refine x.fr.wnew b ?_
          rcases h with h | ⟨c1, h⟩
          · exact .inl h
          · rw [Wd.put_ne q] at h; exact .inr ⟨c1, h⟩
      lk := fun b c1 h n => by
        by_cases q : b = a
        · subst q
          exact (n (hm c1 h)).elim
        · rw [Wd.put_ne q]; exact x.fr.lk b c1 h n }
  exact {
    wo := {
      dom := fun b h => by
        by_cases q : b = a
        · subst q; rw [upd_same]; intro z; cases z
        · rw [upd_ne q]; exact x.wo.dom b h
      tape := fun t h => by
        obtain ⟨a1, b1, c1⟩ := x.wo.tape t h
        have nt : t ≠ a := fun z => by rw [z, hc] at c1; cases c1
        exact ⟨a1, b1.le fun o q => by rw [upd_ne nt]; exact q, by rw [Wd.put_ne nt]; exact c1⟩
      cell := fun b c1 h => by
        by_cases q : b = a
        · subst q
          rw [Wd.put_same] at h; cases h
          exact ⟨u, hn⟩
        · rw [Wd.put_ne q] at h
          obtain ⟨u', k⟩ := x.wo.cell b c1 h
          exact ⟨u', k.le (Same.lq (Hd.upd u)) (fun _ z => z) fun o k => by rw [upd_ne q]; exact k⟩ }
    fr := f1
    ed := x.ed
    len := x.len
    slot := fun i c1 h => by
      obtain ⟨v, h1, h2⟩ := x.slot i c1 h
      refine ⟨v, h1, ?_⟩
      have nv : ∀ m, Ow e U S.W m → m ≠ a := fun m ow z => by rw [← z, ow.w] at hc; cases hc
      match c1, h2 with
      | .val d, h2 => exact Dv.le (Same.lq (Hd.upd u)) (fun _ z => z) h2
      | .ownL ds, ⟨m, vs, e1, ow, e2, e3⟩ => exact ⟨m, vs, e1, ⟨ow.u, ow.e0, ow.tp, by rw [Wd.put_ne (nv m ow)]; exact ow.w⟩, by rw [upd_ne (nv m ow)]; exact e2, DvL.le (Same.lq (Hd.upd u)) (fun _ z => z) e3⟩
      | .ownD ds, ⟨m, vs, e1, ow, e2, e3⟩ => exact ⟨m, vs, e1, ⟨ow.u, ow.e0, ow.tp, by rw [Wd.put_ne (nv m ow)]; exact ow.w⟩, by rw [upd_ne (nv m ow)]; exact e2, DvK.le (Same.lq (Hd.upd u)) (fun _ z => z) e3⟩
    sep := x.sep
    tmp := fun p hp => by
      have := x.tmp p hp
      match p, this with
      | .v v (.d d), h => exact Dv.le (Same.lq (Hd.upd u)) (fun _ z => z) h
      | .v v (.own j), h => exact h
      | .nw m ds, ⟨om, ms, vs, h, h2⟩ =>
        have nv : m ≠ a := fun z => by rw [← z, om.w] at hc; cases hc
        exact ⟨⟨om.u, om.e0, om.tp, by rw [Wd.put_ne nv]; exact om.w⟩, ms, vs, by rw [upd_ne nv]; exact h, DvL.le (Same.lq (Hd.upd u)) (fun _ z => z) h2⟩
      | .pin b o w, ⟨n, h⟩ => exact ⟨n, by rw [upd_ne (show b ≠ _ from fun z => n (z ▸ u))]; exact h⟩ }
theorem RU.mutE (x : RU K e σ H S T U) {a : Addr} {c : Cell} (hc : S.W.ω a = some c) (mc : c.isMut) : ∀ c0, e.W.ω a = some c0 → c0.isMut := fun c0 z => by
  by_cases q : c0.isMut
  · exact q
  · have := x.fr.lk a c0 z q
    rw [hc] at this
    cases this
    exact mc
theorem RU.lockC (x : RU K e σ H S T U) {a : Addr} {vs : List (Key × V)} {ks : List (Key × D)} (hc : S.W.ω a = some (.dct ks)) (hh : H a = some (.dK vs)) (od : Obj) : RU K e σ (upd H a (.frz od (.dK vs))) ⟨S.ρ, S.W.put a (.lk od vs ks)⟩ T U := by
  obtain ⟨u, vs', e2, dk⟩ := x.wo.cell a _ hc
  rw [hh] at e2
  cases e2
  exact x.updC2 (c' := .lk od vs ks) hc (x.mutE hc trivial) ⟨upd_same, DvK.le (Same.lq (Hd.upd u)) (fun _ z => z) dk⟩
theorem RU.looseC (x : RU K e σ H S T U) {a : Addr} {od : Obj} {vs : List (Key × V)} {ks : List (Key × D)} (hc : S.W.ω a = some (.lk od vs ks)) (hm : ∀ c0, e.W.ω a = some c0 → c0.isMut) : H a = some (.frz od (.dK vs)) ∧ RU K e σ (upd H a (.dK vs)) ⟨S.ρ, S.W.put a (.dct ks)⟩ T U := by
  obtain ⟨u, e2, dk⟩ := x.wo.cell a _ hc
  exact ⟨e2, x.updC2 (c' := .dct ks) hc hm ⟨vs, upd_same, DvK.le (Same.lq (Hd.upd u)) (fun _ z => z) dk⟩⟩
theorem cell_keys {b : Addr} {od : Obj} {vs : List (Key × V)} {ks : List (Key × D)} {i : Nat} (w : S.W.ω b = some (.lk od vs ks)) (x : R K e σ H S T) : ((ks.map fun p : Key × D => keyV p.1).length ≤ i → (Itk b od vs).stop i H) ∧ (i < (ks.map fun p : Key × D => keyV p.1).length → (Itk b od vs).go i H ∧ ∀ y H', (Itk b od vs).yld i H y H' → ∃ d, (ks.map fun p : Key × D => keyV p.1)[i]? = some d ∧ R K e σ H' S (.v y (.d d) :: T)) := by
  obtain ⟨U, x⟩ := x
  obtain ⟨u, e2, dk⟩ := x.wo.cell b _ w
  have hl : (ks.map fun p : Key × D => keyV p.1).length = vs.length := by rw [dk.keys, List.length_map]
  rw [hl]
  refine ⟨fun hi => ⟨e2, hi⟩, fun hi => ⟨⟨e2, hi⟩, ?_⟩⟩
  rintro y H' ⟨rfl, k, v, hk, rfl⟩
  refine ⟨keyV k, ?_, U, x.push (keyV_dv k)⟩
  rw [dk.keys, List.getElem?_map, hk]
  rfl
class SimX (K : PySem.W.Frag) (e : Ent) (te : TE) (f : outParam (PSt → (D → Prop) → Prop)) : Prop where
  run : ∀ (σ : St) (H : Hp) (S : PSt) (T : List Tm) (U : Addr → Prop) (Qd : D → Prop) (Q : VK), RU K e σ H S T U → f S Qd → (∀ d v, Qd d → Dv K S.W.Tp (Hd U H) v d → Q v H) → te σ H Q
  ex : ∀ (S : PSt) (Q : D → Prop), f S Q → ∃ d, Q d
def tvVar (i : Nat) : PSt → (D → Prop) → Prop := fun S Q => valV1 Q S.ρ[i]?
instance simXVar {i : Nat} : SimX K e (tVar i) (tvVar i) := ⟨(simVVar (K := K) (e := e) (i := i)).run, fun S Q h => by
  have h : valV1 Q S.ρ[i]? := h
  match q : S.ρ[i]?, h with
  | some (some (.val d)), h => exact ⟨d, h⟩⟩
def tvFld (C : Addr) (f : Str) (fv : PSt → (D → Prop) → Prop) : PSt → (D → Prop) → Prop := fun S Q => fv S fun d => dd1 S (.d d) (fldF C f Q)
instance simXFld {C : Addr} {f : Str} {te : TE} {fv : PSt → (D → Prop) → Prop} [h : SimX K e te fv] : SimX K e (tFldC C f te) (tvFld C f fv) := ⟨fun σ H S T U Qd Q x hf k => by
  refine h.run σ H S T U _ _ x hf fun d v hq dv => ?_
  obtain ⟨o, ho, hq⟩ := dd1_inv hq
  obtain ⟨fs, y, rfl, hl, q⟩ := fldF_inv hq
  obtain ⟨a, dx, xs, rfl, ha, dvf⟩ : Vw K S.W.Tp U H v (.obj C fs) := x.vw (r := .d d) dv ho
  obtain ⟨z, hz, dz⟩ := DvF.look_some dvf hl
  exact ⟨a, dx, xs, z, rfl, ha, hz, k _ _ q dz⟩, fun S Q hf => by
  obtain ⟨d, hd⟩ := h.ex S _ hf
  obtain ⟨o, ho, hq⟩ := dd1_inv hd
  obtain ⟨fs, y, rfl, hl, q⟩ := fldF_inv hq
  exact ⟨y, q⟩⟩
def forL (g : TDG) (tb : TDS) (E : DEnds) (b : Addr) (od : Obj) (vs : List (Key × V)) (ks : List (Key × D)) : List D → PSt → Prop
  | [], S => S.W.ω b = some (.lk od vs ks) ∧ E.nx ⟨S.ρ, S.W.put b (.dct ks)⟩
  | d :: ds, S => S.W.ω b = some (.lk od vs ks) ∧ ∃ N : PSt → Prop, (∀ S', N S' → forL g tb E b od vs ks ds S') ∧ g d S fun S2 => tb ⟨N, fun r W => W.ω b = some (.lk od vs ks) ∧ E.rt r (W.put b (.dct ks)), fun S' => S'.W.ω b = some (.lk od vs ks) ∧ E.nx ⟨S'.ρ, S'.W.put b (.dct ks)⟩, N, fun _ _ => False⟩ S2
def refD (Q : Addr → Prop) : D → Prop
  | .ref b => Q b
  | _ => False
def dctC (Q : List (Key × D) → Prop) : Option Cell → Prop
  | some (.dct ks) => Q ks
  | _ => False
theorem refD_inv {Q : Addr → Prop} {d : D} (h : refD Q d) : ∃ b, d = .ref b ∧ Q b := by
  cases d with
  | ref b => exact ⟨b, rfl, h⟩
  | _ => exact h.elim
theorem dctC_inv {Q : List (Key × D) → Prop} {o : Option Cell} (h : dctC Q o) : ∃ ks, o = some (.dct ks) ∧ Q ks := by
  cases o with
  | none => exact h.elim
  | some c =>
    cases c with
    | dct ks => exact ⟨ks, rfl, h⟩
    | lst ds => exact h.elim
    | ins C fs => exact h.elim
    | lk od vs ks => exact h.elim
    | dtn w o ks => exact h.elim
def compL (g : TDG) (tt : TDT) (te : TDE) (vs : List Nat) (Q : List D → PSt → Prop) (b : Addr) (od : Obj) (vk : List (Key × V)) (ks : List (Key × D)) : List D → List D → PSt → Prop
  | [], acc, S => S.W.ω b = some (.lk od vk ks) ∧ Q acc ⟨S.ρ, S.W.put b (.dct ks)⟩
  | d :: ds, acc, S => S.W.ω b = some (.lk od vk ks) ∧ ∃ N : List D → PSt → Prop, (∀ a S', N a S' → compL g tt te vs Q b od vk ks ds a S') ∧
    g d S fun S2 => tt S2 fun b S3 => if b = true then te S3 fun r S4 => frc r S4 fun y S5 => acc.length ≤ 999999 ∧ N (acc ++ [y]) (S5.wipe vs) else N acc (S3.wipe vs)
end
end Kn
set_option Elab.async false
set_option maxRecDepth 100000
set_option linter.all false
set_option autoImplicit false
namespace Kn
open PySem L2
section
variable {K : PySem.W.Frag} {e : Ent}
def getF (k : Key) (z : D) (Q : D → Prop) : D → Prop
  | .dct ks => Q ((look ks k).getD z)
  | _ => False
theorem getF_inv {k : Key} {z d : D} {Q : D → Prop} (h : getF k z Q d) : ∃ ks, d = .dct ks ∧ Q ((look ks k).getD z) := by
  cases d with
  | dct ks => exact ⟨ks, rfl, h⟩
  | _ => exact h.elim
def tdGet2 (td ty tx : TDE) : TDE := fun S Q => td S fun rx S1 => (∃ ks, derefD S1 rx = some (.dct ks)) ∧ ty S1 fun ry S2 => tx S2 fun rz S3 => frc rz S3 fun dz S4 => dd1 S4 ry fun dk => opt (keyD dk) fun k => dd1 S4 rx (getF k dz fun d => Q (.d d) S4)
instance simGet2 {td ty tx : TE} {td' ty' tx' : TDE} [h1 : SimE K e td td'] [h2 : SimE K e ty ty'] [h3 : SimE K e tx tx'] : SimE K e (tDGet2 td ty tx) (tdGet2 td' ty' tx') := ⟨fun σ H S T Qd Q x h k => by
  refine h1.run σ H S T _ _ x h fun rx S1 v H1 hr x1 => ?_
  obtain ⟨⟨ks0, hd0⟩, hr⟩ := hr
  obtain ⟨U0, _, vw0, _⟩ := x1.one hd0
  obtain ⟨a, xs0, rfl, g0, _⟩ : Vw K S1.W.Tp U0 H1 v (.dct ks0) := vw0
  refine ⟨a, rfl, .inl ⟨xs0, g0⟩, h2.run σ H1 S1 _ _ _ x1 hr fun ry S2 y H2 hr x2 => ?_⟩
  refine h3.run σ H2 S2 _ _ _ x2 hr fun rz S3 z H3 hr x3 => x3.frc hr fun dz S4 hr x4 => ?_
  obtain ⟨dk, hk, hr⟩ := dd1_inv hr
  obtain ⟨key, hkey, hr⟩ := opt_inv hr
  obtain ⟨dd, hdd, hr⟩ := dd1_inv hr
  obtain ⟨ks, rfl, hr'⟩ := getF_inv hr
  clear hr
  have hr := hr'
  clear hr'
  obtain ⟨Uy, _, vy, _⟩ := R.one (x4.less (T' := .v y ry :: T) fun p hp => by
    rcases List.mem_cons.mp hp with rfl | hp
    · simp
    · simp [hp]) hk
  have ey := keyD_v vy hkey
  obtain ⟨U, wT, vw, _⟩ := R.one (T := .v z (.d dz) :: T) (x4.less (T' := .v (.ref a) rx :: .v z (.d dz) :: T) fun p hp => by
    rcases List.mem_cons.mp hp with rfl | hp
    · simp
    · rcases List.mem_cons.mp hp with rfl | hp
      · simp
      · simp [hp]) hdd
  obtain ⟨p, xs, e1, g1, g2⟩ : Vw K S4.W.Tp U H3 (.ref a) (.dct ks) := vw
  cases e1
  cases hl : look ks key with
  | none =>
    rw [hl] at hr
    exact ⟨none, .inl ⟨xs, key, g1, ey, (g2.look_none hl).symm⟩, k _ _ _ _ hr ⟨U, wT⟩⟩
  | some d =>
    rw [hl] at hr
    obtain ⟨v', h5, h6⟩ := g2.look_some hl
    exact ⟨some v', .inl ⟨xs, key, g1, ey, h5.symm⟩, k _ _ _ _ hr ⟨U, (wT.less fun p hp => List.mem_cons_of_mem _ hp).push h6⟩⟩⟩
def popI (ds : List D) (i : Int) : Option (Nat × D) := (ixN ds.length i).bind fun j => ds[j]?.map fun y => (j, y)
theorem popI_inv {ds : List D} {i : Int} {p : Nat × D} (h : popI ds i = some p) : ixN ds.length i = some p.1 ∧ ds[p.1]? = some p.2 := by
  obtain ⟨j, h1, h2⟩ := Option.bind_eq_some_iff.mp h
  obtain ⟨y, h3, rfl⟩ := Option.map_eq_some_iff.mp h2
  exact ⟨h1, h3⟩
theorem popI_at {ds : List D} {i : Int} {j : Nat} {y : D} (e : i = (j : Int)) (h : ds[j]? = some y) : popI ds i = some (j, y) := by
  have hj : j < ds.length := (List.getElem?_eq_some_iff.mp h).1
  unfold popI
  have : ixN ds.length i = some j := by
    subst e
    unfold ixN
    rw [if_pos (by omega)]
    simp [hj]
  rw [this]
  simp [h]
def popF (i : Int) (G : List D → Nat → D → Prop) : D → Prop
  | .lst ds => (-(2 ^ 63) ≤ i ∧ i < 2 ^ 63) ∧ opt (popI ds i) fun p => G ds p.1 p.2
  | _ => False
theorem popF_inv {i : Int} {G : List D → Nat → D → Prop} {d : D} (h : popF i G d) : ∃ ds, d = .lst ds ∧ (-(2 ^ 63) ≤ i ∧ i < 2 ^ 63) ∧ opt (popI ds i) fun p => G ds p.1 p.2 := by
  cases d with
  | lst ds => exact ⟨ds, rfl, h⟩
  | _ => exact h.elim
theorem asI_inv {r : Rv} {F : Int → Prop} (h : asI r F) : ∃ i, r = .d (.int i) ∧ F i := by
  cases r with
  | own j => exact h.elim
  | d d =>
    cases d with
    | int i => exact ⟨i, rfl, h⟩
    | _ => exact h.elim
theorem RU.mutU {σ : St} {H : Hp} {S : PSt} {T : List Tm} {U : Addr → Prop} {v : V} {r : Rv} {F : List D → (List D → Prop) → Prop} {Q : List D → PSt → Prop} (x : RU K e σ H S (.v v r :: T) U) (h : Kn.mutL S r F Q) {l : Addr} (e1 : v = .ref l) : U l := by
  match r, x, h with
  | .own j, x, h =>
    have hs : σ[j]? = some (some v) := x.tmp (.v v (.own j)) (by simp)
    have h : mutO S j F Q S.ρ[j]? := h
    match q : S.ρ[j]?, h with
    | some (some (.ownL ds)), h =>
      obtain ⟨l', vs, e2, ow, _⟩ := x.ownL q
      rw [hs, e1] at e2; cases e2
      exact ow.u
  | .d (.ref a), x, h =>
    have hv : Dv K S.W.Tp (Hd U H) v (.ref a) := x.tmp (.v v (.d (.ref a))) (by simp)
    cases hv
    injection e1 with e1
    subst e1
    have h : mutC S a F Q (S.W.ω a) := h
    cases q : S.W.ω a with
    | none => rw [q] at h; exact h.elim
    | some c => exact (x.wo.cell a c q).1
theorem DvL.erase {Tp : Addr → Prop} {H : Hp} : ∀ (n : Nat) {vs : List V} {ds : List D}, DvL K Tp H vs ds → DvL K Tp H (vs.eraseIdx n) (ds.eraseIdx n)
  | _, _, _, .nil => .nil
  | 0, _, _, .cons _ a => a
  | n + 1, _, _, .cons h a => .cons h (DvL.erase n a)
def tdPopAt (to : TDE) (t : TDA) : TDE := fun S Q => to S fun rx S1 => (∃ ds, derefD S1 rx = some (.lst ds)) ∧ t S1 fun rs S2 => arg1 rs fun r => asI r fun i => dd1 S2 rx (popF i fun ds j y => mutL S2 rx (fun ds' k => ds' = ds ∧ k (ds.eraseIdx j)) fun _ S3 => Q (.d y) S3)
instance simPopAt {to : TE} {t : TA} {to' : TDE} {t' : TDA} [h1 : SimE K e to to'] [h2 : SimA K e t t'] : SimE K e (tBM K "list" rPopAt to t) (tdPopAt to' t') := ⟨fun σ H S T Qd Q x h k => by
  refine h1.run σ H S T _ _ x h fun rx S1 v H1 hr x1 => ?_
  obtain ⟨⟨ds0, hd0⟩, hr⟩ := hr
  refine ⟨tyV_list x1 hd0, h2.run σ H1 S1 _ _ _ x1 hr fun rs S2 vs H2 hr hl x2 => ?_⟩
  obtain ⟨r, rfl, hr⟩ := arg1_inv hr
  obtain ⟨y, rfl⟩ := len1 hl
  obtain ⟨i, rfl, hr⟩ := asI_inv hr
  obtain ⟨d, hd, hr⟩ := dd1_inv hr
  obtain ⟨ds, rfl, hb, hr⟩ := popF_inv hr
  obtain ⟨⟨j, yd⟩, hj, hr⟩ := opt_inv hr
  obtain ⟨a1, a2⟩ := popI_inv hj
  have ey : y = .int i := by
    obtain ⟨U, x2⟩ := x2
    have := x2.tmp (.v y (.d (.int i))) (by simp [tms])
    have this : Dv K S2.W.Tp (Hd U H2) y (.int i) := this
    cases this; rfl
  subst ey
  have x3 : R K e σ H2 S2 (.v v rx :: T) := x2.less fun p hp => by simp [tms]; exact .inr (by simpa using hp)
  refine x3.mutL hr fun l xs ds' U Qs e1 e2 e3 x4 hq kk => ?_
  obtain ⟨rfl, hq⟩ := hq
  obtain ⟨yv, h5, h6⟩ := e3.get a2
  obtain ⟨S4, q4, x5, etp⟩ := kk (xs.eraseIdx j) _ hq (e3.erase j)
  have u : U l := x4.mutU hr e1
  have h7 : Dv K S4.W.Tp (Hd U (upd H2 l (.lst (xs.eraseIdx j)))) yv yd := by
    rw [etp]
    exact Dv.le (Same.lq (Hd.upd u)) (fun _ z => z) h6
  exact ⟨l, xs, i, j, yv, e1, rfl, e2, hb.1, hb.2, by rw [e3.len]; exact (ixN_seq a1).1, h5, k _ _ _ _ q4 ⟨U, x5.push h7⟩⟩⟩
abbrev TRg := St → Hp → (Int → Int → Hp → Prop) → Prop
abbrev TDRg := PSt → (Int → Int → PSt → Prop) → Prop
class SimRg (K : PySem.W.Frag) (e : Ent) (te : TRg) (t : outParam TDRg) : Prop where
  run : ∀ (σ : St) (H : Hp) (S : PSt) (T : List Tm) (Qd : Int → Int → PSt → Prop) (Q : Int → Int → Hp → Prop), R K e σ H S T → t S Qd → (∀ a b S' H', Qd a b S' → R K e σ H' S' T → Q a b H') → te σ H Q
def tdRg1 (ta : TDE) : TDRg := fun S Q => ta S fun r S1 => asI r fun n => Q 0 n S1
instance simRg1 {ta : TE} {ta' : TDE} [h1 : SimE K e ta ta'] : SimRg K e (tRg1 ta) (tdRg1 ta') := ⟨fun σ H S T Qd Q x h k => by
  refine h1.run σ H S T _ _ x h fun r S1 v H1 hr x1 => ?_
  obtain ⟨n, rfl, hr⟩ := asI_inv hr
  obtain ⟨U, wT, vw, _⟩ := R.one (T := T) (a := .int n) x1 rfl
  exact ⟨n, vw.int, k _ _ _ _ hr ⟨U, wT⟩⟩⟩
theorem rgV_dv {Tp : Addr → Prop} {H : Hp} (a b : Int) : DvL K Tp H (rgV a b) (rng a (b - a).toNat) := by
  have : ∀ l : List Nat, DvL K Tp H (l.map fun i => V.int (a + (i : Nat))) (l.map fun (i : Nat) => D.int (a + (i : Int))) := fun l => by
    induction l with
    | nil => exact .nil
    | cons i l ih => exact .cons (.int _) ih
  exact this _
def tdTupRg (t : TDRg) : TDE := fun S Q => t S fun a b S1 => (0 ≤ a ∧ a ≤ 1000000 ∧ 0 ≤ b ∧ b ≤ 1000000) ∧ Q (.d (.tup (rng a (b - a).toNat))) S1
instance simTupRg {te : TRg} {t : TDRg} [h1 : SimRg K e te t] : SimE K e (tTupRg te) (tdTupRg t) := ⟨fun σ H S T Qd Q x h k => by
  refine h1.run σ H S T _ _ x h fun a b S1 H1 hr x1 => ?_
  obtain ⟨⟨a1, a2, a3, a4⟩, hr⟩ := hr
  obtain ⟨U, x1⟩ := x1
  exact ⟨RgOk.of_le a1 (by omega) (by omega) a3, fun q hq => k _ _ _ _ hr (x1.newT hq (rgV_dv a b))⟩⟩
abbrev OW := PSt → (Addr → Obj → List (Key × V) → List (Key × D) → Prop) → Prop
class SimW (K : PySem.W.Frag) (e : Ent) (wi : TI) (ow : outParam OW) : Prop where
  lock : ∀ (σ : St) (H : Hp) (S : PSt) (T : List Tm) (U : Addr → Prop) (Q : Addr → Obj → List (Key × V) → List (Key × D) → Prop), RU K e σ H S T U → ow S Q →
    ∃ (b : Addr) (vs : List (Key × V)) (ks : List (Key × D)), S.W.ω b = some (.dct ks) ∧ H b = some (.dK vs) ∧ (∀ c0, e.W.ω b = some c0 → c0.isMut) ∧
      ∀ (od : Obj) (R' : It → Hp → Prop), (Q b od vs ks → RU K e σ (upd H b (.frz od (.dK vs))) ⟨S.ρ, S.W.put b (.lk od vs ks)⟩ T U → R' (Itk b od vs) (upd H b (.frz od (.dK vs)))) → wi σ (upd H b (.frz od (.dK vs))) R'
def iDct (K : PySem.W.Frag) (td : TE) : TI := iAny K td
def dctW (fv : PSt → (D → Prop) → Prop) : OW := fun S Q =>
  fv S (refD fun b => dctC (fun ks => ∀ od vs, fv ⟨S.ρ, S.W.put b (.lk od vs ks)⟩ fun v' => v' = .ref b ∧ Q b od vs ks) (S.W.ω b))
theorem pi_dct {X : Cx} {tg x : Expr} {te : TE} (K : PySem.W.Frag) (he : PE X x te) (hK : X.K = K := by rfl) : PI X tg x (iDct K te) := pi_any K he hK
instance simWDct {te : TE} {fv : PSt → (D → Prop) → Prop} [h1 : SimX K e te fv] : SimW K e (iDct K te) (dctW fv) := ⟨fun σ H S T U Q x h => by
  obtain ⟨d, hd⟩ := h1.ex S _ h
  obtain ⟨b, rfl, hd⟩ := refD_inv hd
  obtain ⟨ks, hb, hd⟩ := dctC_inv hd
  obtain ⟨u, vs, hH, dk⟩ := x.wo.cell b _ hb
  refine ⟨b, vs, ks, hb, hH, x.mutE hb trivial, fun od R' k => ?_⟩
  have x1 := x.lockC hb hH od
  refine h1.run σ _ _ T U _ _ x1 (hd od vs) fun d' v hq dv => ?_
  obtain ⟨rfl, hq⟩ := hq
  cases dv
  exact .inr (.inr ⟨b, vs, rfl, .inl ⟨od, upd_same, k hq x1⟩⟩)⟩
def tdForW (ow : OW) (g : TDG) (tb : TDS) : TDS := fun E S => ow S fun b od vs ks => forL g tb E b od vs ks (ks.map fun p : Key × D => keyV p.1) ⟨S.ρ, S.W.put b (.lk od vs ks)⟩
instance simForW {wi : TI} {ow : OW} {g : TG} {tb : TS} {g' : TDG} {tb' : TDS} [h1 : SimW K e wi ow] [h2 : SimG K e g g'] [h3 : SimS K e tb tb'] : SimS K e (tLock (tFor wi g tb)) (tdForW ow g' tb') := ⟨fun σ H S T Ed E hT ⟨U, x⟩ h k => by
  obtain ⟨b, vs, ks, hb, hH, hm, hlk⟩ := h1.lock σ H S T U _ x h
  refine ⟨b, .dK vs, hH, trivial, fun od => hlk od _ fun hf x1 => ?_⟩
  refine ⟨fun i m σ H => m = (ks.map fun p : Key × D => keyV p.1).length - i ∧ i ≤ (ks.map fun p : Key × D => keyV p.1).length ∧ ∃ S, forL g' tb' Ed b od vs ks ((ks.map fun p : Key × D => keyV p.1).drop i) S ∧ R K e σ H S T, ⟨_, rfl, Nat.zero_le _, _, hf, U, x1⟩, ?_⟩
  rintro i m σ H ⟨rfl, hi, S, hf, x⟩
  by_cases c : i < (ks.map fun p : Key × D => keyV p.1).length
  · rw [List.drop_eq_getElem_cons c] at hf
    obtain ⟨hw, N, hN, hf⟩ := hf
    obtain ⟨i1, i2⟩ := cell_keys (i := i) hw x
    obtain ⟨g1, g2⟩ := i2 c
    refine .inr ⟨g1, fun σ' H' => ∃ S', N S' ∧ R K e σ' H' S' T, ?_, fun v H' hy => ?_⟩
    · rintro σ' H' ⟨S', n, x'⟩
      exact ⟨_, by omega, rfl, by omega, S', hN S' n, x'⟩
    · obtain ⟨d, hd', x'⟩ := g2 v H' hy
      have : d = (ks.map fun p : Key × D => keyV p.1)[i] := by rw [List.getElem?_eq_getElem c] at hd'; exact (Option.some.inj hd').symm
      subst this
      refine h2.run v _ σ H' S T _ _ hT x' hf fun S2 σ2 H2 hb2 x2 => ?_
      refine h3.run σ2 H2 S2 T _ _ hT x2 hb2 ⟨fun S' σ' H' n x' => ⟨S', n, x'⟩, fun d S' σ' v H' q ⟨U', x'⟩ => ?_, fun S' σ' H' q ⟨U', x'⟩ => ?_, fun S' σ' H' n x' => ⟨S', n, x'⟩, fun _ _ _ _ _ q => q.elim⟩
      · obtain ⟨e1, x2⟩ := x'.looseC q.1 hm
        exact ⟨e1, k.rt d ⟨S'.ρ, S'.W.put b (.dct ks)⟩ σ' v _ q.2 ⟨U', x2⟩⟩
      · obtain ⟨e1, x2⟩ := x'.looseC q.1 hm
        exact ⟨e1, k.nx _ _ _ q.2 ⟨U', x2⟩⟩
  · rw [List.drop_of_length_le (by omega)] at hf
    obtain ⟨hw, hf⟩ := hf
    obtain ⟨i1, i2⟩ := cell_keys (i := i) hw x
    obtain ⟨U', x'⟩ := x
    obtain ⟨e1, x2⟩ := x'.looseC hw hm
    exact .inl ⟨i1 (by omega), e1, k.nx _ _ _ hf ⟨U', x2⟩⟩⟩
end
end Kn
set_option Elab.async false
set_option maxRecDepth 100000
set_option linter.all false
set_option autoImplicit false
namespace Kn
open PySem L2
section
variable {K : PySem.W.Frag} {e : Ent}
def refV (r : Rv) (Q : Addr → Prop) : Prop := match r with
  | .d (.ref b) => Q b
  | _ => False
end
end Kn
set_option Elab.async false
set_option maxRecDepth 100000
set_option linter.all false
set_option autoImplicit false
namespace Kn
open PySem L2
section
variable {K : PySem.W.Frag} {e : Ent}
theorem DvL.set {Tp : Addr → Prop} {H : Hp} {v : V} {d : D} (g : Dv K Tp H v d) : ∀ (n : Nat) {vs : List V} {ds : List D}, DvL K Tp H vs ds → DvL K Tp H (vs.set n v) (ds.set n d)
  | _, _, _, .nil => .nil
  | 0, _, _, .cons _ a => .cons g a
  | n + 1, _, _, .cons h a => .cons h (DvL.set g n a)
end
end Kn
set_option Elab.async false
set_option maxRecDepth 100000
set_option linter.all false
set_option autoImplicit false
namespace Kn
open PySem L2
section
variable {K : PySem.W.Frag} {e : Ent}
def tdMethK (C : Addr) (m : Str) (F : FSpec) (w : Exn → PSt → Prop) (n nk : Nat) (ta : TDE) (t tk : TDA) : TDE := fun S Q => ta S fun r S1 => frc r S1 fun d S2 => dd1 S2 (.d d) (recF C m (t S2 fun rs S3 => frcL rs S3 fun ds S4 => tk S4 fun zs S5 => frcL zs S5 fun es S6 => ds.length + 1 = n ∧ es.length = nk ∧ CallF F (d :: (ds ++ es)) S6 Q w))
instance simMethK {C : Addr} {m : Str} {F : FSpec} {n nk : Nat} {Wx : WX} {w : Exn → PSt → Prop} {ta : TE} {t tk : TA} {ta' : TDE} {t' tk' : TDA} [h0 : SimE K e ta ta'] [h1 : SimA K e t t'] [h1k : SimA K e tk tk'] [h2 : WLk K e Wx w] :
    SimE K e (tMethK C m (lift K F) n nk (WE Wx) ta t tk) (tdMethK C m F w n nk ta' t' tk') := ⟨fun σ H S T Qd Q x h k => by
  refine h0.run σ H S T _ _ x h fun r S1 v H1 hr x1 => x1.frc hr fun d S2 hr x2 => ?_
  obtain ⟨o, ho, hr⟩ := dd1_inv hr
  obtain ⟨fs, rfl, hl, hr⟩ := recF_inv hr
  obtain ⟨U1, xT1, vw, x3⟩ := x2.one ho
  obtain ⟨a, dx, xs, rfl, ha, dv⟩ : Vw K S2.W.Tp U1 H1 v (.obj C fs) := vw
  refine ⟨a, dx, xs, rfl, ha, DvF.look_none dv hl, ?_⟩
  refine h1.run σ H1 S2 _ _ _ ⟨U1, x3⟩ hr fun rs S3 vs H2 hc hl2 x4 => ?_
  refine R.frcL hl2 x4 hc fun ds S4 h3 hl3 x5 => ?_
  refine h1k.run σ H2 S4 _ _ _ x5 h3 fun zs S5 ws H3 hc2 hl4 x6 => ?_
  refine R.frcL hl4 x6 hc2 fun es S6 h5 hl5 x7 => ?_
  obtain ⟨n1, n2, h5⟩ := h5
  obtain ⟨U, x7⟩ := x7
  have x8 := x7.less (T' := tms vs (ds.map Rv.d) ++ (.v (.ref a) (.d d) :: T)) fun p hp => List.mem_append_right _ hp
  have xT := x8.less (T' := T) fun p hp => List.mem_append_right _ (List.mem_cons_of_mem _ hp)
  have dv0 : Dv K S6.W.Tp (Hd U H3) (.ref a) d := x8.tmp (.v (.ref a) (.d d)) (List.mem_append_right _ (List.mem_cons_self))
  refine ⟨by rw [hl3]; exact n1, by rw [hl5]; exact n2, U, S6.W, d :: (ds ++ es), _, _, x7.wo, .cons dv0 (DvL.app (RU.tms hl3 x8) (RU.tms hl5 x7)), h5, fun d W' v H' U' q r f dv => k _ _ _ _ q (xT.callBack r f dv), fun x W' c dd H' U' q r f ex => ?_⟩
  exact h2.run x ⟨S6.ρ, W'⟩ σ H' U' c dd q ((xT.to r f).less fun p hp => by cases hp) ex⟩
end
theorem MzK.okD {P : Program} {w : World} {K : PySem.W.Frag} {mg : Str → Option Value} {base : Heap} {C : Addr} {m qual : Str} {st : Stmt} {ps N : List Str} {n : Nat} {ks : List Str} {k : Nat} {Fs : FSpec} (F : MzK K C m qual st ps n ks) (S : FnScope N ps (defScope st)) (hl : ∀ ds W Q E, Fs ds W Q E → ds.length = ps.length) (hbody : BodyD P w K mg base N qual st k Fs) : MxK P w K mg base C m (k + 1) ps n ks (lift K Fs) := F.okX S (lift_len hl) hbody.run
end Kn
set_option Elab.async false
set_option maxRecDepth 100000
set_option linter.all false
set_option autoImplicit false
namespace Kn
open PySem L2
def rMin2 : List V → Hp → VK → Prop := fun xs H Q => ∃ i j, xs = [.int i, .int j] ∧ Q (.int (if j < i then j else i)) H
theorem call_min2U {X : Cx} (hc : X.calm = true) : CallR X (.builtin "min") rMin2 := call_min2 hc
def mm2D (f : Int → Int → Int) (S : PSt) (rs : List Rv) (Q : D → PSt → Prop) : Prop := arg2 rs fun x y => dd1 S x fun a => dd1 S y fun b => iiF (fun _ _ => True) (fun i j => .int (f i j)) (fun d => Q d S) a b
section
variable {K : PySem.W.Frag} {e : Ent}
theorem mm2_ {f : Int → Int → Int} {r : List V → Hp → VK → Prop} (hr : ∀ i j H Q, Q (V.int (f i j)) H → r [.int i, .int j] H Q) : SimC K e r (mm2D f) := ⟨fun σ H S T vs rs Qd Q hl x h k => by
  obtain ⟨r1, r2, rfl, h⟩ := arg2_inv h
  obtain ⟨v, w, rfl⟩ := len2 hl
  obtain ⟨a, ha, h⟩ := dd1_inv h
  obtain ⟨b, hb, h⟩ := dd1_inv h
  obtain ⟨U, x⟩ := x
  have va := x.vw (x.tmp (.v v r1) (by simp [tms])) ha
  have vb := x.vw (x.tmp (.v w r2) (by simp [tms])) hb
  match a, b, h, va, vb with
  | .int i, .int j, h, va, vb =>
    rw [va.int, vb.int]
    exact hr i j H Q (k _ _ _ _ h.2 ⟨U, (x.less fun p hp => by simp [tms, hp]).push (.int _)⟩)⟩
instance simMin2 : SimC K e rMin2 (mm2D min) := mm2_ fun i j H Q q => ⟨i, j, rfl, by
  have : (if j < i then j else i) = min i j := by split <;> omega
  rw [this]; exact q⟩
end
end Kn
set_option Elab.async false
set_option maxRecDepth 100000
set_option linter.all false
set_option autoImplicit false
namespace Kn
open PySem L2
class SubL (us vs : List Nat) : Prop where
  sub : ∀ i ∈ us, i ∈ vs
instance subN {vs : List Nat} : SubL [] vs := ⟨fun i h => by cases h⟩
instance subC {i : Nat} {us vs : List Nat} [h : InL i vs] [h2 : SubL us vs] : SubL (i :: us) vs := ⟨fun j hj => (List.mem_cons.mp hj).elim (fun e => e ▸ h.mem) (h2.sub j)⟩
theorem wipe_wipe2 {σ : St} {us vs : List Nat} (h : ∀ i ∈ us, i ∈ vs) : wipe (wipe σ us) vs = wipe σ vs := by
  apply List.ext_getElem?
  intro j
  rw [wipe_get (wipe σ us), wipe_length, wipe_get σ j us, wipe_get σ j vs]
  by_cases c : j ∈ vs ∧ j < σ.length
  · rw [if_pos c, if_pos c]
  · rw [if_neg c, if_neg c, if_neg fun z => c ⟨h j z.1, z.2⟩]
section
variable {K : PySem.W.Frag} {e : Ent}
theorem RN.ofNw {σ σ' : St} {H : Hp} {S : PSt} {TA TB : List Tm} {l : Addr} {acc : List D} {vs : List Nat} (hT : NoOwn (TA ++ TB)) (nt : NoTm (TA ++ TB) l) (e2 : L2.wipe σ vs = σ') (x : R K e σ H S (TA ++ (.nw l acc :: TB))) : RN K e σ' H (S.wipe vs) (TA ++ TB) l acc := by
  obtain ⟨U2, x2⟩ := x
  have hTn : NoOwn (TA ++ (.nw l acc :: TB)) := fun p hp w j z => by
    rcases List.mem_append.mp hp with hp | hp
    · exact hT p (List.mem_append_left _ hp) w j z
    · rcases List.mem_cons.mp hp with rfl | hp
      · cases z
      · exact hT p (List.mem_append_right _ hp) w j z
  have x3 := x2.wipe vs hTn
  rw [e2] at x3
  obtain ⟨o3, n3, v3, h3, d3⟩ := x3.tmp (.nw l acc) (by simp)
  exact ⟨U2, v3, x3.less fun p hp => by
    rcases List.mem_append.mp hp with hp | hp
    · exact List.mem_append_left _ hp
    · exact List.mem_append_right _ (List.mem_cons_of_mem _ hp), o3, n3, nt, h3, d3⟩
theorem RN.nw {σ : St} {H : Hp} {S : PSt} {TA TB : List Tm} {l : Addr} {acc : List D} (x : RN K e σ H S (TA ++ TB) l acc) : R K e σ H S (TA ++ (.nw l acc :: TB)) := by
  obtain ⟨U, xs, xu, ow, ns, _, hlm, hxs⟩ := x.ex
  exact ⟨U, (xu.push (p := .nw l acc) ⟨ow, ns, xs, hlm, hxs⟩).less fun p hp => by
    rcases List.mem_append.mp hp with hp | hp
    · exact List.mem_cons_of_mem _ (List.mem_append_left _ hp)
    · rcases List.mem_cons.mp hp with rfl | hp
      · exact List.mem_cons_self
      · exact List.mem_cons_of_mem _ (List.mem_append_right _ hp)⟩
theorem RN.more {σ σ' : St} {H : Hp} {S : PSt} {TA TB : List Tm} {l : Addr} {acc : List D} {vs : List Nat} {y : V} {d : D} (hT : NoOwn (TA ++ TB)) (nt : NoTm (TA ++ TB) l) (e2 : L2.wipe σ vs = σ') (x : R K e σ H S (.v y (.d d) :: (TA ++ (.nw l acc :: TB)))) :
    ∃ xs, H l = some (.lst xs) ∧ xs.length = acc.length ∧ RN K e σ' (L2.upd H l (.lst (xs ++ [y]))) (S.wipe vs) (TA ++ TB) l (acc ++ [d]) := by
  have rn : RN K e σ' H (S.wipe vs) (.v y (.d d) :: (TA ++ TB)) l acc := by
    have := RN.ofNw (TA := .v y (.d d) :: TA) (TB := TB) (fun p hp w j z => by
      rcases List.mem_cons.mp hp with rfl | hp
      · cases z
      · exact hT p hp w j z) (fun ds hm => by
      rcases List.mem_cons.mp hm with z | z
      · cases z
      · exact nt ds z) e2 x
    exact this
  exact rn.app
def compD2 (g : TDG) (tt : TDT) (wi1 : TDI) (g1 : TDG) (tt1 : TDT) (te : TDE) (vs vs1 : List Nat) (Q : List D → PSt → Prop) : List D → List D → PSt → Prop
  | [], acc, S => Q acc S
  | d :: ds, acc, S => ∃ N : List D → PSt → Prop, (∀ a S', N a S' → compD2 g tt wi1 g1 tt1 te vs vs1 Q ds a S') ∧
    g d S fun S2 => tt S2 fun b S3 => if b = true then wi1 S3 fun es S4 => compD g1 tt1 te vs1 (fun a S5 => N a (S5.wipe vs)) es acc (S4.wipe vs1) else N acc (S3.wipe vs)
def tnLc2 (wi : TDI) (g : TDG) (tt : TDT) (wi1 : TDI) (g1 : TDG) (tt1 : TDT) (te : TDE) (vs vs1 : List Nat) : TDN := fun S Q => wi S fun ds S1 => compD2 g tt wi1 g1 tt1 te vs vs1 Q ds [] (S1.wipe vs)
instance simLc2 {wi wi1 : TI} {g g1 : TG} {tt tt1 : TT} {te : TE} {vs vs1 : List Nat} {wi' wi1' : TDI} {g' g1' : TDG} {tt' tt1' : TDT} {te' : TDE} [h1 : SimI K e wi wi'] [h2 : SimG K e g g'] [hw : GW g vs] [h3 : SimT K e tt tt'] [h5 : SimI K e wi1 wi1'] [h6 : SimG K e g1 g1'] [hw1 : GW g1 vs1] [h7 : SimT K e tt1 tt1'] [h4 : SimE K e te te'] [hs : SubL vs1 vs] :
    SimN K e (tLc2 wi g tt wi1 g1 tt1 te vs vs1) (tnLc2 wi' g' tt' wi1' g1' tt1' te' vs vs1) := ⟨fun σ H S T Qd Q x0 h k => by
  obtain ⟨U0, x0⟩ := x0
  have xf : R K e σ H S (T.filter notOwn) := ⟨U0, x0.less fun p hp => (List.mem_filter.mp hp).1⟩
  have hT := noOwn_filter T
  refine h1.run σ H S (T.filter notOwn) _ _ xf h fun ds S1 J H1 T1 hd pT it x1 => ?_
  intro l hl
  have hTT : NoOwn (T1 ++ T.filter notOwn) := pT.1.app hT
  obtain ⟨U1, x1⟩ := x1
  have nt : NoTm (T1 ++ T.filter notOwn) l := by
    obtain ⟨_, _, _, f⟩ := x1.moreU (o := .lst []) hl
    exact f
  refine ⟨fun i m H => m = ds.length - i ∧ i ≤ ds.length ∧ ∃ S acc, compD2 g' tt' wi1' g1' tt1' te' vs vs1 Qd (ds.drop i) acc S ∧ (∃ S0 : PSt, S = S0.wipe vs) ∧ RN K e (wipe σ vs) H S (T1 ++ T.filter notOwn) l acc, ⟨_, rfl, Nat.zero_le _, S1.wipe vs, [], hd, ⟨S1, rfl⟩, ?_⟩, ?_⟩
  · exact (x1.wipe vs hTT).newL hl .nil
  rintro i m H ⟨rfl, hi, S, acc, hf, ⟨S0, hS0⟩, x⟩
  have xr := x.nw
  have hTn : NoOwn (T1 ++ (.nw l acc :: T.filter notOwn)) := pT.1.app fun p hp w j z => by
    rcases List.mem_cons.mp hp with rfl | hp
    · cases z
    · exact hT p hp w j z
  obtain ⟨i1, i2⟩ := it i _ H S _ xr
  by_cases c : i < ds.length
  · obtain ⟨g1_, g2⟩ := i2 c
    rw [List.drop_eq_getElem_cons c] at hf
    obtain ⟨N, hN, hf⟩ := hf
    refine .inr ⟨g1_, fun H' => ∃ S' acc', N acc' S' ∧ (∃ S0 : PSt, S' = S0.wipe vs) ∧ RN K e (wipe σ vs) H' S' (T1 ++ T.filter notOwn) l acc', ?_, fun v H' hy => ?_⟩
    · rintro H' ⟨S', acc', n, hS', x'⟩
      exact ⟨ds.length - (i + 1), by omega, rfl, by omega, S', acc', hN _ _ n, hS', x'⟩
    · obtain ⟨d, hd', x'⟩ := g2 v H' hy
      have : d = ds[i] := by rw [List.getElem?_eq_getElem c] at hd'; exact (Option.some.inj hd').symm
      subst this
      have ww := hw.w v (wipe σ vs) H'
      rw [wipe_wipe] at ww
      refine ww _ (h2.run v _ (wipe σ vs) H' S (T1 ++ (.nw l acc :: T.filter notOwn)) _ _ hTn x' hf fun S2 σ2 H2 hb x2 e2 => ?_)
      refine h3.run σ2 H2 S2 _ _ _ x2 hb fun b S3 H3 hb x3 => ?_
      cases b
      · exact ⟨_, _, hb, ⟨_, rfl⟩, RN.ofNw hTT nt e2 x3⟩
      · refine h5.run σ2 H3 S3 (T1 ++ (.nw l acc :: T.filter notOwn)) _ _ x3 hb fun es S4 J1 H4 T2 hc pT2 it2 x4 => ?_
        rw [← List.append_assoc] at x4
        have hT2 : NoOwn ((T2 ++ T1) ++ T.filter notOwn) := by
          rw [List.append_assoc]; exact pT2.1.app hTT
        have nt2 : NoTm ((T2 ++ T1) ++ T.filter notOwn) l := fun ds hm => by
          rw [List.append_assoc] at hm
          rcases List.mem_append.mp hm with hm | hm
          · exact pT2.2 _ _ hm
          · exact nt ds hm
        have hTn2 : ∀ a, NoOwn ((T2 ++ T1) ++ (.nw l a :: T.filter notOwn)) := fun a p hp w j z => by
          rcases List.mem_append.mp hp with hp | hp
          · exact hT2 p (List.mem_append_left _ hp) w j z
          · rcases List.mem_cons.mp hp with rfl | hp
            · cases z
            · exact hT2 p (List.mem_append_right _ hp) w j z
        refine ⟨fun j k H => k = es.length - j ∧ j ≤ es.length ∧ ∃ S acc', compD g1' tt1' te' vs1 (fun a S5 => N a (S5.wipe vs)) (es.drop j) acc' S ∧ (∃ S0 : PSt, S = S0.wipe vs1) ∧ RN K e (wipe σ2 vs1) H S ((T2 ++ T1) ++ T.filter notOwn) l acc', ⟨_, rfl, Nat.zero_le _, S4.wipe vs1, acc, hc, ⟨S4, rfl⟩, RN.ofNw hT2 nt2 rfl x4⟩, ?_⟩
        rintro j m H ⟨rfl, hj, S, acc', hf, ⟨S0, hS0⟩, x⟩
        have xr := x.nw
        obtain ⟨i1, i2⟩ := it2 j (wipe σ2 vs1) H S (T1 ++ (.nw l acc' :: T.filter notOwn)) (by rw [← List.append_assoc]; exact xr)
        by_cases c2 : j < es.length
        · obtain ⟨g1_, g2⟩ := i2 c2
          rw [List.drop_eq_getElem_cons c2] at hf
          obtain ⟨N1, hN1, hf⟩ := hf
          refine .inr ⟨g1_, fun H' => ∃ S' acc'', N1 acc'' S' ∧ (∃ S0 : PSt, S' = S0.wipe vs1) ∧ RN K e (wipe σ2 vs1) H' S' ((T2 ++ T1) ++ T.filter notOwn) l acc'', ?_, fun v H' hy => ?_⟩
          · rintro H' ⟨S', acc'', n, hS', x'⟩
            exact ⟨es.length - (j + 1), by omega, rfl, by omega, S', acc'', hN1 _ _ n, hS', x'⟩
          · obtain ⟨d, hd', x'⟩ := g2 v H' hy
            have : d = es[j] := by rw [List.getElem?_eq_getElem c2] at hd'; exact (Option.some.inj hd').symm
            subst this
            rw [← List.append_assoc] at x'
            have ww := hw1.w v (wipe σ2 vs1) H'
            rw [wipe_wipe] at ww
            refine ww _ (h6.run v _ (wipe σ2 vs1) H' S ((T2 ++ T1) ++ (.nw l acc' :: T.filter notOwn)) _ _ (hTn2 _) x' hf fun S2 σ3 H2 hb x2 e3 => ?_)
            refine h7.run σ3 H2 S2 _ _ _ x2 hb fun b S3 H3 hb x3 => ?_
            cases b
            · exact ⟨_, _, hb, ⟨_, rfl⟩, RN.ofNw hT2 nt2 e3 x3⟩
            · refine h4.run σ3 H3 S3 _ _ _ x3 hb fun r S4 y H4 hr x4 => x4.frc hr fun dy S5 h5 x5 => ?_
              obtain ⟨xs, q1, q2, rn⟩ := RN.more hT2 nt2 e3 x5
              exact ⟨xs, q1, Nat.lt_of_le_of_lt (by rw [q2]; exact h5.1) (by decide), _, _, h5.2, ⟨_, rfl⟩, rn⟩
        · rw [List.drop_of_length_le (by omega)] at hf
          refine .inl ⟨i1 (by omega), S.wipe vs, acc', hf, ⟨_, rfl⟩, ?_⟩
          rw [List.append_assoc] at xr
          obtain ⟨Ur, xr⟩ := xr
          exact RN.ofNw hTT nt (by rw [wipe_wipe2 hs.sub]; exact e2) ⟨Ur, xr.less fun p hp => List.mem_append_right _ hp⟩
  · obtain ⟨U, xs, xu, ow, ns, _, hlm, hxs⟩ := x.ex
    refine .inl ⟨i1 (by omega), ?_⟩
    rw [List.drop_of_length_le (by omega)] at hf
    subst hS0
    refine k _ _ _ _ hf ⟨U, xs, ?_⟩
    have x5 := xu.unwipe hTT
    have x6 : RU K e σ H (S0.wipe vs) ([] ++ T.filter notOwn) U := x5.less fun p hp => List.mem_append_right _ hp
    have x7 := x0.back x6
    refine ⟨x7, ow, fun j c hj oc => ?_, fun ds hm => ?_, hlm, hxs⟩
    · obtain ⟨h1, h2⟩ := wipeR_some (ρ := S0.ρ) hj
      have := ns j c hj oc
      rw [wipe_get, if_neg (fun z => h2 z.1)] at this
      exact this
    · refine nt ds (List.mem_append_right _ (List.mem_filter.mpr ⟨hm, rfl⟩))⟩
def turnD2 (g : TDG) (tt : TDT) (wi1 : TDI) (g1 : TDG) (tt1 : TDT) (te : TDE) (vs vs1 : List Nat) (d : D) (acc : List D) (S : PSt) (N : List D → PSt → Prop) : Prop := g d S fun S2 => tt S2 fun b S3 => if b = true then wi1 S3 fun es S4 => compD g1 tt1 te vs1 (fun a S5 => N a (S5.wipe vs)) es acc (S4.wipe vs1) else N acc (S3.wipe vs)
theorem compD2_map {α : Type} {g : TDG} {tt : TDT} {wi1 : TDI} {g1 : TDG} {tt1 : TDT} {te : TDE} {vs vs1 : List Nat} {Q : List D → PSt → Prop} {S : PSt} (h : α → D) (f : α → List D) : ∀ (xs : List α) (acc : List D), acc.length + (xs.flatMap f).length ≤ 1000000 → (∀ x ∈ xs, ∀ (acc : List D) (N : List D → PSt → Prop), acc.length + (f x).length ≤ 1000000 → N (acc ++ f x) S → turnD2 g tt wi1 g1 tt1 te vs vs1 (h x) acc S N) → Q (acc ++ xs.flatMap f) S → compD2 g tt wi1 g1 tt1 te vs vs1 Q (xs.map h) acc S
  | [], acc, _, _, q => by simpa [compD2] using q
  | x :: xs, acc, hl, hs, q => by
    rw [List.flatMap_cons, List.length_append] at hl
    rw [List.flatMap_cons] at q
    refine ⟨fun a S' => S' = S ∧ a = acc ++ f x, ?_, hs x (by simp) acc (fun a S' => S' = S ∧ a = acc ++ f x) (by omega) ⟨rfl, rfl⟩⟩
    rintro a S' ⟨e, rfl⟩
    rw [e]
    refine compD2_map h f xs _ (by rw [List.length_append]; omega) (fun y hy => hs y (by simp [hy])) ?_
    rw [List.append_assoc]; exact q
end
end Kn
set_option Elab.async false
set_option maxRecDepth 100000
set_option linter.all false
set_option autoImplicit false
namespace Kn
open PySem L2
theorem Mz.none {P : Program} {w : World} {K : PySem.W.Frag} {mg : Str → Option Value} {base : Heap} {C : Addr} {m qual : Str} {st : Stmt} {ps : List Str} {dvs : List V} {k : Nat} {sp : Sp} (F : Mz K C m qual st ps dvs) (h : ∀ vs H Q E, ¬ sp vs H Q E) : Mx P w K mg base C m k ps dvs sp := by
  obtain ⟨f, fd, ds, F1, mm, b, v⟩ := F.ex
  exact ⟨f, fd, ds, ⟨fun vs H Q E z => (h vs H Q E z).elim, fun A outer s H args us vs Q E _ _ _ _ z => (h vs H Q E z).elim⟩, mm, b, v⟩
theorem Mz.noneD {P : Program} {w : World} {K : PySem.W.Frag} {mg : Str → Option Value} {base : Heap} {C : Addr} {m qual : Str} {st : Stmt} {ps : List Str} {dvs : List V} {k : Nat} {Fs : FSpec} (F : Mz K C m qual st ps dvs) (h : ∀ ds W Q E, ¬ Fs ds W Q E) : Mx P w K mg base C m k ps dvs (lift K Fs) := F.none fun vs H Q E ⟨U, W, ds, Qd, Ed, _, _, z, _⟩ => h _ _ _ _ z
section
variable {K : PySem.W.Frag} {e : Ent}
end
end Kn
set_option Elab.async false
set_option maxRecDepth 100000
set_option linter.all false
set_option autoImplicit false
namespace Kn
open PySem L2
section
variable {K : PySem.W.Frag} {e : Ent}
end
end Kn
set_option Elab.async false
set_option maxRecDepth 100000
set_option linter.all false
set_option autoImplicit false
namespace Kn
open PySem L2
section
variable {K : PySem.W.Frag} {e : Ent}
end
end Kn
set_option Elab.async false
set_option maxRecDepth 100000
set_option linter.all false
set_option autoImplicit false
namespace Kn
open PySem L2
section
variable {K : PySem.W.Frag} {e : Ent}
def tnLcW (ow : OW) (g : TDG) (tt : TDT) (te : TDE) (vs : List Nat) : TDN := fun S Q => ow S fun b od vk ks => compL g tt te vs Q b od vk ks (ks.map fun p : Key × D => keyV p.1) [] (PSt.wipe ⟨S.ρ, S.W.put b (.lk od vk ks)⟩ vs)
instance simLcW {wi : TI} {ow1 : OW} {g : TG} {tt : TT} {te : TE} {vs : List Nat} {g' : TDG} {tt' : TDT} {te' : TDE} [h1 : SimW K e wi ow1] [h2 : SimG K e g g'] [hw : GW g vs] [h3 : SimT K e tt tt'] [h4 : SimE K e te te'] : SimN K e (tLockE (tLc wi g tt te vs)) (tnLcW ow1 g' tt' te' vs) := ⟨fun σ H S T Qd Q x0 h k => by
  obtain ⟨U0, x0⟩ := x0
  have xf := x0.less (T' := T.filter notOwn) fun p hp => (List.mem_filter.mp hp).1
  have hT := noOwn_filter T
  obtain ⟨b, vk, ks, hb, hH, hm, hlk⟩ := h1.lock σ H S (T.filter notOwn) U0 _ xf h
  refine ⟨b, .dK vk, hH, trivial, fun od => hlk od _ fun hd x1 => ?_⟩
  intro l hl
  have nt : NoTm (T.filter notOwn) l := by
    obtain ⟨_, _, _, f⟩ := x1.moreU (o := .lst []) hl
    exact f
  refine ⟨fun i m H => m = (ks.map fun p : Key × D => keyV p.1).length - i ∧ i ≤ (ks.map fun p : Key × D => keyV p.1).length ∧ ∃ S acc, compL g' tt' te' vs Qd b od vk ks ((ks.map fun p : Key × D => keyV p.1).drop i) acc S ∧ (∃ S0 : PSt, S = S0.wipe vs) ∧ RN K e (wipe σ vs) H S (T.filter notOwn) l acc, ⟨_, rfl, Nat.zero_le _, _, [], hd, ⟨_, rfl⟩, ?_⟩, ?_⟩
  · exact (x1.wipe vs hT).newL hl .nil
  rintro i m H ⟨rfl, hi, S, acc, hf, ⟨S0, hS0⟩, x⟩
  obtain ⟨U, xs, xu, ow, ns, _, hlm, hxs⟩ := x.ex
  have xr : R K e (wipe σ vs) H S (.nw l acc :: T.filter notOwn) := ⟨U, xu.push (p := .nw l acc) ⟨ow, ns, xs, hlm, hxs⟩⟩
  have hTn : NoOwn (.nw l acc :: T.filter notOwn) := fun p hp w j z => by
    rcases List.mem_cons.mp hp with rfl | hp
    · cases z
    · exact hT p hp w j z
  have back : ∀ {σ2 : St} {H2 : Hp} {S2 : PSt}, wipe σ2 vs = wipe σ vs → R K e σ2 H2 S2 (.nw l acc :: T.filter notOwn) → RN K e (wipe σ vs) H2 (S2.wipe vs) (T.filter notOwn) l acc := by
    intro σ2 H2 S2 e2 x2
    obtain ⟨U2, x2⟩ := x2
    have x3 := x2.wipe vs hTn
    rw [e2] at x3
    obtain ⟨o3, n3, v3, h3, d3⟩ := x3.tmp (.nw l acc) (by simp)
    exact ⟨U2, v3, x3.less fun p hp => List.mem_cons_of_mem _ hp, o3, n3, nt, h3, d3⟩
  by_cases c : i < (ks.map fun p : Key × D => keyV p.1).length
  · rw [List.drop_eq_getElem_cons c] at hf
    obtain ⟨hwk, N, hN, hf⟩ := hf
    obtain ⟨i1, i2⟩ := cell_keys (i := i) hwk xr
    obtain ⟨g1, g2⟩ := i2 c
    refine .inr ⟨g1, fun H' => ∃ S' acc', N acc' S' ∧ (∃ S0 : PSt, S' = S0.wipe vs) ∧ RN K e (wipe σ vs) H' S' (T.filter notOwn) l acc', ?_, fun v H' hy => ?_⟩
    · rintro H' ⟨S', acc', n, hS', x'⟩
      exact ⟨_, by omega, rfl, by omega, S', acc', hN _ _ n, hS', x'⟩
    · obtain ⟨d, hd', x'⟩ := g2 v H' hy
      have : d = (ks.map fun p : Key × D => keyV p.1)[i] := by rw [List.getElem?_eq_getElem c] at hd'; exact (Option.some.inj hd').symm
      subst this
      have ww := hw.w v (wipe σ vs) H'
      rw [wipe_wipe] at ww
      refine ww _ (h2.run v _ (wipe σ vs) H' S (.nw l acc :: T.filter notOwn) _ _ hTn x' hf fun S2 σ2 H2 hb x2 e2 => ?_)
      refine h3.run σ2 H2 S2 _ _ _ x2 hb fun b S3 H3 hb x3 => ?_
      cases b
      · exact ⟨_, _, hb, ⟨_, rfl⟩, back e2 x3⟩
      · refine h4.run σ2 H3 S3 _ _ _ x3 hb fun r S4 y H4 hr x4 => x4.frc hr fun dy S5 h5 x5 => ?_
        obtain ⟨U5, x5⟩ := x5
        have x7 := x5.wipe vs (fun p hp w j z => by
          rcases List.mem_cons.mp hp with rfl | hp
          · cases z
          · exact hTn p hp w j z)
        rw [e2] at x7
        obtain ⟨o3, n3, v3, h3, d3⟩ := x7.tmp (.nw l acc) (by simp)
        have rn : RN K e (wipe σ vs) H4 (S5.wipe vs) (.v y (.d dy) :: T.filter notOwn) l acc := ⟨U5, v3, x7.less fun p hp => by
          rcases List.mem_cons.mp hp with rfl | hp
          · exact List.mem_cons_self
          · exact List.mem_cons_of_mem _ (List.mem_cons_of_mem _ hp), o3, n3, fun ds hm => by
          rcases List.mem_cons.mp hm with z | z
          · cases z
          · exact nt ds z, h3, d3⟩
        obtain ⟨vs', e1, e3, rn'⟩ := rn.app
        exact ⟨vs', e1, Nat.lt_of_le_of_lt (by rw [e3]; exact h5.1) (by decide), _, _, h5.2, ⟨_, rfl⟩, rn'⟩
  · rw [List.drop_of_length_le (by omega)] at hf
    obtain ⟨hwk, hf⟩ := hf
    obtain ⟨i1, i2⟩ := cell_keys (i := i) hwk xr
    subst hS0
    have x5 := xu.unwipe hT
    have x6 : RU K e σ H (S0.wipe vs) ([] ++ T.filter notOwn) U := x5
    have x7 : RU K e σ H (S0.wipe vs) T U := x0.back x6
    obtain ⟨e1, x8⟩ := x7.looseC hwk hm
    have nlb : l ≠ b := fun z => by
      have := ow.w
      rw [z, hwk] at this
      cases this
    have ub : U b := (x7.wo.cell b _ hwk).1
    refine .inl ⟨i1 (by omega), e1, k _ _ _ _ hf ⟨U, xs, x8, ⟨ow.u, ow.e0, ow.tp, by rw [Wd.put_ne nlb]; exact ow.w⟩, fun j c hj oc => ?_, fun ds hm => ?_, by rw [upd_ne nlb]; exact hlm, DvL.le (Same.lq (Hd.upd ub)) (fun _ z => z) hxs⟩⟩
    · obtain ⟨h1, h2⟩ := wipeR_some (ρ := S0.ρ) hj
      have := ns j c hj oc
      rw [wipe_get, if_neg (fun z => h2 z.1)] at this
      exact this
    · exact nt ds (List.mem_filter.mpr ⟨hm, rfl⟩)⟩
def tdShN (t : TDN) : TDE := fun S Q => t S fun ds S1 => ∀ a : Addr, S1.W.ω a = none → ¬ S1.W.Tp a → Q (.d (.ref a)) ⟨S1.ρ, S1.W.put a (.lst ds)⟩
instance simShN {te : TE} {t : TDN} [h1 : SimN K e te t] : SimE K e (tShare te) (tdShN t) := ⟨fun σ H S T Qd Q x h k => h1.run σ H S T _ _ x h fun ds S1 l H1 hq x1 => by
  obtain ⟨a, b, x2⟩ := x1.share
  exact k _ _ _ _ (hq l a b) x2⟩
end
end Kn
set_option Elab.async false
set_option maxRecDepth 100000
set_option linter.all false
set_option autoImplicit false
namespace L2
open PySem PySem.Spec PyProof.Rows
def rListDR : List V → Hp → VK → Prop := fun xs H Q => ∃ p kvs, xs = [.ref p] ∧ Rd H p (.dK kvs) ∧ ∀ q, H q = none → Q (.ref q) (upd H q (.lst (kvs.map fun kv => kV kv.1)))
theorem call_list_dR {X : Cx} (hc : X.calm = true) : CallR X (.type "list") rListDR := by
  intro pins s σ H xs us Q I r h
  obtain ⟨p, kvs, e, hk, q⟩ := h
  subst e
  obtain ⟨u, eu, rx⟩ := r.one
  subst eu
  obtain rfl : u = Value.ref p := rx
  obtain ⟨z, lo, vs, rk, hd⟩ := (show ObjOk X.prog X.w H s.heap p (.dK kvs) from hk.ok I.hok)
  obtain ⟨ep, hat⟩ := hd.dictAt
  have hl : kvs.length = vs.length := Paired.length rk
  refine PySem.W.kdl_call (PySem.W.kdl_dict (knd := mixKind X.prog X.w) (kvs := vs) (ep := ep) lo) (I.ok.hd hc) hat (by rw [← hl]; exact z) fun h' tk acc' c' hkeep hS hacc => ?_
  refine ⟨.ref s.heap.objs.size, upd H s.heap.objs.size (.lst (kvs.map fun kv => kV kv.1)), I.laid hkeep (Nat.le_refl _) (show ObjOk X.prog X.w _ _ _ (.lst (kvs.map fun kv => kV kv.1)) from ⟨?_, acc'.toList, c', ?_, ?_⟩), rfl, q _ (I.hok.fresh (Nat.le_refl _))⟩
  · rw [List.length_map]; exact z
  · have el : acc'.toList.length = acc'.size := by simp
    refine vals_of_at (by rw [List.length_map, el, hacc.1, hl]) fun j x w h1 h2 => ?_
    obtain ⟨k, y, hky, hi⟩ := hacc.2 j w (by rw [← Array.getElem?_toList]; exact h2)
    have e1 : (kvs.map (·.1))[j]? = some k := by
      rw [KV.keys rk, List.getElem?_map, hky] <;> rfl
    have e2 : (kvs.map fun kv => kV kv.1)[j]? = some (kV k) := by
      have e3 : (kvs.map fun kv => kV kv.1) = (kvs.map (·.1)).map kV := by rw [List.map_map] <;> rfl
      rw [e3, List.getElem?_map, e1] <;> rfl
    rw [e2] at h1
    cases h1
    exact keyIs_rel hi
  · rw [Array.toArray_toList]; exact hS
end L2
namespace Kn
open PySem L2
def rListK (K : PySem.W.Frag) : List V → Hp → VK → Prop := fun xs H Q => rListOf K xs H Q ∨ rListDR xs H Q
theorem call_listK {X : Cx} (K : PySem.W.Frag) (hc : X.calm = true) (h : X.K = K := by rfl) : CallR X (.type "list") (rListK K) := CallR.or (call_list_ofK K h) (call_list_dR hc)
section
variable {K : PySem.W.Frag} {e : Ent}
theorem keysV_dv {Tp : Addr → Prop} {H : Hp} : ∀ {vs : List (Key × V)}, DvL K Tp H (vs.map fun p => kV p.1) (vs.map fun p => keyV p.1)
  | [] => .nil
  | p :: l => .cons (keyV_dv p.1) keysV_dv
def lstK (_ : PSt) (Q : List D → Prop) : D → Prop
  | .lst ds => Q ds
  | .tup ds => Q ds
  | .dct ks => Q (ks.map fun p => keyV p.1)
  | _ => False
instance simListK : SimCN K e (rListK K) (fun S rs Q => arg1 rs fun x => dd1 S x (lstK S fun d => Q d S)) := simCN1 fun σ H S T U v a Qd Q x vw h k => by
  match a, h, vw with
  | .lst ds, h, ⟨p, xs, e1, h1, h2⟩ => subst e1; exact .inl ⟨p, xs, rfl, .inl (SqL.of h1), fun l hl => k _ _ _ h (x.newL hl h2)⟩
  | .tup ds, h, ⟨p, xs, e1, h1, h2⟩ => subst e1; exact .inl ⟨p, xs, rfl, .inr (SqT.same Hd.sub h1), fun l hl => k _ _ _ h (x.newL hl h2)⟩
  | .dct ks, h, ⟨p, xs, e1, h1, h2⟩ => subst e1; exact .inr ⟨p, xs, rfl, h1, fun l hl => k _ _ _ h (x.newL hl (by rw [h2.keys]; exact keysV_dv))⟩
end
end Kn
set_option Elab.async false
set_option maxRecDepth 100000
set_option linter.all false
set_option autoImplicit false
namespace Kn
open PySem L2
section
variable {K : PySem.W.Frag} {e : Ent}
end
section
variable {P : Program} {w : World} {K : PySem.W.Frag} {mg : Str → Option Value} {base : Heap}
theorem Cz.okD {C : Addr} {qual : Str} {st : Stmt} {ps N : List Str} {dvs : List V} {k : Nat} {Fs : FSpec} (F : Cz K C qual st ps dvs) (S : FnScope N ps (defScope st)) (hl : ∀ ds W Q E, Fs ds W Q E → ds.length = ps.length) (hbody : BodyD P w K mg base N qual st k Fs) : Cq P w K mg base C (k + 1) ps dvs (lift K Fs) := F.okX S (lift_len hl) hbody.run
end
end Kn
set_option Elab.async false
set_option maxRecDepth 100000
set_option linter.all false
set_option autoImplicit false
namespace Kn
open PySem L2
section
variable {K : PySem.W.Frag} {e : Ent}
end
end Kn
set_option Elab.async false
set_option maxRecDepth 100000
set_option linter.all false
set_option autoImplicit false
namespace Kn
open PySem L2
section
variable {S : PSt} {F : D → Prop} {G : D → PSt → Prop} {H2 : D → D → Prop}
theorem dd2_dd1 {rx ry : Rv} : dd2 S rx ry H2 = dd1 S rx fun a => dd1 S ry fun b => H2 a b := by
  unfold dd2 dd1
  cases derefD S rx with
  | none => rfl
  | some a => cases derefD S ry <;> rfl
end
end Kn
set_option Elab.async false
set_option maxRecDepth 100000
set_option linter.all false
set_option autoImplicit true
namespace Kn
open PySem L2
theorem u_tdC {d : D} {S Q} : tdC d S Q = (Q (.d d) S) := rfl
theorem u_tdOp {o : PSt → Rv → Rv → (D → PSt → Prop) → Prop} {ta tb : TDE} {S Q} : tdOp o ta tb S Q = (ta S fun x S1 => tb S1 fun y S2 => o S2 x y fun d S3 => Q (.d d) S3) := rfl
theorem u_tdNil {S Q} : tdNil S Q = (Q [] S) := rfl
theorem u_tdCons {ta : TDE} {tr : TDA} {S Q} : tdCons ta tr S Q = (ta S fun r S1 => tr S1 fun rs S2 => Q (r :: rs) S2) := rfl
theorem u_tdTup {ta : TDA} {S Q} : tdTup ta S Q = (ta S fun rs S1 => frcL rs S1 fun ds S2 => ds.length ≤ 1000000 ∧ Q (.d (.tup ds)) S2) := rfl
theorem u_tnLst {ta : TDA} {S Q} : tnLst ta S Q = (ta S fun rs S1 => frcL rs S1 fun ds S2 => ds.length ≤ 1000000 ∧ Q ds S2) := rfl
theorem u_tdFrz {t : TDN} {S Q} : tdFrz t S Q = (t S fun ds S1 => Q (.d (.lst ds)) S1) := rfl
theorem u_tdFrzK {t : TDK} {S Q} : tdFrzK t S Q = (t S fun ds S1 => Q (.d (.dct ds)) S1) := rfl
theorem u_tkNew {S Q} : tkNew S Q = (Q [] S) := rfl
theorem u_tdTest {t : TDE} {S Q} : tdTest t S Q = (t S fun r S1 => asB r fun b => Q b S1) := rfl
theorem u_tdAnd {t u : TDT} {S Q} : tdAnd t u S Q = (t S fun c S1 => if c = true then u S1 Q else Q false S1) := rfl
theorem u_tdOr {t u : TDT} {S Q} : tdOr t u S Q = (t S fun c S1 => if c = true then Q true S1 else u S1 Q) := rfl
theorem u_tdNot {t : TDT} {S Q} : tdNot t S Q = (t S fun c S1 => Q (!c) S1) := rfl
theorem u_tdYes {S Q} : tdYes S Q = (Q true S) := rfl
theorem u_tdAndV {ta tb : TDE} {S Q} : tdAndV ta tb S Q = (tdTest ta S fun c S1 => if c = true then tb S1 Q else Q (.d (.bl false)) S1) := rfl
theorem u_tdNotV {ta : TDE} {S Q} : tdNotV ta S Q = (tdTest ta S fun c S1 => Q (.d (.bl (!c))) S1) := rfl
theorem u_tdCB {o : PSt → List Rv → (D → PSt → Prop) → Prop} {t : TDA} {S Q} : tdCB o t S Q = (t S fun rs S1 => o S1 rs fun d S2 => Q (.d d) S2) := rfl
theorem u_tnCB {o : PSt → List Rv → (List D → PSt → Prop) → Prop} {t : TDA} {S Q} : tnCB o t S Q = (t S fun rs S1 => o S1 rs Q) := rfl
theorem u_tdNoPart {S Q} : tdNoPart S Q = (Q none S) := rfl
theorem u_tdPart {t : TDE} {S Q} : tdPart t S Q = (t S fun r S1 => asI r fun i => Q (some i) S1) := rfl
theorem u_tdSl {te : TDE} {tl th : TDO} {S Q} : tdSl te tl th S Q = (te S fun r S1 => tl S1 fun lo S2 => th S2 fun hi S3 => dd1 S3 r (slF lo hi fun d => Q (.d d) S3)) := rfl
theorem u_tdRevT {te : TDE} {tk : TDO} {S Q} : tdRevT te tk S Q = (te S fun r S1 => tk S1 fun o S2 => o = some (-1) ∧ dd1 S2 r fun d => match d with
  | .tup ds => Q (.d (.tup ds.reverse)) S2
  | _ => False) := rfl
theorem u_tdIsiT {tx : TDE} {ta : TDA} {S Q} : tdIsiT tx ta S Q = (tx S fun x S1 => ta S1 fun rs S2 => opt (tysOf rs) fun ns => ns.all tyOk = true ∧ rs.length ≤ 1000 ∧ dd1 S2 x fun a => opt (tyN a) fun t => Q (.d (.bl (ns.any (isB t)))) S2) := rfl
theorem u_tdNext {E S} : tdNext E S = (E.nx S) := rfl
theorem u_tdSeq {t u : TDS} {E S} : tdSeq t u E S = (t { E with nx := u E } S) := rfl
theorem u_tdDrop {te : TDE} {E S} : tdDrop te E S = (te S fun _ S1 => E.nx S1) := rfl
theorem u_tdRet {te : TDE} {E S} : tdRet te E S = (te S fun r S1 => frc r S1 fun d S2 => E.rt d S2.W) := rfl
theorem u_tdIfS {c : TDT} {t u : TDS} {E S} : tdIfS c t u E S = (c S fun b S1 => if b = true then t E S1 else u E S1) := rfl
theorem u_gdName {i : Nat} {d S Q} : gdName i d S Q = (Q (S.set i (.val d))) := rfl
theorem u_gdNil {ds S Q} : gdNil ds S Q = (ds = [] ∧ Q S) := rfl
theorem u_gdCons {t : TDG} {u : TDGs} {ds S Q} : gdCons t u ds S Q = (match ds with
  | d :: r => t d S fun S1 => u r S1 Q
  | [] => False) := rfl
theorem u_gdTup {n : Nat} {t : TDGs} {d S Q} : gdTup n t d S Q = (match d with
  | .tup ds => ds.length = n ∧ t ds S Q
  | _ => False) := rfl
theorem u_tdAsg {te : TDE} {g : TDG} {E S} : tdAsg te g E S = (te S fun r S1 => frc r S1 fun d S2 => g d S2 E.nx) := rfl
theorem u_tdAsgN {i : Nat} {t : TDN} {E S} : tdAsgN i t E S = (t S fun ds S1 => E.nx (S1.set i (.ownL ds))) := rfl
theorem u_tdAsgK {i : Nat} {t : TDK} {E S} : tdAsgK i t E S = (t S fun ds S1 => E.nx (S1.set i (.ownD ds))) := rfl
theorem u_tiAny {td : TDE} {S Q} : tiAny td S Q = (td S fun r S1 => frc r S1 fun d S2 => walkF (fun ds => Q ds S2) d) := rfl
theorem u_tiRng1 {ta : TDA} {S Q} : tiRng1 ta S Q = (ta S fun rs S1 => arg1 rs fun r => asI r fun j => -(2 ^ 62) ≤ j ∧ j < 2 ^ 62 ∧ Q (rng 0 j.toNat) S1) := rfl
theorem u_tiRng2 {ta : TDA} {S Q} : tiRng2 ta S Q = (ta S fun rs S1 => arg2 rs fun r q => asI r fun i => asI q fun j => (-(2 ^ 62) ≤ i ∧ i < 2 ^ 62 ∧ -(2 ^ 62) ≤ j ∧ j < 2 ^ 62) ∧ Q (rng i (j - i).toNat) S1) := rfl
theorem u_tdFor {wi : TDI} {g : TDG} {tb : TDS} {E S} : tdFor wi g tb E S = (wi S fun ds S1 => forD g tb E ds S1) := rfl
theorem u_tnLc {wi : TDI} {g : TDG} {tt : TDT} {te : TDE} {vs : List Nat} {S Q} : tnLc wi g tt te vs S Q = (wi S fun ds S1 => compD g tt te vs Q ds [] (S1.wipe vs)) := rfl
theorem u_tdCall {F : FSpec} {w : Exn → PSt → Prop} {t : TDA} {S Q} : tdCall F w t S Q = (t S fun rs S1 => frcL rs S1 fun ds S2 => CallF F ds S2 Q w) := rfl
theorem u_tdRaise {C : Addr} {w : Exn → PSt → Prop} {zz0 S} : tdRaise C w zz0 S = (w ⟨C, []⟩ S) := rfl
theorem u_tdApp {to : TDE} {t : TDA} {S Q} : tdApp to t S Q = (to S fun rx S1 => (∃ ds, derefD S1 rx = some (.lst ds)) ∧ t S1 fun rs S2 => arg1 rs fun r => frc r S2 fun d S3 => mutL S3 rx (fun ds k => ds.length ≤ 999999 ∧ k (ds ++ [d])) fun _ S4 => Q (.d .non) S4) := rfl
theorem u_tdDPut {td ty tv : TDE} {E S} : tdDPut td ty tv E S = (tv S fun rv S1 => td S1 fun rx S2 => ty S2 fun ry S3 => frc rv S3 fun d S4 => dd1 S4 ry fun dk => opt (keyD dk) fun k => mutD S4 rx (fun ks c => ks.length ≤ 999999 ∧ c (put ks k d)) E.nx) := rfl
theorem u_tkDict {t : TDA} {S Q} : tkDict t S Q = (t S fun rs S1 => arg1 rs fun r => dd1 S1 r fun d => match d with
  | .dct ks => Q ks S1
  | _ => False) := rfl
theorem u_tdForR {td : TDE} {g : TDG} {tb : TDS} {E S} : tdForR td g tb E S = (td S fun r S1 => refF S1 (fun a ds => forR g tb E a ds ds S1) r) := rfl
theorem u_tdFldC {C : Addr} {f : Str} {t : TDE} {S Q} : tdFldC C f t S Q = (t S fun r S1 => dd1 S1 r (fldF C f fun d => Q (.d d) S1)) := rfl
theorem u_tdSetC {C : Addr} {f : Str} {ta tv : TDE} {E S} : tdSetC C f ta tv E S = (tv S fun r S1 => frc r S1 fun d S2 => ta S2 fun rx S3 => insF S3 C (fun a fs => fs.length < 1000 ∧ E.nx ⟨S3.ρ, S3.W.put a (.ins C (putFd f d fs))⟩) rx) := rfl
theorem u_tdMeth {C : Addr} {m : Str} {F : FSpec} {w : Exn → PSt → Prop} {dds : List D} {ta : TDE} {t : TDA} {S Q} : tdMeth C m F w dds ta t S Q = (ta S fun r S1 => frc r S1 fun d S2 => dd1 S2 (.d d) (recF C m (t S2 fun rs S3 => frcL rs S3 fun ds S4 => CallF F (d :: (ds ++ dds)) S4 Q w))) := rfl
theorem u_tdMakeR {C : Addr} {F : FSpec} {w : Exn → PSt → Prop} {dds : List D} {t : TDA} {S Q} : tdMakeR C F w dds t S Q = (t S fun rs S1 => frcL rs S1 fun ds S2 => ∀ a : Addr, S2.W.ω a = none → ¬ S2.W.Tp a → CallF F (.ref a :: (ds ++ dds)) ⟨S2.ρ, S2.W.put a (.ins C [])⟩ (fun r S' => r = .d .non ∧ Q (.d (.ref a)) S') (fun x S' => insC C (fun _ => w x ⟨S'.ρ, S'.W.del a⟩) (S'.W.ω a))) := rfl
theorem u_tdMakeF {C : Addr} {F : FSpec} {w : Exn → PSt → Prop} {dds : List D} {t : TDA} {S Q} : tdMakeF C F w dds t S Q = (t S fun rs S1 => frcL rs S1 fun ds S2 => ∀ a : Addr, S2.W.ω a = none → ¬ S2.W.Tp a → CallF F (.ref a :: (ds ++ dds)) ⟨S2.ρ, S2.W.put a (.ins C [])⟩ (fun r S' => r = .d .non ∧ insC C (fun fs => Q (.d (.obj C fs)) ⟨S'.ρ, S'.W.del a⟩) (S'.W.ω a)) (fun x S' => insC C (fun _ => w x ⟨S'.ρ, S'.W.del a⟩) (S'.W.ω a))) := rfl
theorem u_tdRaiseS {C : Addr} {fs : List Str} {m : Bool} {w : Exn → PSt → Prop} {t : TDA} {zz0 S} : tdRaiseS C fs m w t zz0 S = (t S fun rs S1 => frcL rs S1 fun ds S2 => fs ≠ [] ∧ ds.length = fs.length ∧ okDm m ds ∧ w ⟨C, (fs.zip ds).reverse⟩ S2) := rfl
theorem u_tdTryAs {K : PySem.W.Frag} {c : Value} {i : Nat} {tb : (Exn → PSt → Prop) → TDS} {ts : Addr → Value → Option Addr → TDS} {wo : Exn → PSt → Prop} {E S} : tdTryAs K c i tb ts wo E S = (tb (fun x S' => exB K c x (∀ a d, ts a (.ref x.cls) d (E.un i) (S'.set i (.val (.exc a x.cls d x.fs)))) (wo x S')) E S) := rfl
theorem u_tdTryN {K : PySem.W.Frag} {l : List (Value × (Addr → Value → Option Addr → TDS))} {tb : (Exn → PSt → Prop) → TDS} {wo : Exn → PSt → Prop} {E S} : tdTryN K l tb wo E S = (tb (l.foldr (fun p w x S' => exB K p.1 x (∀ a d, p.2 a (.ref x.cls) d E S') (w x S')) wo) E S) := rfl
theorem u_tdShK {t : TDK} {S Q} : tdShK t S Q = (t S fun ks S1 => ∀ a : Addr, S1.W.ω a = none → ¬ S1.W.Tp a → Q (.d (.ref a)) ⟨S1.ρ, S1.W.put a (.dct ks)⟩) := rfl
theorem u_tdOGet {C : Addr} {F : FSpec} {w : Exn → PSt → Prop} {ta ti : TDE} {S Q} : tdOGet C F w ta ti S Q = (ta S fun r S1 => frc r S1 fun d S2 => ti S2 fun r2 S3 => frc r2 S3 fun k S4 => dd1 S4 (.d d) (ofC C (CallF F [d, k] S4 Q w))) := rfl
theorem u_tdOSet {C : Addr} {F : FSpec} {w : Exn → PSt → Prop} {ta ti tv : TDE} {E S} : tdOSet C F w ta ti tv E S = (tv S fun r S1 => frc r S1 fun v S2 => ta S2 fun r2 S3 => frc r2 S3 fun d S4 => ti S4 fun r3 S5 => frc r3 S5 fun k S6 => dd1 S6 (.d d) (ofC C (CallF F [d, k, v] S6 (fun _ S' => E.nx S') w))) := rfl
theorem u_tdNeg {t : TDE} {S Q} : tdNeg t S Q = (t S fun r S1 => asI r fun i => Q (.d (.int (-i))) S1) := rfl
theorem u_tdGet2 {td ty tx : TDE} {S Q} : tdGet2 td ty tx S Q = (td S fun rx S1 => (∃ ks, derefD S1 rx = some (.dct ks)) ∧ ty S1 fun ry S2 => tx S2 fun rz S3 => frc rz S3 fun dz S4 => dd1 S4 ry fun dk => opt (keyD dk) fun k => dd1 S4 rx (getF k dz fun d => Q (.d d) S4)) := rfl
theorem u_tdPopAt {to : TDE} {t : TDA} {S Q} : tdPopAt to t S Q = (to S fun rx S1 => (∃ ds, derefD S1 rx = some (.lst ds)) ∧ t S1 fun rs S2 => arg1 rs fun r => asI r fun i => dd1 S2 rx (popF i fun ds j y => mutL S2 rx (fun ds' k => ds' = ds ∧ k (ds.eraseIdx j)) fun _ S3 => Q (.d y) S3)) := rfl
theorem u_tdRg1 {ta : TDE} {S Q} : tdRg1 ta S Q = (ta S fun r S1 => asI r fun n => Q 0 n S1) := rfl
theorem u_tdTupRg {t : TDRg} {S Q} : tdTupRg t S Q = (t S fun a b S1 => (0 ≤ a ∧ a ≤ 1000000 ∧ 0 ≤ b ∧ b ≤ 1000000) ∧ Q (.d (.tup (rng a (b - a).toNat))) S1) := rfl
theorem u_tdForW {ow : OW} {g : TDG} {tb : TDS} {E S} : tdForW ow g tb E S = (ow S fun b od vs ks => forL g tb E b od vs ks (ks.map fun p : Key × D => keyV p.1) ⟨S.ρ, S.W.put b (.lk od vs ks)⟩) := rfl
theorem u_tdMethK {C : Addr} {m : Str} {F : FSpec} {w : Exn → PSt → Prop} {n nk : Nat} {ta : TDE} {t tk : TDA} {S Q} : tdMethK C m F w n nk ta t tk S Q = (ta S fun r S1 => frc r S1 fun d S2 => dd1 S2 (.d d) (recF C m (t S2 fun rs S3 => frcL rs S3 fun ds S4 => tk S4 fun zs S5 => frcL zs S5 fun es S6 => ds.length + 1 = n ∧ es.length = nk ∧ CallF F (d :: (ds ++ es)) S6 Q w))) := rfl
theorem u_tnLc2 {wi : TDI} {g : TDG} {tt : TDT} {wi1 : TDI} {g1 : TDG} {tt1 : TDT} {te : TDE} {vs vs1 : List Nat} {S Q} : tnLc2 wi g tt wi1 g1 tt1 te vs vs1 S Q = (wi S fun ds S1 => compD2 g tt wi1 g1 tt1 te vs vs1 Q ds [] (S1.wipe vs)) := rfl
theorem u_tnLcW {ow : OW} {g : TDG} {tt : TDT} {te : TDE} {vs : List Nat} {S Q} : tnLcW ow g tt te vs S Q = (ow S fun b od vk ks => compL g tt te vs Q b od vk ks (ks.map fun p : Key × D => keyV p.1) [] (PSt.wipe ⟨S.ρ, S.W.put b (.lk od vk ks)⟩ vs)) := rfl
theorem u_tdShN {t : TDN} {S Q} : tdShN t S Q = (t S fun ds S1 => ∀ a : Addr, S1.W.ω a = none → ¬ S1.W.Tp a → Q (.d (.ref a)) ⟨S1.ρ, S1.W.put a (.lst ds)⟩) := rfl
theorem u_addF_i {Q : D → Prop} {i j : Int} : addF Q (.int i) (.int j) = Q (.int (i + j)) := rfl
theorem u_addF_s {Q : D → Prop} {a b : Str} : addF Q (.str a) (.str b) = (a.length + b.length ≤ 1000000 ∧ Q (.str (a ++ b))) := rfl
theorem u_addF_t {Q : D → Prop} {a b : List D} : addF Q (.tup a) (.tup b) = (a.length + b.length ≤ 1000000 ∧ Q (.tup (a ++ b))) := rfl
theorem u_addF_l {Q : D → Prop} {a b : List D} : addF Q (.lst a) (.lst b) = (a.length + b.length ≤ 1000000 ∧ Q (.lst (a ++ b))) := rfl
theorem u_iiF {P : Int → Int → Prop} {f : Int → Int → D} {Q : D → Prop} {i j : Int} : iiF P f Q (.int i) (.int j) = (P i j ∧ Q (f i j)) := rfl
theorem u_mulF_i {Q : D → Prop} {i j : Int} : mulF Q (.int i) (.int j) = (((-(2 ^ 64) < i ∧ i < 2 ^ 64) ∨ (-(2 ^ 64) < j ∧ j < 2 ^ 64)) ∧ Q (.int (i * j))) := rfl
theorem u_mulF_s {Q : D → Prop} {a : Str} {j : Int} : mulF Q (.str a) (.int j) = (0 ≤ j ∧ a.length ≤ 1000 ∧ j ≤ 1000 ∧ Q (.str (repS a j.toNat))) := rfl
theorem u_inF_l {Q : Bool → Prop} {x : D} {ds : List D} : inF Q x (.lst ds) = (inOk x ds ∧ Q (decide (x ∈ ds))) := rfl
theorem u_inF_t {Q : Bool → Prop} {x : D} {ds : List D} : inF Q x (.tup ds) = ((∃ c, fl c x = true ∧ ds.all (fl c) = true) ∧ Q (decide (x ∈ ds))) := rfl
theorem u_inF_s {Q : Bool → Prop} {i j : Str} : inF Q (.str i) (.str j) = Q (strIn i j) := rfl
theorem u_inF_ds {Q : Bool → Prop} {i : Str} {ks : List (Key × D)} : inF Q (.str i) (.dct ks) = Q (look ks (.inr i)).isSome := rfl
theorem u_inF_di {Q : Bool → Prop} {i : Int} {ks : List (Key × D)} : inF Q (.int i) (.dct ks) = Q (look ks (.inl i)).isSome := rfl
theorem u_ixF_l {Q : D → Prop} {ds : List D} {i : Int} : ixF Q (.lst ds) (.int i) = opt (atI ds i) Q := rfl
theorem u_ixF_t {Q : D → Prop} {ds : List D} {i : Int} : ixF Q (.tup ds) (.int i) = opt (atI ds i) Q := rfl
theorem u_ixF_s {Q : D → Prop} {z : Str} {i : Int} : ixF Q (.str z) (.int i) = (z.length ≤ 1000000 ∧ opt (atI z.cps.toList i) fun c => Q (.str ⟨#[c]⟩)) := rfl
theorem u_ixF_di {Q : D → Prop} {ks : List (Key × D)} {i : Int} : ixF Q (.dct ks) (.int i) = opt (look ks (.inl i)) Q := rfl
theorem u_ixF_ds {Q : D → Prop} {ks : List (Key × D)} {i : Str} : ixF Q (.dct ks) (.str i) = opt (look ks (.inr i)) Q := rfl
theorem u_slF_l {Q : D → Prop} {ds : List D} {lo hi : Option Int} : slF lo hi Q (.lst ds) = Q (.lst (cut ds lo hi)) := rfl
theorem u_slF_t {Q : D → Prop} {ds : List D} {lo hi : Option Int} : slF lo hi Q (.tup ds) = Q (.tup (cut ds lo hi)) := rfl
theorem u_slF_s {Q : D → Prop} {z : Str} {lo hi : Option Int} : slF lo hi Q (.str z) = (z.length ≤ 1000000 ∧ Q (.str (cutS z lo hi))) := rfl
theorem u_lenF_l {S : PSt} {Q : D → Prop} {ds : List D} : lenF S Q (.lst ds) = Q (.int ds.length) := rfl
theorem u_lenF_t {S : PSt} {Q : D → Prop} {ds : List D} : lenF S Q (.tup ds) = Q (.int ds.length) := rfl
theorem u_lenF_s {S : PSt} {Q : D → Prop} {z : Str} : lenF S Q (.str z) = (z.length ≤ 1000000 ∧ Q (.int z.length)) := rfl
theorem u_lenF_d {S : PSt} {Q : D → Prop} {ks : List (Key × D)} : lenF S Q (.dct ks) = Q (.int ks.length) := rfl
theorem u_isiF {S : PSt} {n : String} {Q : D → Prop} {a : D} : isiF S n Q a = (tyOk n = true ∧ opt (tyN a) fun t => Q (.bl (isB t n))) := rfl
theorem u_isiD {S : PSt} {x : Rv} {n : String} {Q : D → PSt → Prop} : isiD S [x, .d (.ty n)] Q = dd1 S x (isiF S n fun d => Q d S) := rfl
theorem u_tupF_l {S : PSt} {Q : D → Prop} {ds : List D} : tupF S Q (.lst ds) = Q (.tup ds) := rfl
theorem u_tupF_t {S : PSt} {Q : D → Prop} {ds : List D} : tupF S Q (.tup ds) = Q (.tup ds) := rfl
theorem u_allF {S : PSt} {Q : D → Prop} {ds : List D} : allF S Q (.lst ds) = opt (bls ds) fun bs => Q (.bl (bs.all id)) := rfl
theorem u_anyF {S : PSt} {Q : D → Prop} {ds : List D} : anyF S Q (.lst ds) = opt (bls ds) fun bs => Q (.bl (bs.any id)) := rfl
theorem u_sumF {S : PSt} {Q : D → Prop} {ds : List D} : sumF S Q (.lst ds) = opt (nts ds) fun bs => Q (.int bs.sum) := rfl
theorem u_sortF {S : PSt} {Q : List D → Prop} {ds : List D} : sortF S Q (.lst ds) = opt (nts ds) fun ns => ns.length < 64 ∧ Q ((srt ns).map D.int) := rfl
theorem u_intF_i {S : PSt} {Q : D → Prop} {i : Int} : intF S Q (.int i) = Q (.int i) := rfl
theorem u_intF_b {S : PSt} {Q : D → Prop} {b : Bool} : intF S Q (.bl b) = Q (.int (if b then 1 else 0)) := rfl
theorem u_walkF_l {Q : List D → Prop} {ds : List D} : walkF Q (.lst ds) = Q ds := rfl
theorem u_walkF_t {Q : List D → Prop} {ds : List D} : walkF Q (.tup ds) = Q ds := rfl
theorem u_walkF_s {Q : List D → Prop} {z : Str} : walkF Q (.str z) = Q (signs z) := rfl
theorem u_walkF_d {Q : List D → Prop} {ks : List (Key × D)} : walkF Q (.dct ks) = Q (ks.map fun p => keyV p.1) := rfl
theorem u_arg1 {r : Rv} {F : Rv → Prop} : arg1 [r] F = F r := rfl
theorem u_arg2 {r q : Rv} {F : Rv → Rv → Prop} : arg2 [r, q] F = F r q := rfl
theorem u_frcL_n {S : PSt} {Q : List D → PSt → Prop} : frcL [] S Q = Q [] S := rfl
theorem u_frcL_c {r : Rv} {rs : List Rv} {S : PSt} {Q : List D → PSt → Prop} : frcL (r :: rs) S Q = frc r S fun d S1 => frcL rs S1 fun ds S2 => Q (d :: ds) S2 := rfl
theorem u_addD {S : PSt} {rx ry : Rv} {Q : D → PSt → Prop} : addD S rx ry Q = dd1 S rx fun a => dd1 S ry fun b => addF (fun d => Q d S) a b := dd2_dd1
theorem u_iiD {P : Int → Int → Prop} {f : Int → Int → D} {S : PSt} {rx ry : Rv} {Q : D → PSt → Prop} : iiD P f S rx ry Q = dd1 S rx fun a => dd1 S ry fun b => iiF P f (fun d => Q d S) a b := dd2_dd1
theorem u_mulD {S : PSt} {rx ry : Rv} {Q : D → PSt → Prop} : mulD S rx ry Q = dd1 S rx fun a => dd1 S ry fun b => mulF (fun d => Q d S) a b := dd2_dd1
theorem u_eqD_f {S : PSt} {rx ry : Rv} {Q : D → PSt → Prop} : eqD false S rx ry Q = dd1 S rx fun a => dd1 S ry fun b => eqOk a b ∧ Q (.bl (decide (a = b))) S := dd2_dd1
theorem u_eqD_t {S : PSt} {rx ry : Rv} {Q : D → PSt → Prop} : eqD true S rx ry Q = dd1 S rx fun a => dd1 S ry fun b => eqOk a b ∧ Q (.bl (!decide (a = b))) S := dd2_dd1
theorem u_inD_f {S : PSt} {rx ry : Rv} {Q : D → PSt → Prop} : inD false S rx ry Q = dd1 S rx fun a => dd1 S ry fun b => inF (fun b => Q (.bl b) S) a b := dd2_dd1
theorem u_inD_t {S : PSt} {rx ry : Rv} {Q : D → PSt → Prop} : inD true S rx ry Q = dd1 S rx fun a => dd1 S ry fun b => inF (fun b => Q (.bl (!b)) S) a b := dd2_dd1
theorem u_ixD {S : PSt} {rx ry : Rv} {Q : D → PSt → Prop} : ixD S rx ry Q = dd1 S rx fun a => dd1 S ry fun b => ixF (fun d => Q d S) a b := dd2_dd1
theorem u_dd2 {S : PSt} {rx ry : Rv} {F : D → D → Prop} : dd2 S rx ry F = dd1 S rx fun a => dd1 S ry fun b => F a b := dd2_dd1
theorem u_isND_f {S : PSt} {d : D} {Q : D → PSt → Prop} : isND false S (.d d) (.d .non) Q = Q (.bl (isNn d)) S := rfl
theorem u_isND_t {S : PSt} {d : D} {Q : D → PSt → Prop} : isND true S (.d d) (.d .non) Q = Q (.bl (!isNn d)) S := rfl
theorem u_fldF {C : Addr} {f : Str} {Q : D → Prop} {fs : List (Str × D)} : fldF C f Q (.obj C fs) = opt (look fs f) Q := propext ⟨fun h => h.2, fun h => ⟨rfl, h⟩⟩
theorem u_recF {C : Addr} {m : Str} {Q : Prop} {fs : List (Str × D)} : recF C m Q (.obj C fs) = (look fs m = none ∧ Q) := propext ⟨fun h => h.2, fun h => ⟨rfl, h⟩⟩
theorem u_ofC {C : Addr} {Q : Prop} {fs : List (Str × D)} : ofC C Q (.obj C fs) = Q := propext ⟨fun h => h.2, fun h => ⟨rfl, h⟩⟩
theorem u_turnD {g : TDG} {tt : TDT} {te : TDE} {vs : List Nat} {d : D} {S : PSt} {N : D → PSt → Prop} {M : PSt → Prop} : turnD g tt te vs d S N M = g d S fun S2 => tt S2 fun b S3 => if b = true then te S3 fun r S4 => frc r S4 fun y S5 => N y (S5.wipe vs) else M (S3.wipe vs) := rfl
theorem u_tvVar {i : Nat} {S : PSt} {Q : D → Prop} : tvVar i S Q = valV1 Q S.ρ[i]? := rfl
theorem u_tvFld {C : Addr} {f : Str} {fv : PSt → (D → Prop) → Prop} {S : PSt} {Q : D → Prop} : tvFld C f fv S Q = (fv S fun d => dd1 S (.d d) (fldF C f Q)) := rfl
theorem u_refD {Q : Addr → Prop} {b : Addr} : refD Q (.ref b) = Q b := rfl
theorem u_getF {k : Key} {z : D} {Q : D → Prop} {ks : List (Key × D)} : getF k z Q (.dct ks) = Q ((look ks k).getD z) := rfl
theorem u_popF {i : Int} {G : List D → Nat → D → Prop} {ds : List D} : popF i G (.lst ds) = ((-(2 ^ 63) ≤ i ∧ i < 2 ^ 63) ∧ opt (popI ds i) fun p => G ds p.1 p.2) := rfl
theorem u_dctW {fv : PSt → (D → Prop) → Prop} {S : PSt} {Q : Addr → Obj → List (Key × V) → List (Key × D) → Prop} : dctW fv S Q = (fv S (refD fun b => dctC (fun ks => ∀ od vs, fv ⟨S.ρ, S.W.put b (.lk od vs ks)⟩ fun v' => v' = .ref b ∧ Q b od vs ks) (S.W.ω b))) := rfl
theorem u_refV {Q : Addr → Prop} {b : Addr} : refV (.d (.ref b)) Q = Q b := rfl
theorem u_valV1 {Q : D → Prop} {d : D} : valV1 Q (some (some (.val d))) = Q d := rfl
theorem u_mm2D {f : Int → Int → Int} {S : PSt} {x y : Rv} {Q : D → PSt → Prop} : mm2D f S [x, y] Q = dd1 S x fun a => dd1 S y fun b => iiF (fun _ _ => True) (fun i j => .int (f i j)) (fun d => Q d S) a b := rfl
theorem u_turnD2 {g : TDG} {tt : TDT} {wi1 : TDI} {g1 : TDG} {tt1 : TDT} {te : TDE} {vs vs1 : List Nat} {d : D} {acc : List D} {S : PSt} {N : List D → PSt → Prop} : turnD2 g tt wi1 g1 tt1 te vs vs1 d acc S N = g d S fun S2 => tt S2 fun b S3 => if b = true then wi1 S3 fun es S4 => compD g1 tt1 te vs1 (fun a S5 => N a (S5.wipe vs)) es acc (S4.wipe vs1) else N acc (S3.wipe vs) := rfl
theorem u_lstK_l {S : PSt} {Q : List D → Prop} {ds : List D} : lstK S Q (.lst ds) = Q ds := rfl
theorem u_lstK_t {S : PSt} {Q : List D → Prop} {ds : List D} : lstK S Q (.tup ds) = Q ds := rfl
theorem u_lstK_d {S : PSt} {Q : List D → Prop} {ks : List (Key × D)} : lstK S Q (.dct ks) = Q (ks.map fun p => keyV p.1) := rfl
class Bx (α : Type) where
  v : α
class Px where
  v : Prop
def CallB (F : FSpec) (ds : List D) (S : PSt) [Q : Bx (Rv → PSt → Prop)] [w : Bx (Exn → PSt → Prop)] : Prop := CallF F ds S Q.v w.v
def optB {α : Type} (o : Option α) [F : Bx (α → Prop)] : Prop := opt o F.v
def dd1B (S : PSt) (r : Rv) [F : Bx (D → Prop)] : Prop := dd1 S r F.v
def asBB (r : Rv) [F : Bx (Bool → Prop)] : Prop := asB r F.v
def asIB (r : Rv) [F : Bx (Int → Prop)] : Prop := asI r F.v
def frcB (r : Rv) (S : PSt) [F : Bx (D → PSt → Prop)] : Prop := frc r S F.v
def forB (ds : List D) (S : PSt) [g : Bx TDG] [tb : Bx TDS] [E : Bx DEnds] : Prop := forD g.v tb.v E.v ds S
def compB (ds acc : List D) (S : PSt) [g : Bx TDG] [tt : Bx TDT] [te : Bx TDE] [vs : Bx (List Nat)] [Q : Bx (List D → PSt → Prop)] : Prop := compD g.v tt.v te.v vs.v Q.v ds acc S
def iteB (c : Prop) [Decidable c] [A : Px] [B : Px] : Prop := if c then A.v else B.v
def whileB (S : PSt) [c : Bx TDT] [tb : Bx TDS] [E : Bx DEnds] : Prop := tdWhile c.v tb.v E.v S
def varB (c : Option (Option PC)) (i : Nat) [Q : Bx (Rv → Prop)] : Prop := match c with
  | some (some (.val d)) => Q.v (.d d)
  | some (some (.ownL _)) => Q.v (.own i)
  | some (some (.ownD _)) => Q.v (.own i)
  | _ => False
def augB (i : Nat) (S : PSt) (c : Option (Option PC)) (d : D) [Q : Bx (PSt → Prop)] : Prop := augF i S Q.v c d
def mutLB (S : PSt) (r : Rv) [F : Bx (List D → (List D → Prop) → Prop)] [Q : Bx (List D → PSt → Prop)] : Prop := mutL S r F.v Q.v
def mutDB (S : PSt) (r : Rv) [F : Bx (List (Key × D) → (List (Key × D) → Prop) → Prop)] [Q : Bx (PSt → Prop)] : Prop := mutD S r F.v Q.v
def retVB (c : Option (Option PC)) (W : Wd) [Q : Bx (List D → Wd → Prop)] : Prop := match c with
  | some (some (.ownL ds)) => Q.v ds W
  | _ => False
theorem b_Call {F : FSpec} {ds : List D} {S : PSt} {Q : Rv → PSt → Prop} {w : Exn → PSt → Prop} : CallF F ds S Q w = @CallB F ds S ⟨Q⟩ ⟨w⟩ := rfl
theorem b_opt {α : Type} {o : Option α} {F : α → Prop} : opt o F = @optB α o ⟨F⟩ := rfl
theorem b_dd1 {S : PSt} {r : Rv} {F : D → Prop} : dd1 S r F = @dd1B S r ⟨F⟩ := rfl
theorem b_asB {r : Rv} {F : Bool → Prop} : asB r F = @asBB r ⟨F⟩ := rfl
theorem b_asI {r : Rv} {F : Int → Prop} : asI r F = @asIB r ⟨F⟩ := rfl
theorem b_frc {r : Rv} {S : PSt} {F : D → PSt → Prop} : frc r S F = @frcB r S ⟨F⟩ := rfl
theorem b_for {g : TDG} {tb : TDS} {E : DEnds} {ds : List D} {S : PSt} : forD g tb E ds S = @forB ds S ⟨g⟩ ⟨tb⟩ ⟨E⟩ := rfl
theorem b_comp {g : TDG} {tt : TDT} {te : TDE} {vs : List Nat} {Q : List D → PSt → Prop} {ds acc : List D} {S : PSt} : compD g tt te vs Q ds acc S = @compB ds acc S ⟨g⟩ ⟨tt⟩ ⟨te⟩ ⟨vs⟩ ⟨Q⟩ := rfl
theorem b_ite {c : Prop} [Decidable c] {A B : Prop} : (if c then A else B) = @iteB c _ ⟨A⟩ ⟨B⟩ := rfl
theorem b_while {c : TDT} {tb : TDS} {E : DEnds} {S : PSt} : tdWhile c tb E S = @whileB S ⟨c⟩ ⟨tb⟩ ⟨E⟩ := rfl
theorem b_var {i : Nat} {S : PSt} {Q : Rv → PSt → Prop} : tdVar i S Q = @varB S.ρ[i]? i ⟨fun r => Q r S⟩ := by
  unfold tdVar varB
  cases S.ρ[i]? with
  | none => rfl
  | some c =>
    cases c with
    | none => rfl
    | some c => cases c <;> rfl
theorem b_aug {i : Nat} {t : TDE} {E : DEnds} {S : PSt} : tdAug i t E S = ((∃ c, S.ρ[i]? = some (some c)) ∧ t S fun r S1 => dd1 S1 r fun d => @augB i S1 S1.ρ[i]? d ⟨E.nx⟩) := rfl
theorem b_mutL {S : PSt} {r : Rv} {F : List D → (List D → Prop) → Prop} {Q : List D → PSt → Prop} : mutL S r F Q = @mutLB S r ⟨F⟩ ⟨Q⟩ := rfl
theorem b_mutD {S : PSt} {r : Rv} {F : List (Key × D) → (List (Key × D) → Prop) → Prop} {Q : PSt → Prop} : mutD S r F Q = @mutDB S r ⟨F⟩ ⟨Q⟩ := rfl
theorem b_retV {i : Nat} {E : DEnds} {S : PSt} : tdRetV i E S = @retVB S.ρ[i]? S.W ⟨E.rn⟩ := by
  unfold tdRetV retVB
  cases S.ρ[i]? with
  | none => rfl
  | some c =>
    cases c with
    | none => rfl
    | some c => cases c <;> rfl
section
variable {S : PSt} {F : Bx (D → Prop)} {G : Bx (D → PSt → Prop)}
theorem o_opt {α : Type} {a : α} {F : Bx (α → Prop)} : @optB α (some a) F = F.v a := rfl
theorem o_asB {b : Bool} {F : Bx (Bool → Prop)} : @asBB (.d (.bl b)) F = F.v b := rfl
theorem o_asI {b : Int} {F : Bx (Int → Prop)} : @asIB (.d (.int b)) F = F.v b := rfl
theorem o_non : @dd1B S (.d .non) F = F.v .non := rfl
theorem o_bl {b : Bool} : @dd1B S (.d (.bl b)) F = F.v (.bl b) := rfl
theorem o_int {b : Int} : @dd1B S (.d (.int b)) F = F.v (.int b) := rfl
theorem o_str {b : Str} : @dd1B S (.d (.str b)) F = F.v (.str b) := rfl
theorem o_ty {b : String} : @dd1B S (.d (.ty b)) F = F.v (.ty b) := rfl
theorem o_tup {b : List D} : @dd1B S (.d (.tup b)) F = F.v (.tup b) := rfl
theorem o_lst {b : List D} : @dd1B S (.d (.lst b)) F = F.v (.lst b) := rfl
theorem o_dct {b : List (Key × D)} : @dd1B S (.d (.dct b)) F = F.v (.dct b) := rfl
theorem o_obj {C : Addr} {b : List (Str × D)} : @dd1B S (.d (.obj C b)) F = F.v (.obj C b) := rfl
theorem o_varV {i : Nat} {d : D} {Q : Bx (Rv → Prop)} : @varB (some (some (.val d))) i Q = Q.v (.d d) := rfl
theorem o_varL {i : Nat} {d : List D} {Q : Bx (Rv → Prop)} : @varB (some (some (.ownL d))) i Q = Q.v (.own i) := rfl
theorem o_varD {i : Nat} {d : List (Key × D)} {Q : Bx (Rv → Prop)} : @varB (some (some (.ownD d))) i Q = Q.v (.own i) := rfl
theorem o_frc {d : D} : @frcB (.d d) S G = G.v d S := rfl
theorem o_augI {i : Nat} {a b : Int} {Q : Bx (PSt → Prop)} : @augB i S (some (some (.val (.int a)))) (.int b) Q = Q.v (S.set i (.val (.int (a + b)))) := rfl
theorem o_augS {i : Nat} {a b : Str} {Q : Bx (PSt → Prop)} : @augB i S (some (some (.val (.str a)))) (.str b) Q = (a.length + b.length ≤ 1000000 ∧ Q.v (S.set i (.val (.str (a ++ b))))) := rfl
theorem o_augL {i : Nat} {a b : List D} {Q : Bx (PSt → Prop)} : @augB i S (some (some (.ownL a))) (.lst b) Q = (a.length + b.length ≤ 1000000 ∧ Q.v (S.set i (.ownL (a ++ b)))) := rfl
theorem o_retV {ds : List D} {W : Wd} {Q : Bx (List D → Wd → Prop)} : @retVB (some (some (.ownL ds))) W Q = Q.v ds W := rfl
theorem o_iteT {A B : Px} : @iteB True _ A B = A.v := by unfold iteB; simp
theorem o_iteF {A B : Px} : @iteB False _ A B = B.v := by unfold iteB; simp
end
theorem iteB_by {c : Prop} [Decidable c] {A B : Px} (h1 : c → A.v) (h2 : ¬ c → B.v) : @iteB c _ A B := by
  unfold iteB
  split
  · exact h1 ‹_›
  · exact h2 ‹_›
theorem iteB_T {c : Prop} [Decidable c] {A B : Px} (hc : c) (h : A.v) : @iteB c _ A B := by unfold iteB; rw [if_pos hc]; exact h
theorem iteB_F {c : Prop} [Decidable c] {A B : Px} (hc : ¬ c) (h : B.v) : @iteB c _ A B := by unfold iteB; rw [if_neg hc]; exact h
def derefO : Option (Option PC) → Option D
  | some (some (.val (.ref _))) => none
  | some (some (.val d)) => some d
  | some (some (.ownL ds)) => some (.lst ds)
  | some (some (.ownD ks)) => some (.dct ks)
  | _ => none
theorem b_deref {S : PSt} {j : Nat} : derefD S (.own j) = derefO S.ρ[j]? := by
  rw [derefD]
  cases S.ρ[j]? with
  | none => rfl
  | some c =>
    cases c with
    | none => rfl
    | some c =>
      cases c with
      | val d => cases d <;> rfl
      | ownL ds => rfl
      | ownD ds => rfl
theorem o_derefL {ds : List D} : derefO (some (some (.ownL ds))) = some (.lst ds) := rfl
theorem o_derefD {ds : List (Key × D)} : derefO (some (some (.ownD ds))) = some (.dct ds) := rfl
theorem b_dd1own {S : PSt} {j : Nat} {F : Bx (D → Prop)} : @dd1B S (.own j) F = @optB D (derefO S.ρ[j]?) F := by
  unfold dd1B dd1 optB opt
  rw [b_deref]
  cases derefO S.ρ[j]? <;> rfl
def mutOB (S : PSt) (j : Nat) (c : Option (Option PC)) [F : Bx (List D → (List D → Prop) → Prop)] [Q : Bx (List D → PSt → Prop)] : Prop := mutO S j F.v Q.v c
theorem b_mutO {S : PSt} {j : Nat} {F : Bx (List D → (List D → Prop) → Prop)} {Q : Bx (List D → PSt → Prop)} : @mutLB S (.own j) F Q = @mutOB S j S.ρ[j]? F Q := rfl
theorem o_mutO {S : PSt} {j : Nat} {ds : List D} {F : Bx (List D → (List D → Prop) → Prop)} {Q : Bx (List D → PSt → Prop)} : @mutOB S j (some (some (.ownL ds))) F Q = F.v ds fun es => Q.v es (S.set j (.ownL es)) := rfl
def mutDOB (S : PSt) (j : Nat) (c : Option (Option PC)) [F : Bx (List (Key × D) → (List (Key × D) → Prop) → Prop)] [Q : Bx (PSt → Prop)] : Prop := mutDO S j F.v Q.v c
theorem b_mutDO {S : PSt} {j : Nat} {F : Bx (List (Key × D) → (List (Key × D) → Prop) → Prop)} {Q : Bx (PSt → Prop)} : @mutDB S (.own j) F Q = @mutDOB S j S.ρ[j]? F Q := rfl
theorem o_mutDO {S : PSt} {j : Nat} {ds : List (Key × D)} {F : Bx (List (Key × D) → (List (Key × D) → Prop) → Prop)} {Q : Bx (PSt → Prop)} : @mutDOB S j (some (some (.ownD ds))) F Q = F.v ds fun es => Q.v (S.set j (.ownD es)) := rfl
def frcOB (S : PSt) (j : Nat) (c : Option (Option PC)) [G : Bx (D → PSt → Prop)] : Prop := match c with
  | some (some (.val d)) => G.v d S
  | some (some (.ownL ds)) => G.v (.lst ds) (S.set j (.val (.lst ds)))
  | some (some (.ownD ks)) => G.v (.dct ks) (S.set j (.val (.dct ks)))
  | _ => False
theorem b_frcO {S : PSt} {j : Nat} {G : Bx (D → PSt → Prop)} : @frcB (.own j) S G = @frcOB S j S.ρ[j]? G := by
  unfold frcB frcOB
  rw [frc] <;> (cases S.ρ[j]? with
    | none => rfl
    | some c =>
      cases c with
      | none => rfl
      | some c => cases c <;> rfl)
theorem o_frcL {S : PSt} {j : Nat} {ds : List D} {G : Bx (D → PSt → Prop)} : @frcOB S j (some (some (.ownL ds))) G = G.v (.lst ds) (S.set j (.val (.lst ds))) := rfl
theorem o_frcD {S : PSt} {j : Nat} {ds : List (Key × D)} {G : Bx (D → PSt → Prop)} : @frcOB S j (some (some (.ownD ds))) G = G.v (.dct ds) (S.set j (.val (.dct ds))) := rfl
theorem o_frcV {S : PSt} {j : Nat} {d : D} {G : Bx (D → PSt → Prop)} : @frcOB S j (some (some (.val d))) G = G.v d S := rfl
def refB (S : PSt) (r : Rv) [Q : Bx (Addr → List D → Prop)] : Prop := refF S Q.v r
def forRB (a : Addr) (es ds : List D) (S : PSt) [g : Bx TDG] [tb : Bx TDS] [E : Bx DEnds] : Prop := forR g.v tb.v E.v a es ds S
def forLB (b : Addr) (od : Obj) (vs : List (Key × V)) (ks : List (Key × D)) (ds : List D) (S : PSt) [g : Bx TDG] [tb : Bx TDS] [E : Bx DEnds] : Prop := forL g.v tb.v E.v b od vs ks ds S
def compLB (b : Addr) (od : Obj) (vk : List (Key × V)) (ks : List (Key × D)) (ds acc : List D) (S : PSt) [g : Bx TDG] [tt : Bx TDT] [te : Bx TDE] [vs : Bx (List Nat)] [Q : Bx (List D → PSt → Prop)] : Prop := compL g.v tt.v te.v vs.v Q.v b od vk ks ds acc S
def comp2B (ds acc : List D) (S : PSt) [g : Bx TDG] [tt : Bx TDT] [wi1 : Bx TDI] [g1 : Bx TDG] [tt1 : Bx TDT] [te : Bx TDE] [vs : Bx (List Nat)] [vs1 : Bx (List Nat)] [Q : Bx (List D → PSt → Prop)] : Prop := compD2 g.v tt.v wi1.v g1.v tt1.v te.v vs.v vs1.v Q.v ds acc S
theorem b_comp2 {g g1 : TDG} {tt tt1 : TDT} {wi1 : TDI} {te : TDE} {vs vs1 : List Nat} {Q : List D → PSt → Prop} {ds acc : List D} {S : PSt} : compD2 g tt wi1 g1 tt1 te vs vs1 Q ds acc S = @comp2B ds acc S ⟨g⟩ ⟨tt⟩ ⟨wi1⟩ ⟨g1⟩ ⟨tt1⟩ ⟨te⟩ ⟨vs⟩ ⟨vs1⟩ ⟨Q⟩ := rfl
def dctCB (o : Option Cell) [Q : Bx (List (Key × D) → Prop)] : Prop := dctC Q.v o
theorem b_forL {g : TDG} {tb : TDS} {E : DEnds} {b : Addr} {od : Obj} {vs : List (Key × V)} {ks : List (Key × D)} {ds : List D} {S : PSt} : forL g tb E b od vs ks ds S = @forLB b od vs ks ds S ⟨g⟩ ⟨tb⟩ ⟨E⟩ := rfl
theorem b_compL {g : TDG} {tt : TDT} {te : TDE} {vs : List Nat} {Q : List D → PSt → Prop} {b : Addr} {od : Obj} {vk : List (Key × V)} {ks : List (Key × D)} {ds acc : List D} {S : PSt} : compL g tt te vs Q b od vk ks ds acc S = @compLB b od vk ks ds acc S ⟨g⟩ ⟨tt⟩ ⟨te⟩ ⟨vs⟩ ⟨Q⟩ := rfl
theorem b_dctC {o : Option Cell} {Q : List (Key × D) → Prop} : dctC Q o = @dctCB o ⟨Q⟩ := rfl
theorem o_dctC {ks : List (Key × D)} {Q : Bx (List (Key × D) → Prop)} : @dctCB (some (.dct ks)) Q = Q.v ks := rfl
theorem b_ref {S : PSt} {r : Rv} {Q : Addr → List D → Prop} : refF S Q r = @refB S r ⟨Q⟩ := rfl
theorem b_forR {g : TDG} {tb : TDS} {E : DEnds} {a : Addr} {es ds : List D} {S : PSt} : forR g tb E a es ds S = @forRB a es ds S ⟨g⟩ ⟨tb⟩ ⟨E⟩ := rfl
theorem o_ref {ρ : List (Option PC)} {W : Wd} {a : Addr} {ds : List D} {Q : Bx (Addr → List D → Prop)} : @refB ⟨ρ, W.put a (.lst ds)⟩ (.d (.ref a)) Q = Q.v a ds := by
  unfold refB refF
  simp only [Wd.put_same, refC]
theorem o_derefR {ρ : List (Option PC)} {W : Wd} {a : Addr} {ds : List D} : derefD ⟨ρ, W.put a (.lst ds)⟩ (.d (.ref a)) = some (.lst ds) := by
  simp only [derefD, Wd.put_same]
theorem o_dd1R {ρ : List (Option PC)} {W : Wd} {a : Addr} {ds : List D} {F : Bx (D → Prop)} : @dd1B ⟨ρ, W.put a (.lst ds)⟩ (.d (.ref a)) F = F.v (.lst ds) := by
  unfold dd1B dd1
  rw [o_derefR]
theorem put_put {W : Wd} {a : Addr} {c c' : Cell} : (W.put a c).put a c' = W.put a c' := by
  unfold Wd.put
  congr 1
  funext b
  by_cases h : b = a <;> simp [h]
theorem o_mutR {ρ : List (Option PC)} {W : Wd} {a : Addr} {ds : List D} {F : Bx (List D → (List D → Prop) → Prop)} {Q : Bx (List D → PSt → Prop)} : @mutLB ⟨ρ, W.put a (.lst ds)⟩ (.d (.ref a)) F Q = F.v ds fun es => Q.v es ⟨ρ, W.put a (.lst es)⟩ := by
  unfold mutLB mutL
  simp only [Wd.put_same, mutC, put_put]
theorem o_derefK {ρ : List (Option PC)} {W : Wd} {a : Addr} {ds : List (Key × D)} : derefD ⟨ρ, W.put a (.dct ds)⟩ (.d (.ref a)) = some (.dct ds) := by
  simp only [derefD, Wd.put_same]
theorem o_dd1K {ρ : List (Option PC)} {W : Wd} {a : Addr} {ds : List (Key × D)} {F : Bx (D → Prop)} : @dd1B ⟨ρ, W.put a (.dct ds)⟩ (.d (.ref a)) F = F.v (.dct ds) := by
  unfold dd1B dd1
  rw [o_derefK]
theorem o_mutK {ρ : List (Option PC)} {W : Wd} {a : Addr} {ds : List (Key × D)} {F : Bx (List (Key × D) → (List (Key × D) → Prop) → Prop)} {Q : Bx (PSt → Prop)} : @mutDB ⟨ρ, W.put a (.dct ds)⟩ (.d (.ref a)) F Q = F.v ds fun es => Q.v ⟨ρ, W.put a (.dct es)⟩ := by
  unfold mutDB mutD
  simp only [Wd.put_same, mutDC, put_put]
theorem o_putT {T : Addr → Prop} {W : Wd} {a : Addr} {c : Cell} : (⟨T, (W.put a c).ω⟩ : Wd) = Wd.put ⟨T, W.ω⟩ a c := rfl
def insFB (S : PSt) (C : Addr) (r : Rv) [Q : Bx (Addr → List (Str × D) → Prop)] : Prop := insF S C Q.v r
def insCB (C : Addr) (o : Option Cell) [Q : Bx (List (Str × D) → Prop)] : Prop := insC C Q.v o
theorem b_insF {S : PSt} {C : Addr} {r : Rv} {Q : Addr → List (Str × D) → Prop} : insF S C Q r = @insFB S C r ⟨Q⟩ := rfl
theorem b_insC {C : Addr} {o : Option Cell} {Q : List (Str × D) → Prop} : insC C Q o = @insCB C o ⟨Q⟩ := rfl
theorem o_insF {ρ : List (Option PC)} {W : Wd} {a C : Addr} {fs : List (Str × D)} {Q : Bx (Addr → List (Str × D) → Prop)} : @insFB ⟨ρ, W.put a (.ins C fs)⟩ C (.d (.ref a)) Q = Q.v a fs := by
  unfold insFB insF
  simp only [Wd.put_same, insC, true_and]
theorem o_insC {C : Addr} {fs : List (Str × D)} {Q : Bx (List (Str × D) → Prop)} : @insCB C (some (.ins C fs)) Q = Q.v fs := by
  unfold insCB
  simp only [insC, true_and]
theorem o_derefI {ρ : List (Option PC)} {W : Wd} {a C : Addr} {fs : List (Str × D)} : derefD ⟨ρ, W.put a (.ins C fs)⟩ (.d (.ref a)) = some (.obj C fs) := by
  simp only [derefD, Wd.put_same]
theorem o_dd1I {ρ : List (Option PC)} {W : Wd} {a C : Addr} {fs : List (Str × D)} {F : Bx (D → Prop)} : @dd1B ⟨ρ, W.put a (.ins C fs)⟩ (.d (.ref a)) F = F.v (.obj C fs) := by
  unfold dd1B dd1
  rw [o_derefI]
theorem o_putS {W : Wd} {a : Addr} {c : Cell} : (W.put a c).ω a = some c := Wd.put_same
theorem o_putP {W : Wd} {a : Addr} {c c' : Cell} : (W.put a c).put a c' = W.put a c' := put_put
def exBB (K : PySem.W.Frag) (c : Value) (x : Exn) [Y : Bx Prop] [N : Bx Prop] : Prop := exB K c x Y.v N.v
theorem b_exB {K : PySem.W.Frag} {c : Value} {x : Exn} {Y N : Prop} : exB K c x Y N = @exBB K c x ⟨Y⟩ ⟨N⟩ := rfl
theorem ofS_inj {a b : String} (h : Str.ofString a = Str.ofString b) : a = b := by
  have h : a.toList.map Char.toNat = b.toList.map Char.toNat := by
    rw [Str.ofString_eq_toList, Str.ofString_eq_toList] at h
    simpa using h
  exact String.toList_inj.mp ((List.map_inj_right (f := Char.toNat) fun x y e => Char.toNat_inj.mp e).mp h)
theorem ofS_eq (a b : String) : (Str.ofString a = Str.ofString b) = (a = b) := propext ⟨ofS_inj, fun h => by rw [h]⟩
theorem look_c {p : Str × D} {l : List (Str × D)} {k : Str} : look (p :: l) k = if p.1 = k then some p.2 else look l k := rfl
theorem look_n {k : Str} : look ([] : List (Str × D)) k = none := rfl
theorem putFd_c {f : Str} {x : D} {p : Str × D} {r : List (Str × D)} : putFd f x (p :: r) = if p.1 = f then (p.1, x) :: r else p :: putFd f x r := rfl
theorem putFd_n {f : Str} {x : D} : putFd f x [] = [(f, x)] := rfl
theorem bq_t (b : Bool) : (b == true) = b := by cases b <;> rfl
theorem bq_f (b : Bool) : (b == false) = !b := by cases b <;> rfl
theorem exC {c : PC} : (∃ c', (some (some c) : Option (Option PC)) = some (some c')) = True := eq_true ⟨c, rfl⟩
theorem exK {ds : List (Key × D)} : (∃ ds', (some (D.dct ds) : Option D) = some (.dct ds')) = True := eq_true ⟨ds, rfl⟩
theorem exL {ds : List D} : (∃ ds', (some (D.lst ds) : Option D) = some (.lst ds')) = True := eq_true ⟨ds, rfl⟩
end Kn
set_option Elab.async false
set_option maxRecDepth 100000
set_option linter.all false
set_option autoImplicit false
namespace Kn
open PySem L2
section
variable {α : Type} {g : TDG} {tt : TDT} {te : TDE} {vs : List Nat} {Q : List D → PSt → Prop} {tb : TDS} {E : DEnds} {S : PSt}
theorem for_rng {lo : Int} {n : Nat} (I : Nat → PSt → Prop) (h0 : I 0 S) (hs : ∀ (i : Nat) S, i < n → I i S → g (.int (lo + i)) S fun S2 => tb ⟨I (i + 1), E.rt, E.nx, I (i + 1), E.rn⟩ S2) (hd : ∀ S, I n S → E.nx S) : @forB (rng lo n) S ⟨g⟩ ⟨tb⟩ ⟨E⟩ := by
  refine forD_ix (g := g) (tb := tb) (E := E) (fun (i : Nat) => D.int (lo + (i : Int))) (List.range n) I h0 (fun i x S hx hi => ?_) (fun S h => hd S (by simpa using h))
  obtain ⟨h1, h2⟩ := List.getElem?_eq_some_iff.mp hx
  simp at h1 h2
  subst h2
  exact hs i S h1 hi
theorem for_lst {xs : List D} (I : Nat → PSt → Prop) (h0 : I 0 S) (hs : ∀ (i : Nat) x S, xs[i]? = some x → I i S → g x S fun S2 => tb ⟨I (i + 1), E.rt, E.nx, I (i + 1), E.rn⟩ S2) (hd : ∀ S, I xs.length S → E.nx S) : @forB xs S ⟨g⟩ ⟨tb⟩ ⟨E⟩ := forD_id xs I h0 hs hd
theorem for_map (h : α → D) (xs : List α) (I : Nat → PSt → Prop) (h0 : I 0 S) (hs : ∀ (i : Nat) x S, xs[i]? = some x → I i S → g (h x) S fun S2 => tb ⟨I (i + 1), E.rt, E.nx, I (i + 1), E.rn⟩ S2) (hd : ∀ S, I xs.length S → E.nx S) : @forB (xs.map h) S ⟨g⟩ ⟨tb⟩ ⟨E⟩ := forD_ix h xs I h0 hs hd
theorem for_nil : @forB [] S ⟨g⟩ ⟨tb⟩ ⟨E⟩ = E.nx S := rfl
theorem for_cons {d : D} {ds : List D} (h : g d S fun S2 => tb ⟨fun S' => @forB ds S' ⟨g⟩ ⟨tb⟩ ⟨E⟩, E.rt, E.nx, fun S' => @forB ds S' ⟨g⟩ ⟨tb⟩ ⟨E⟩, E.rn⟩ S2) : @forB (d :: ds) S ⟨g⟩ ⟨tb⟩ ⟨E⟩ := ⟨_, fun _ z => z, h⟩
theorem comp_map (h f : α → D) (xs : List α) {acc : List D} (hl : acc.length + xs.length ≤ 1000000) (hs : ∀ x ∈ xs, ∀ (N : D → PSt → Prop) (M : PSt → Prop), N (f x) S → turnD g tt te vs (h x) S N M) (q : Q (acc ++ xs.map f) S) : @compB (xs.map h) acc S ⟨g⟩ ⟨tt⟩ ⟨te⟩ ⟨vs⟩ ⟨Q⟩ := compD_map h f xs acc hl hs q
theorem comp2_map {wi1 : TDI} {g1 : TDG} {tt1 : TDT} {vs1 : List Nat} (h : α → D) (f : α → List D) (xs : List α) {acc : List D} (hl : acc.length + (xs.flatMap f).length ≤ 1000000) (hs : ∀ x ∈ xs, ∀ (acc : List D) (N : List D → PSt → Prop), acc.length + (f x).length ≤ 1000000 → N (acc ++ f x) S → turnD2 g tt wi1 g1 tt1 te vs vs1 (h x) acc S N) (q : Q (acc ++ xs.flatMap f) S) : @comp2B (xs.map h) acc S ⟨g⟩ ⟨tt⟩ ⟨wi1⟩ ⟨g1⟩ ⟨tt1⟩ ⟨te⟩ ⟨vs⟩ ⟨vs1⟩ ⟨Q⟩ := compD2_map h f xs acc hl hs q
theorem comp_rel (h : α → D) (P : α → D → Prop) (xs : List α) {acc : List D} (hl : acc.length + xs.length ≤ 1000000) (hs : ∀ x ∈ xs, ∀ (N : D → PSt → Prop) (M : PSt → Prop), (∀ y, P x y → N y S) → turnD g tt te vs (h x) S N M) (q : ∀ ys, All2 P xs ys → Q (acc ++ ys) S) : @compB (xs.map h) acc S ⟨g⟩ ⟨tt⟩ ⟨te⟩ ⟨vs⟩ ⟨Q⟩ := compD_rel h P xs acc hl hs q
theorem comp_lst (f : D → D) {xs acc : List D} (hl : acc.length + xs.length ≤ 1000000) (hs : ∀ x ∈ xs, ∀ (N : D → PSt → Prop) (M : PSt → Prop), N (f x) S → turnD g tt te vs x S N M) (q : Q (acc ++ xs.map f) S) : @compB xs acc S ⟨g⟩ ⟨tt⟩ ⟨te⟩ ⟨vs⟩ ⟨Q⟩ := compD_mapI f xs acc hl hs q
theorem comp_fmM (h : α → D) (f : α → Option D) (xs : List α) {acc : List D} (hl : acc.length + xs.length ≤ 1000000) (hs : ∀ x ∈ xs, ∀ (N : D → PSt → Prop) (M : PSt → Prop), (∀ y, f x = some y → N y S) → (f x = none → M S) → turnD g tt te vs (h x) S N M) (q : Q (acc ++ xs.filterMap f) S) : @compB (xs.map h) acc S ⟨g⟩ ⟨tt⟩ ⟨te⟩ ⟨vs⟩ ⟨Q⟩ := compD_fm h f xs acc hl hs q
theorem comp_relL (P : D → D → Prop) {xs acc : List D} (hl : acc.length + xs.length ≤ 1000000) (hs : ∀ x ∈ xs, ∀ (N : D → PSt → Prop) (M : PSt → Prop), (∀ y, P x y → N y S) → turnD g tt te vs x S N M) (q : ∀ ys, All2 P xs ys → Q (acc ++ ys) S) : @compB xs acc S ⟨g⟩ ⟨tt⟩ ⟨te⟩ ⟨vs⟩ ⟨Q⟩ := compD_relI P xs acc hl hs q
theorem forR_drop {a : Addr} {es : List D} (I : Nat → PSt → Prop) (hI : ∀ i S, I i S → S.W.ω a = some (.lst es)) (hs : ∀ (i : Nat) x S, es[i]? = some x → I i S → g x S fun S2 => tb ⟨I (i + 1), E.rt, E.nx, I (i + 1), E.rn⟩ S2) (hd : ∀ S, I es.length S → E.nx S) : ∀ (m i : Nat) (S : PSt), es.length - i = m → i ≤ es.length → I i S → forR g tb E a es (es.drop i) S
  | 0, i, S, hm, hi, h => by
      have : i = es.length := by omega
      subst this
      rw [List.drop_length]
      exact ⟨hI _ _ h, hd S h⟩
  | m + 1, i, S, hm, hi, h => by
      have c : i < es.length := by omega
      rw [List.drop_eq_getElem_cons c]
      exact ⟨hI _ _ h, I (i + 1), fun S' h' => forR_drop I hI hs hd m (i + 1) S' (by omega) (by omega) h', hs i _ S (List.getElem?_eq_getElem c) h⟩
theorem forR_ix {a : Addr} {es : List D} (I : Nat → PSt → Prop) (h0 : I 0 S) (hI : ∀ i S, I i S → S.W.ω a = some (.lst es)) (hs : ∀ (i : Nat) x S, es[i]? = some x → I i S → g x S fun S2 => tb ⟨I (i + 1), E.rt, E.nx, I (i + 1), E.rn⟩ S2) (hd : ∀ S, I es.length S → E.nx S) : @forRB a es es S ⟨g⟩ ⟨tb⟩ ⟨E⟩ := forR_drop I hI hs hd es.length 0 S rfl (Nat.zero_le _) h0
end
def vD (W : Wd) (d : D) : Option D := derefD ⟨[], W⟩ (.d d)
theorem vD_eq {ρ : List (Option PC)} {W : Wd} {d : D} : derefD ⟨ρ, W⟩ (.d d) = vD W d := by cases d <;> rfl
theorem vD_put {W : Wd} {a : Addr} {c : Cell} {d : D} (h : d ≠ .ref a) : vD (W.put a c) d = vD W d := by
  cases d with
  | ref b =>
    have : (W.put a c).ω b = W.ω b := Wd.put_ne fun z => h (by rw [z])
    show (match (W.put a c).ω b with
      | some (Cell.lst ds) => some (D.lst ds)
      | some (Cell.dct ks) => some (D.dct ks)
      | some (Cell.lk _ _ ks) => some (D.dct ks)
      | some (Cell.ins C fs) => some (D.obj C fs)
      | some (Cell.dtn _ _ _) => some (D.ref b)
      | none => some (D.ref b)) = _
    rw [this]
    rfl
  | _ => rfl
theorem dd1B_at {ρ : List (Option PC)} {W : Wd} {x d : D} {F : Bx (D → Prop)} (h : vD W x = some d) (k : F.v d) : @dd1B ⟨ρ, W⟩ (.d x) F := by
  unfold dd1B dd1
  rw [vD_eq, h]
  exact k
theorem vD_nref {W : Wd} {a : Addr} {d : D} {ks : List (Key × D)} (h0 : W.ω a = none) (h : vD W d = some (.dct ks)) : d ≠ .ref a := fun z => by
  subst z
  unfold vD derefD at h
  simp only [h0] at h
  cases h
theorem mutDB_at {ρ : List (Option PC)} {W : Wd} {a : Addr} {ds : List (Key × D)} {F : Bx (List (Key × D) → (List (Key × D) → Prop) → Prop)} {Q : Bx (PSt → Prop)} (h : W.ω a = some (.dct ds)) (k : F.v ds fun es => Q.v ⟨ρ, W.put a (.dct es)⟩) : @mutDB ⟨ρ, W⟩ (.d (.ref a)) F Q := by
  unfold mutDB mutD
  simp only [h, mutDC]
  exact k
theorem mutLB_at {ρ : List (Option PC)} {W : Wd} {a : Addr} {ds : List D} {F : Bx (List D → (List D → Prop) → Prop)} {Q : Bx (List D → PSt → Prop)} (h : W.ω a = some (.lst ds)) (k : F.v ds fun es => Q.v es ⟨ρ, W.put a (.lst es)⟩) : @mutLB ⟨ρ, W⟩ (.d (.ref a)) F Q := by
  unfold mutLB mutL
  simp only [h, mutC]
  exact k
theorem insFB_at {ρ : List (Option PC)} {W : Wd} {a C : Addr} {fs : List (Str × D)} {Q : Bx (Addr → List (Str × D) → Prop)} (h : W.ω a = some (.ins C fs)) (k : Q.v a fs) : @insFB ⟨ρ, W⟩ C (.d (.ref a)) Q := by
  unfold insFB insF
  simp only [h, insC, true_and]
  exact k
theorem refB_at {ρ : List (Option PC)} {W : Wd} {a : Addr} {ds : List D} {Q : Bx (Addr → List D → Prop)} (h : W.ω a = some (.lst ds)) (k : Q.v a ds) : @refB ⟨ρ, W⟩ (.d (.ref a)) Q := by
  unfold refB refF
  simp only [h, refC]
  exact k
theorem deref_lst {ρ : List (Option PC)} {W : Wd} {a : Addr} {ds : List D} (h : W.ω a = some (.lst ds)) : ∃ ds', derefD ⟨ρ, W⟩ (.d (.ref a)) = some (.lst ds') := ⟨ds, by simp only [derefD, h]⟩
theorem deref_dct {ρ : List (Option PC)} {W : Wd} {a : Addr} {ks : List (Key × D)} (h : W.ω a = some (.dct ks)) : ∃ ks', derefD ⟨ρ, W⟩ (.d (.ref a)) = some (.dct ks') := ⟨ks, by simp only [derefD, h]⟩
theorem vD_lk {W : Wd} {a : Addr} {od : Obj} {vs : List (Key × V)} {ks : List (Key × D)} (h : W.ω a = some (.lk od vs ks)) : vD W (.ref a) = some (.dct ks) := by
  unfold vD derefD
  simp only [h]
theorem vD_ins {W : Wd} {a C : Addr} {fs : List (Str × D)} (h : W.ω a = some (.ins C fs)) : vD W (.ref a) = some (.obj C fs) := by
  unfold vD derefD
  simp only [h]
theorem vD_dct {W : Wd} {a : Addr} {ks : List (Key × D)} (h : W.ω a = some (.dct ks)) : vD W (.ref a) = some (.dct ks) := by
  unfold vD derefD
  simp only [h]
theorem vD_lst {W : Wd} {a : Addr} {ks : List D} (h : W.ω a = some (.lst ks)) : vD W (.ref a) = some (.lst ks) := by
  unfold vD derefD
  simp only [h]
theorem dctCB_at {o : Option Cell} {ks : List (Key × D)} {Q : Bx (List (Key × D) → Prop)} (h : o = some (.dct ks)) (k : Q.v ks) : @dctCB o Q := by
  rw [h]
  exact k
section
variable {α : Type} {g : TDG} {tt : TDT} {te : TDE} {vs : List Nat} {Q : List D → PSt → Prop} {tb : TDS} {E : DEnds} {S : PSt} {b : Addr} {od : Obj} {vk : List (Key × V)} {ks : List (Key × D)}
theorem compL_map (h f : α → D) : ∀ (xs : List α) {acc : List D}, S.W.ω b = some (.lk od vk ks) → acc.length + xs.length ≤ 1000000 → (∀ x ∈ xs, ∀ (N : D → PSt → Prop) (M : PSt → Prop), N (f x) S → turnD g tt te vs (h x) S N M) → Q (acc ++ xs.map f) ⟨S.ρ, S.W.put b (.dct ks)⟩ → @compLB b od vk ks (xs.map h) acc S ⟨g⟩ ⟨tt⟩ ⟨te⟩ ⟨vs⟩ ⟨Q⟩
  | [], acc, hb, _, _, q => ⟨hb, by simpa using q⟩
  | x :: xs, acc, hb, hl, hs, q => by
    refine ⟨hb, fun a S' => S' = S ∧ a = acc ++ [f x], ?_, hs x (by simp) (fun y S' => acc.length ≤ 999999 ∧ S' = S ∧ acc ++ [y] = acc ++ [f x]) (fun S' => S' = S ∧ acc = acc ++ [f x]) ⟨by simp at hl; omega, rfl, rfl⟩⟩
    rintro a S' ⟨e, rfl⟩
    rw [e]
    exact compL_map h f xs hb (by simp at hl ⊢; omega) (fun y hy => hs y (by simp [hy])) (by simpa using q)
theorem forL_ix (h : α → D) (I : Nat → PSt → Prop) (hI : ∀ i S, I i S → S.W.ω b = some (.lk od vk ks)) (xs : List α) (h0 : I 0 S)
    (hs : ∀ (i : Nat) x S, xs[i]? = some x → I i S → g (h x) S fun S2 => tb ⟨I (i + 1), fun r W => W.ω b = some (.lk od vk ks) ∧ E.rt r (W.put b (.dct ks)), fun S' => S'.W.ω b = some (.lk od vk ks) ∧ E.nx ⟨S'.ρ, S'.W.put b (.dct ks)⟩, I (i + 1), fun _ _ => False⟩ S2)
    (hd : ∀ S, I xs.length S → E.nx ⟨S.ρ, S.W.put b (.dct ks)⟩) : @forLB b od vk ks (xs.map h) S ⟨g⟩ ⟨tb⟩ ⟨E⟩ := by
  have key : ∀ (m i : Nat) (S : PSt), xs.length - i = m → i ≤ xs.length → I i S → forL g tb E b od vk ks ((xs.drop i).map h) S := by
    intro m
    induction m with
    | zero =>
      intro i S hm hi hS
      have : i = xs.length := by omega
      subst this
      rw [List.drop_length]
      exact ⟨hI _ _ hS, hd S hS⟩
    | succ m ih =>
      intro i S hm hi hS
      have c : i < xs.length := by omega
      rw [List.drop_eq_getElem_cons c]
      exact ⟨hI _ _ hS, I (i + 1), fun S' h' => ih (i + 1) S' (by omega) (by omega) h', hs i _ S (List.getElem?_eq_getElem c) hS⟩
  exact key xs.length 0 S rfl (Nat.zero_le _) h0
end
theorem pg_tupK {X : Cx} {es : List Expr} {k : Nat} {t : TGs} {pos : Pos} (K : PySem.W.Frag) (n : Nat) (hc : X.calm = true) (h : PGs X es t) (hn : (assignEach es X.env).length = n := by rfl) (hst : (assignEach es X.env).findIdx? (·.1) = none := by rfl) (hK : X.K = K := by rfl) : PG X (.Tuple es k pos) (gTup K n t) := by
  subst hK
  exact pg_tup hc h hn hst
theorem put_self {W : Wd} {b : Addr} {c : Cell} (h : W.ω b = some c) : W.put b c = W := by
  obtain ⟨Tp, ω⟩ := W
  unfold Wd.put
  congr 1
  funext x
  by_cases q : x = b
  · subst q; simp only [if_true]; exact h.symm
  · simp only [if_neg q]
end Kn
set_option Elab.async false
set_option maxRecDepth 100000
set_option linter.all false
set_option autoImplicit false
namespace Kn
open PySem L2
def spLaw (K : PySem.W.Frag) : Sp := fun vs H Q _ => ∃ (a : Addr) (ns : List Int), vs = [.ref a] ∧ SqL K H a (ns.map V.int) ∧ ns.length ≤ 63 ∧ ∀ H', Q (.bl true) H'
def W0 : Wd := ⟨fun _ => False, fun _ => none⟩
theorem Hd.none (H : Hp) : Hd (fun _ => False) H = H := by
  funext b
  unfold Hd
  exact if_neg id
theorem okLaw {P : Program} {w : World} {K : PySem.W.Frag} {mg : Str → Option Value} {base : Heap} {x qual : Str} {st : Stmt} {f : Addr} {fd : FuncData} {N : List Str} {p : Str} {k : Nat} (F : Fun K x qual st f fd) (S : FnScope N [p] (defScope st))
    (hbody : ∀ (cdv : Value) (A : Around) (outer : List Env) (s : Shared) (H : Hp) (E : XK) (e : Ent), Room k (A.deeper (PyProof.Rows.envOfC qual (defScope st) s.heap.objs.size f cdv)) →
      ∃ t td, PSs (cxOf CX0 P w K mg base N qual (defScope st) f cdv A outer s H E).nox (defBody st) t ∧ SimZ K e t td ∧ td ⟨fun _ => False, fun d _ => d = .bl true, fun _ => False, fun _ => False, fun _ _ => False⟩ (S0 N [.scr] e.W)) : FnOk P w K mg base CX0 (k + 1) f fd [p] (spLaw K) := by
  refine F.ok S (fun vs H Q E h => ?_) (fun cdv A outer s H vs Q E hr h => ?_)
  · obtain ⟨a, ns, rfl, _⟩ := h
    rfl
  · obtain ⟨a, ns, rfl, hS, hl, kq⟩ := h
    obtain ⟨t, td, hp, hs, ht⟩ := hbody cdv A outer s H E ⟨fun _ => False, W0, H⟩ hr
    have r : Rw K (fun _ => False) W0 H := ⟨fun _ z => z.elim, fun _ z => z.elim, fun _ _ z => by cases z⟩
    have dv : DvL K W0.Tp (Hd (fun _ => False) H) [.ref a] [.scr] := by
      rw [Hd.none]
      exact .cons (.scr hS hl) .nil
    refine ⟨t, hp, hs.run (start N [.ref a]) H (S0 N [.scr] W0) _ _ ⟨_, RU.start r dv⟩ ht ⟨fun S' σ' H' q _ => q.elim, fun d S' σ' v H' q ⟨U', x'⟩ => ?_, fun _ _ _ q => q.elim, fun _ _ _ q => q.elim, fun _ _ _ _ _ q => q.elim⟩⟩
    have dv' := x'.tmp (.v v (.d d)) (by simp)
    subst q
    cases dv'
    exact kq H'
end Kn
set_option Elab.async false
set_option maxRecDepth 100000
set_option linter.all false
set_option autoImplicit false
namespace Kn
open PySem L2
theorem Dq.funD {K : Fg} {d : Dq} (h0 : d.clo = []) (h1 : seeQ K (d.adr K) = d.want) (h2 : okQ K d = true) : ∃ fd, FunD K d.name d.qual (defArgs d.st) (defBody d.st) (defScope d.st) d.dfl d.kwd (d.adr K) fd := by
  unfold okQ at h2
  rw [Bool.and_eq_true] at h2
  obtain ⟨kp, h2⟩ := h2
  unfold seeQ Dq.want at h1
  cases e : K.lookup (d.adr K) with
  | none => rw [e] at h1; cases h1
  | some o =>
    obtain ⟨oc, od, dt, sl⟩ := o
    rw [e] at h1 h2
    cases dt with
    | func z =>
      obtain ⟨m1, m2, m3, m4, m5, m6, m7, m8, m9, m10, m11, m12, m13, m14, m15⟩ := z
      simp only [Option.some.injEq, Prod.mk.injEq] at h1
      obtain ⟨a1, a2, a3, a4, a5, a6, a7, a8⟩ := h1
      rw [h0, List.map_eq_nil_iff] at a7
      subst a1 a2 a3 a4 a5 a6 a7 a8
      simp only [Bool.and_eq_true] at h2
      obtain ⟨b1, b2, b3⟩ := h2
      exact ⟨_, ⟨oc, od, m8, m9, m10, m11, m12, m13, m14, sl, rfl, e, b1, He.dflB_ok b2, He.kwdB_ok b3⟩, kp⟩
    | _ => cases h1
theorem funD_plain {K : Fg} {x q : Str} {st : Stmt} {kws : List (Str × V)} {f : Addr} {fd : FuncData} (F : FunD K x q (defArgs st) (defBody st) (defScope st) [] kws f fd) : Fun K x q st f fd := by
  obtain ⟨oc, od, dV, kV, doc, pm, an, cdv, ct, osl, rfl, lk, hcd, hD, hK⟩ := F.ex
  rcases hD with ⟨_, rfl⟩ | ⟨e, _⟩
  · exact ⟨⟨oc, od, kV, doc, pm, an, cdv, ct, osl, rfl, lk, hcd⟩, F.kp⟩
  · exact absurd rfl e
section
variable {K : Fg} {h : Heap} {mg : Str → Option Value}
theorem bCon_ok (X : K.In h) (G : h.Ns mainGlobals mg) {x : Str} {v : V} (c : bCon x v K = true) : ∃ u, mg x = some u ∧ RelV v u := by
  unfold bCon at c
  cases e : PySem.W.nsIn K mainGlobals x with
  | none => rw [e] at c; cases c
  | some r =>
    rw [e] at c
    cases r with
    | none => cases c
    | some u => exact ⟨u, PySem.W.mg_of X G e, He.relB_ok c⟩
theorem clsG (X : K.In h) (G : h.Ns mainGlobals mg) {x : Str} (c : bFa (.glo x) K = true) : clsA mg x = He.ga K x := clsA_of (He.glo_ok X G c)
theorem clsG2 (X : K.In h) (G : h.Ns mainGlobals mg) {x : Str} (c : bFa (.glo x) K = true) : mg x = some (.ref (clsA mg x)) := by rw [clsG X G c]; exact He.glo_ok X G c
theorem excG (X : K.In h) (G : h.Ns mainGlobals mg) {x : Str} (c : bFa (.glo x) K = true) (d : bFa (.exc x) K = true) : ExcF K mg x := by
  obtain ⟨h1, h2, h3, h4⟩ := He.exc_ok d
  have e := clsG X G c
  exact ⟨clsG2 X G c, by rw [e]; exact h1, by rw [e]; exact h2, by rw [e]; exact h3, by rw [e]; exact h4⟩
end
theorem oexG {K : Fg} {C : Str} (h : bSup C K = true) (h2 : bSup2 C K = true) : OexC K (He.ga K C) ∧ ∃ cd, PySem.W.clsIn K (He.ga K C) = some cd := by
  unfold bSup2 at h2
  simp only [Bool.and_eq_true] at h2
  obtain ⟨a1, a2, a3, a4, _⟩ := h2
  unfold bSup at h
  cases e : K.lookup (He.ga K C) with
  | none => rw [e] at h; cases h
  | some o =>
    obtain ⟨oc, od, dt, sl⟩ := o
    rw [e] at h
    cases oc with
    | type t =>
      cases dt with
      | cls cd =>
        simp only [Bool.and_eq_true, Bool.not_eq_true', decide_eq_true_eq] at h
        obtain ⟨b1, b2, b3, b4, b5⟩ := h
        subst b1
        refine ⟨⟨?_, He.eqO_ok a1, of_decide_eq_true a2, of_decide_eq_true a3, a4⟩, ⟨cd, by unfold PySem.W.clsIn; rw [e] <;> rfl⟩⟩
        obtain ⟨nm, bs, mro, ns, qn, hd, sn, sub, ab, col, del⟩ := cd
        dsimp only at b2 b3 b4
        subst b2 b3
        cases mro with
        | nil => cases b4
        | cons v bm =>
          cases v with
          | ref C' =>
            simp only [Bool.and_eq_true, decide_eq_true_eq] at b4
            obtain ⟨b4, b6⟩ := b4
            subst b4
            obtain ⟨l⟩ := sl
            split at b5
            · rename_i k0 k1 k2 k3 n k5 hs
              have hs : l = [k0, k1, k2, k3, some (.builtin n), k5] := hs
              have b5 := of_decide_eq_true b5
              subst hs b5
              exact ⟨_, _, _, _, _, _, _, _, _, _, _, _, _, _, _, e, b6⟩
            · cases b5
          | _ => cases b4
      | _ => cases h
    | _ => cases dt <;> cases h
theorem supG {P : Program} {K : Fg} {h : Heap} {mg : Str → Option Value} (X : K.In h) (G : h.Ns mainGlobals mg) {C : Str} (c : bFa (.glo C) K = true) (c0 : bFa (.free "super") K = true) (h1 : bSup C K = true) (h2 : bSup2 C K = true) (ht : (P.main.scope.names.lookup ("super" : Str)).isSome = false) : SupT P K mg (clsA mg C) := by
  obtain ⟨o, cd⟩ := oexG h1 h2
  unfold bSup2 at h2
  simp only [Bool.and_eq_true] at h2
  obtain ⟨_, _, _, _, a5, a6, a7, a8⟩ := h2
  rw [clsG X G c]
  exact ⟨o, cd, of_decide_eq_true a5, of_decide_eq_true a6, He.eqO_ok a7, He.free_ok X G c0, He.eqO_ok a8, ht⟩
theorem Dq.supF {K : Fg} {C : Str} {st : Stmt} {q : Str} (h1 : seeQ K (mA C "__init__" K) = (⟨mA C "__init__", "__init__", q, st, [], [], ["__class__"]⟩ : Dq).want) (h2 : okQ K ⟨mA C "__init__", "__init__", q, st, [], [], ["__class__"]⟩ = true) {file : Str} (h3 : bInit C file K = true) :
    ∃ oc od osl kV doc pm an ct cda cc, K.lookup (mA C "__init__" K) = some ⟨oc, od, .func (PySem.W.ksFn "__init__" q (defArgs st) (defBody st) (defScope st) .none kV doc pm an (.ref cda) ct cc), osl⟩ ∧ PySem.W.codeIn K (.ref cda) q = true ∧
      (∃ cl cld csl, K.lookup cc = some ⟨cl, cld, .cell (some (.ref (He.ga K C))), csl⟩) ∧ ∃ ccl cdd vs ccs x t, K.lookup cda = some ⟨ccl, cdd, .fields vs, ccs⟩ ∧ vs[2]? = some (.str x t) ∧ (file == x) = true := by
  unfold okQ at h2
  rw [Bool.and_eq_true] at h2
  obtain ⟨kp, h2⟩ := h2
  unfold seeQ Dq.want at h1
  unfold bInit cellA codeA at h3
  rw [Bool.and_eq_true] at h3
  obtain ⟨h3, h4⟩ := h3
  dsimp only at h2
  cases e : K.lookup (mA C "__init__" K) with
  | none => rw [e] at h1; cases h1
  | some o =>
    obtain ⟨oc, od, dt, sl⟩ := o
    rw [e] at h1 h2 h3 h4
    cases dt with
    | func z =>
      obtain ⟨m1, m2, m3, m4, m5, m6, m7, m8, m9, m10, m11, m12, m13, m14, m15⟩ := z
      simp only [Option.some.injEq, Prod.mk.injEq] at h1
      obtain ⟨a1, a2, a3, a4, a5, a6, a7, a8⟩ := h1
      subst a1 a2 a3 a4 a5 a6 a8
      simp only [Bool.and_eq_true] at h2
      obtain ⟨b1, b2, b3⟩ := h2
      have e8 : m8 = .none := by
        cases m8 with
        | none => rfl
        | _ => cases b2
      subst e8
      match m7, a7, h3 with
      | [(y, c)], a7, h3 =>
        have a7 : [y] = [("__class__" : Str)] := a7
        injection a7 with a7 _
        subst a7
        cases m13 with
        | ref cda =>
          dsimp only at h3 h4
          refine ⟨oc, od, sl, m9, m10, m11, m12, m14, cda, c, rfl, b1, ?_, ?_⟩
          · split at h3
            · rename_i q
              rw [← of_decide_eq_true h3]
              exact ⟨_, _, _, q⟩
            · cases h3
          · split at h4
            · rename_i vs _ q
              unfold isFile at h4
              split at h4
              · rename_i q2
                exact ⟨_, _, _, _, _, _, q, q2, h4⟩
              · cases h4
            · cases h4
        | _ => cases b1
    | _ => cases h1
section
variable {ds : List Dq} {bs : List Bf} {K : Fg}
theorem saysB (c : obsK ds bs K = wantK ds) (i : Nat) {b : Bf} (h : bs[i]? = some b := by rfl) : b K = true := by
  have c2 : ((ds.all fun d => okQ K d) && bs.all fun b => b K) = true := congrArg (fun z : Aq => z.2) c
  rw [Bool.and_eq_true] at c2
  exact List.all_eq_true.mp c2.2 b (List.mem_of_getElem? h)
theorem saysD (c : obsK ds bs K = wantK ds) (i : Nat) {d : Dq} (h : ds[i]? = some d := by rfl) : seeQ K (d.adr K) = d.want ∧ okQ K d = true := by
  have c2 : ((ds.all fun d => okQ K d) && bs.all fun b => b K) = true := congrArg (fun z : Aq => z.2) c
  rw [Bool.and_eq_true] at c2
  have c1 : ds.map (fun d => seeQ K (d.adr K)) = ds.map Dq.want := congrArg (fun z : Aq => z.1) c
  have e : (ds.map fun d => seeQ K (d.adr K))[i]? = (ds.map Dq.want)[i]? := by rw [c1]
  rw [List.getElem?_map, List.getElem?_map, h] at e
  exact ⟨Option.some.inj e, List.all_eq_true.mp c2.1 d (List.mem_of_getElem? h)⟩
end
end Kn
set_option Elab.async false
set_option maxRecDepth 100000
set_option linter.all false
namespace Kn
open PySem L2
end Kn
set_option synthInstance.maxHeartbeats 0
set_option synthInstance.maxSize 100000
set_option Elab.async false
set_option maxRecDepth 100000
set_option linter.all false
namespace Kn
open PySem L2
def top (i : Nat) : Stmt := PySem.Challenge.pw_kindnotes_k43_whole_quiet_signs.main.body.getD i (.Pass ⟨0, 0, 0, 0⟩)
structure Txt (K : PySem.W.Frag) (mg : Str → Option Value) : Prop where
  b_all : mg "all" = none
  b_any : mg "any" = none
  b_bool : mg "bool" = none
  b_dict : mg "dict" = none
  b_int : mg "int" = none
  b_isinstance : mg "isinstance" = none
  b_len : mg "len" = none
  b_list : mg "list" = none
  b_min : mg "min" = none
  b_range : mg "range" = none
  b_sorted : mg "sorted" = none
  b_str : mg "str" = none
  b_sum : mg "sum" = none
  b_tuple : mg "tuple" = none
  c_FOUND : ∃ u, mg "FOUND" = some u ∧ RelV (.str "found") u
  c_LARGE : ∃ u, mg "LARGE" = some u ∧ RelV (.str "ABCDEFGHIJKLMNOPQRSTUVWXYZ") u
  c_LONGEST_WORD : ∃ u, mg "LONGEST_WORD" = some u ∧ RelV (.int 12) u
  c_MOST_PARTS : ∃ u, mg "MOST_PARTS" = some u ∧ RelV (.int 3) u
  c_MOST_PLACES : ∃ u, mg "MOST_PLACES" = some u ∧ RelV (.int 3) u
  c_MOST_SIGNS : ∃ u, mg "MOST_SIGNS" = some u ∧ RelV (.int 8) u
  c_MOST_WORDS : ∃ u, mg "MOST_WORDS" = some u ∧ RelV (.int 12) u
  c_NOTE : ∃ u, mg "NOTE" = some u ∧ RelV (.str ":") u
  c_SMALL : ∃ u, mg "SMALL" = some u ∧ RelV (.str "abcdefghijklmnopqrstuvwxyz") u
  c_TOLD : ∃ u, mg "TOLD" = some u ∧ RelV (.str "told") u
  e_BadKind : ExcF K mg "BadKind"
  e_BadRule : ExcF K mg "BadRule"
  e_BadWay : ExcF K mg "BadWay"
  e_BadProgram : ExcF K mg "BadProgram"
  g_NotesError : mg "NotesError" = some (.ref (clsA mg "NotesError"))
  g_BadKind : mg "BadKind" = some (.ref (clsA mg "BadKind"))
  g_BadRule : mg "BadRule" = some (.ref (clsA mg "BadRule"))
  g_BadWay : mg "BadWay" = some (.ref (clsA mg "BadWay"))
  g_BadProgram : mg "BadProgram" = some (.ref (clsA mg "BadProgram"))
  g_UnknownSign : mg "UnknownSign" = some (.ref (clsA mg "UnknownSign"))
  g_NoWay : mg "NoWay" = some (.ref (clsA mg "NoWay"))
  g_Stock : mg "Stock" = some (.ref (clsA mg "Stock"))
  g_Table : mg "Table" = some (.ref (clsA mg "Table"))
  g_Book : mg "Book" = some (.ref (clsA mg "Book"))
  k_Stock : Cls K (clsA mg "Stock")
  f_Stock_shapes : Fd K (clsA mg "Stock") "shapes"
  f_Stock_above : Fd K (clsA mg "Stock") "above"
  k_Table : Cls K (clsA mg "Table")
  f_Table_stock : Fd K (clsA mg "Table") "stock"
  f_Table_rules : Fd K (clsA mg "Table") "rules"
  s_Table : PySem.W.noSeq K (clsA mg "Table") = true
  k_Book : Cls K (clsA mg "Book")
  f_Book_table : Fd K (clsA mg "Book") "table"
  f_Book_ways : Fd K (clsA mg "Book") "ways"
  s_Book : PySem.W.noSeq K (clsA mg "Book") = true
end Kn
set_option synthInstance.maxHeartbeats 0
set_option synthInstance.maxSize 100000
set_option Elab.async false
set_option maxRecDepth 100000
set_option linter.all false
namespace Kn
open PySem L2
local macro_rules | `(tactic| walk_at "wk") => `(tactic| repeat (first
  | refine ⟨_, rfl, ?_⟩
  | refine ⟨_, _, rfl, rfl, ?_⟩
  | refine ⟨⟨by decide, by decide⟩, ?_⟩
  | refine ⟨(by show (0 : Int) < _; decide), ?_⟩
  | refine ⟨Or.inl ⟨by omega, by omega⟩, ?_⟩
  | refine Or.inl ⟨_, rfl, ?_⟩
  | fail))
local macro_rules | `(tactic| walk_at "lits") => `(tactic| repeat (first
  | exact lit_nil
  | exact lit_str
  | exact lit_int
  | exact lit_non
  | refine lit_cons ?_ ?_
  | refine lit_tup ?_
  | fail))
local macro_rules | `(tactic| walk_at "d") => `(tactic| simp only [↓u_tdC, ↓u_tdOp, ↓u_tdNil, ↓u_tdCons, ↓u_tdTup, ↓u_tnLst, ↓u_tdFrz, ↓u_tdFrzK, ↓u_tkNew, ↓u_tdTest, ↓u_tdAnd, ↓u_tdOr, ↓u_tdNot, ↓u_tdYes, ↓u_tdAndV, ↓u_tdNotV, ↓u_tdCB, ↓u_tnCB, ↓u_tdNoPart, ↓u_tdPart, ↓u_tdSl, ↓u_tdRevT, ↓u_tdIsiT, ↓u_tdNext, ↓u_tdSeq, ↓u_tdDrop, ↓u_tdRet, ↓u_tdIfS, ↓u_gdName, ↓u_gdNil, ↓u_gdCons, ↓u_gdTup, ↓u_tdAsg, ↓u_tdAsgN, ↓u_tdAsgK, ↓u_tiAny, ↓u_tiRng1, ↓u_tiRng2, ↓u_tdFor, ↓u_tnLc, ↓u_tdCall, ↓u_tdRaise, ↓u_tdApp, ↓u_tdDPut, ↓u_tkDict, ↓u_tdForR, ↓u_tdFldC, ↓u_tdSetC, ↓u_tdMeth, ↓u_tdMakeR, ↓u_tdMakeF, ↓u_tdRaiseS, ↓u_tdTryAs, ↓u_tdTryN, ↓u_tdShK, ↓u_tdOGet, ↓u_tdOSet, ↓u_tdNeg, ↓u_tdGet2, ↓u_tdPopAt, ↓u_tdRg1, ↓u_tdTupRg, ↓u_tdForW, ↓u_tdMethK, ↓u_tnLc2, ↓u_tnLcW, ↓u_tdShN, ↓u_addF_i, ↓u_addF_s, ↓u_addF_t, ↓u_addF_l, ↓u_iiF, ↓u_mulF_i, ↓u_mulF_s, ↓u_inF_l, ↓u_inF_t, ↓u_inF_s, ↓u_inF_ds, ↓u_inF_di, ↓u_ixF_l, ↓u_ixF_t, ↓u_ixF_s, ↓u_ixF_di, ↓u_ixF_ds, ↓u_slF_l, ↓u_slF_t, ↓u_slF_s, ↓u_lenF_l, ↓u_lenF_t, ↓u_lenF_s, ↓u_lenF_d, ↓u_isiF, ↓u_isiD, ↓u_tupF_l, ↓u_tupF_t, ↓u_allF, ↓u_anyF, ↓u_sumF, ↓u_sortF, ↓u_intF_i, ↓u_intF_b, ↓u_walkF_l, ↓u_walkF_t, ↓u_walkF_s, ↓u_walkF_d, ↓u_arg1, ↓u_arg2, ↓u_frcL_n, ↓u_frcL_c, ↓u_addD, ↓u_iiD, ↓u_mulD, ↓u_eqD_f, ↓u_eqD_t, ↓u_inD_f, ↓u_inD_t, ↓u_ixD, ↓u_dd2, ↓u_isND_f, ↓u_isND_t, ↓u_fldF, ↓u_recF, ↓u_ofC, ↓u_turnD, ↓u_lstK_l, ↓u_lstK_t, ↓u_lstK_d, ↓u_turnD2, ↓u_mm2D, ↓u_refV, ↓u_getF, ↓u_popF, ↓u_dctW, ↓u_tvVar, ↓u_tvFld, ↓u_refD, ↓u_valV1, ↓b_Call, ↓b_opt, ↓b_dd1, ↓b_asB, ↓b_asI, ↓b_frc, ↓b_for, ↓b_comp, ↓b_ite, ↓b_while, ↓b_var, ↓b_aug, ↓b_mutL, ↓b_mutD, ↓b_retV, ↓b_deref, ↓b_dd1own, ↓b_mutO, ↓b_mutDO, ↓b_frcO, ↓b_comp2, ↓b_forL, ↓b_compL, ↓b_dctC, ↓b_ref, ↓b_forR, ↓b_insF, ↓b_insC, ↓b_exB, ↓o_opt, ↓o_asB, ↓o_asI, ↓o_non, ↓o_bl, ↓o_int, ↓o_str, ↓o_ty, ↓o_tup, ↓o_lst, ↓o_dct, ↓o_obj, ↓o_varV, ↓o_varL, ↓o_varD, ↓o_frc, ↓o_augI, ↓o_augS, ↓o_augL, ↓o_retV, ↓o_iteT, ↓o_iteF, ↓o_derefL, ↓o_derefD, ↓o_mutO, ↓o_mutDO, ↓o_frcL, ↓o_frcD, ↓o_frcV, ↓o_dctC, ↓o_ref, ↓o_derefR, ↓o_dd1R, ↓o_mutR, ↓o_derefK, ↓o_dd1K, ↓o_mutK, ↓o_putT, ↓o_insF, ↓o_insC, ↓o_derefI, ↓o_dd1I, ↓o_putS, ↓o_putP, look_c, look_n, putFd_c, putFd_n, ofS_eq, ↓reduceIte, eq_self, List.foldr_cons, List.foldr_nil, DEnds.un, PSt.unset, List.zip_cons_cons, List.zip_nil_left, List.zip_nil_right, List.reverse_cons, List.reverse_nil, exL, exK, exC, tysOf, tyN, isB, tyOk, isNn, PSt.set, S0, PSt.wipe, wipeR,
  List.map_cons, List.map_nil, List.length_cons, List.length_nil, List.replicate_succ, List.replicate_zero, List.cons_append, List.nil_append, List.set_cons_zero, List.set_cons_succ, List.getElem?_cons_zero, List.getElem?_cons_succ, List.getElem?_nil,
  Bool.not_true, Bool.not_false, bq_t, bq_f, Bool.not_not, Bool.false_eq_true, true_and, and_true, Nat.reduceAdd, Nat.reduceSub, Nat.reduceLeDiff, String.reduceEq, decide_true, decide_false, Bool.true_or, Bool.false_or, Bool.true_and, Bool.false_and, Bool.or_true, Bool.or_false, Bool.and_true, Bool.and_false, decide_eq_true_eq, List.mem_cons, List.not_mem_nil, or_true, true_or, or_false, false_or, List.any_cons, List.any_nil, List.all_cons, List.all_nil, Option.map_some, Option.map_none, Option.isSome_some, Option.isSome_none, eqOk_ii, eqOk_ss, eqOk_bb, eqOk_nn, eqOk_ns, eqOk_sn, eqOk_ni, eqOk_in, eqOk_si, eqOk_is, D.int.injEq, D.str.injEq, D.bl.injEq, reduceCtorEq, keyD, atI_0, atI_1, atI_2, atI_3, atI_4, cut1, ne_eq, not_true_eq_false, not_false_eq_true, Bool.not_eq_true', Bool.not_eq_false', decide_eq_false_iff_not])
local macro_rules | `(tactic| walk_at "z") => `(tactic| first
  | (apply z_seq; (focus walk_at "z"); (focus walk_at "z"))
  | (apply z_try; (focus (intro _ _ _; walk_at "z")); (focus (intro _ _ _; walk_at "z")); (focus walk_at "z"))
  | (apply z_tryN; (focus (intro _ _ _; walk_at "z")); (focus walk_at "z"); (focus walk_at "z"))
  | (apply z_cl; (focus (intro _ _ _; walk_at "z")); (focus walk_at "z"))
  | exact inferInstance
  | (apply z_if; (focus walk_at "z"); (focus walk_at "z"); (focus walk_at "z"))
  | (apply z_while; (focus walk_at "z"); (focus walk_at "z"))
  | (apply z_for; (focus walk_at "z"); (focus walk_at "z"); (focus walk_at "z")))
variable {P : Program} {w : World} {K : PySem.W.Frag} {mg : Str → Option Value} {base : Heap}
abbrev s__law_take : Stmt := top 63
abbrev N__law_take : List Str := ["_law_tape_here", "_law_many"]
abbrev P__law_take : List Str := ["_law_tape_here", "_law_many"]
theorem sc__law_take : FnScope N__law_take P__law_take (defScope s__law_take) := ⟨rfl, rfl, rfl, by decide +kernel, rfl, by decide +kernel, by decide +kernel⟩
theorem ok__law_take (F : Fz K mg "_law_take" s__law_take P__law_take) (T : Txt K mg) : Fx P w K mg base CX0 "_law_take" 1 P__law_take spTake := by
  refine F.ok sc__law_take (fun vs H Q E h => ?_) (fun f cdv A outer s H vs Q E hr h => ?_)
  · obtain ⟨t, m, rfl, _⟩ := h
    rfl
  · obtain ⟨t, m, rfl, ⟨ns, ht⟩, hm, k⟩ := h
    refine ⟨_, (pss_cons (ps_if (pt_cmpR op_eq (pe_callB (call_len_seqK K) (by rfl) T.b_len PySem.boot_len (pa_cons (pv 0) pa_nil)) pe_int (nomark _)) (pss_one (ps_ret pe_int)) pss_nil)
      (pss_one (ps_ret (pe_op op_mod (pe_callTy call_int1 (by rfl) T.b_int (by decide +kernel) (pa_cons (pe_bmK K PySem.F.plainAttrs_list PySem.F.slot_list_pop PySem.F.type_list_pop mt_popAt (pv 0) (pa_cons pe_int pa_nil)) pa_nil)) (pv 1))))), ?_⟩
    refine ⟨_, rfl, t, _, rfl, .inl (SqL.of ht), rfl, _, rfl, ?_⟩
    refine ite2 (fun c => ?_) (fun c => ?_)
    · exact k 0 H (Int.le_refl _) hm (Dr.refl ⟨ns, ht⟩)
    · cases ns with
      | nil => exact (c rfl).elim
      | cons n ns =>
        refine ⟨_, rfl, .inl ⟨rfl, _, SqL.of ht⟩, t, _, 0, 0, _, rfl, rfl, ht, by decide, by decide, by simp [seqIndex?], rfl, .inl ⟨n, rfl, ?_⟩⟩
        refine ⟨_, rfl, n, m, rfl, rfl, hm, ?_⟩
        exact k (n % m) _ (Int.emod_nonneg _ (by omega)) (Int.emod_lt_of_pos _ hm) (Dr.put ns)
abbrev s__law_cell : Stmt := top 61
abbrev N__law_cell : List Str := ["_law_script", "_law_k"]
abbrev P__law_cell : List Str := ["_law_script", "_law_k"]
theorem sc__law_cell : FnScope N__law_cell P__law_cell (defScope s__law_cell) := ⟨rfl, rfl, rfl, by decide +kernel, rfl, by decide +kernel, by decide +kernel⟩
def spCell (K : PySem.W.Frag) : Sp := fun vs H Q _ => ∃ (a : Addr) (k : Int) (ns : List Int), vs = [.ref a, .int k] ∧ SqL K H a (ns.map V.int) ∧ 0 ≤ k ∧ ∀ z, Q (.int z) H
theorem ok__law_cell (F : Fz K mg "_law_cell" s__law_cell P__law_cell) (T : Txt K mg) : Fx P w K mg base CX0 "_law_cell" 1 P__law_cell (spCell K) := by
  refine F.ok sc__law_cell (fun vs H Q E h => ?_) (fun f cdv A outer s H vs Q E hr h => ?_)
  · obtain ⟨a, i, ns, rfl, _⟩ := h
    rfl
  · obtain ⟨a, i, ns, rfl, hs, hi, k⟩ := h
    refine ⟨_, (pss_cons (ps_if (pt_cmpR op_lt (pv 1) (pe_callB (call_len_seqK K) (by rfl) T.b_len PySem.boot_len (pa_cons (pv 0) pa_nil)) (nomark _)) (pss_one (ps_ret (pe_ix (ix_listK K) (pv 0) (pv 1) (fun _ _ => rfl)))) pss_nil)
      (pss_one (ps_ret pe_int))), ?_⟩
    refine ⟨_, rfl, _, rfl, a, _, rfl, .inl hs, _, _, rfl, rfl, _, rfl, ?_⟩
    refine ite2 (fun c => ?_) (fun c => ?_)
    · have c := of_decide_eq_true c
      rw [List.length_map] at c
      have hj : i.toNat < ns.length := by omega
      refine ⟨_, rfl, _, rfl, a, _, i, V.int ns[i.toNat], rfl, rfl, hs, at_of (j := i.toNat) (by omega) (by simp [hj]), k _⟩
    · exact k _
abbrev s__law_tape : Stmt := top 62
abbrev N__law_tape : List Str := ["_law_script", "_law_k", "_law_size", "_law_cell_here", "_law_left", "_law_tape_here", "_law_j", "_law_mixed"]
abbrev P__law_tape : List Str := ["_law_script", "_law_k", "_law_size"]
theorem sc__law_tape : FnScope N__law_tape P__law_tape (defScope s__law_tape) := ⟨rfl, rfl, rfl, by decide +kernel, rfl, by decide +kernel, by decide +kernel⟩
def spTape (K : PySem.W.Frag) : Sp := fun vs H Q _ => ∃ (a : Addr) (k n : Int) (ns : List Int), vs = [.ref a, .int k, .int n] ∧ SqL K H a (ns.map V.int) ∧ 0 ≤ k ∧ 0 ≤ n ∧ n ≤ 1000 ∧
  ∀ (t : Addr) (H' : Hp), H t = none → Same H H' → Tape H' t → Q (.ref t) H'
theorem ok__law_tape (F : Fz K mg "_law_tape" s__law_tape P__law_tape) (T : Txt K mg) (G__law_cell : Fx P w K mg base CX0 "_law_cell" 1 P__law_cell (spCell K)) : Fx P w K mg base CX0 "_law_tape" 2 P__law_tape (spTape K) := by
  refine F.ok sc__law_tape (fun vs H Q E h => ?_) (fun f cdv A outer s H vs Q E hr h => ?_)
  · obtain ⟨a, i, n, ns, rfl, _⟩ := h
    rfl
  · obtain ⟨a, i, n, ns, rfl, hs, hi, hn0, hn, k⟩ := h
    refine ⟨_, (pss_cons (ps_set (i := 3) sc__law_tape.nd rfl (Or.inl rfl) (fcall G__law_cell (hr.mono (by first | decide | omega)) (by rfl) (pa_cons (pv 0) (pa_cons (pv 1) pa_nil))))
      (pss_cons (ps_set (i := 4) sc__law_tape.nd rfl (Or.inl rfl) (pv 3))
      (pss_cons (ps_set (i := 5) sc__law_tape.nd rfl (Or.inl rfl) (pe_lst pa_nil))
      (pss_cons (ps_for PassesOwn.never rfl (pi_range1 (by rfl) T.b_range (pa_cons (pv 2) pa_nil)) (pg_name (i := 6) sc__law_tape.nd rfl (Or.inl rfl)) (pss_one (ps_if (PW.pt (pw_and (pt_cmpR op_ge (pv 3) (pe_op op_pow pe_int pe_int) (nomark _)) (pw_and1 (pt_cmpR op_gt (pv 4) pe_int (nomark _))))) (pss_cons (ps_expr (pe_bmK K PySem.F.plainAttrs_list PySem.F.slot_list_append PySem.F.type_list_append mt_append (pv 5) (pa_cons (pe_op op_mod (pe_callTy call_int1 (by rfl) T.b_int (by decide +kernel) (pa_cons (pv 4) pa_nil)) pe_int) pa_nil)))
      (pss_one (ps_set (i := 4) sc__law_tape.nd rfl (Or.inl rfl) (pe_op op_fdiv (pv 4) pe_int)))) (pss_cons (ps_set (i := 7) sc__law_tape.nd rfl (Or.inl rfl) (pe_op op_mod (pe_callTy call_int1 (by rfl) T.b_int (by decide +kernel) (pa_cons (pe_op op_add (pe_op op_mul (pe_op op_mod (pe_callTy call_int1 (by rfl) T.b_int (by decide +kernel) (pa_cons (pv 3) pa_nil)) pe_int) (pe_op op_add pe_int (pe_op op_mul pe_int (pv 6)))) (pe_op op_mul pe_int (pv 6))) pa_nil)) pe_int))
      (pss_one (ps_expr (pe_bmK K PySem.F.plainAttrs_list PySem.F.slot_list_append PySem.F.type_list_append mt_append (pv 5) (pa_cons (pe_op op_add (pv 7) (pe_op op_fdiv (pv 7) pe_int)) pa_nil))))))))
      (pss_one (ps_ret (pv 5))))))), ?_⟩
    refine ⟨_, rfl, _, rfl, a, i, ns, rfl, hs, hi, fun z => ?_⟩
    refine ⟨_, rfl, (by show 0 ≤ sizeLine; decide), fun t ht => ?_⟩
    refine ⟨_, rfl, n, rfl, by omega, by omega, ?_⟩
    refine for_range (n := n.toNat) (fun j σ H2 => ∃ (l : Int) (v6 v7 : Option V) (ms : List Int), σ = [some (.ref a), some (.int i), some (.int n), some (.int z), some (.int l), some (.ref t), v6, v7] ∧ H2 t = some (.lst (ms.map V.int)) ∧ ms.length = j ∧ ∀ b o, H b = some o → H2 b = some o) ?_ ?_ ?_
    · exact ⟨z, _, _, [], rfl, upd_same, rfl, fun b o e => by rw [upd_ne (ne_of_none e ht)]; exact e⟩
    · rintro j σ H2 hj ⟨l, v6, v7, ms, rfl, h2, hl, kp⟩
      have step : ∀ (x : Int) (l' : Int) (v6' v7' : Option V), ∃ (l : Int) (v6 v7 : Option V) (ms' : List Int), [some (V.ref a), some (V.int i), some (V.int n), some (V.int z), some (V.int l'), some (V.ref t), v6', v7'] = [some (V.ref a), some (.int i), some (.int n), some (.int z), some (.int l), some (.ref t), v6, v7] ∧ (upd H2 t (.lst (ms.map V.int ++ [V.int x]))) t = some (.lst (ms'.map V.int)) ∧ ms'.length = j + 1 ∧ ∀ b o, H b = some o → (upd H2 t (.lst (ms.map V.int ++ [V.int x]))) b = some o := fun x l' v6' v7' =>
        ⟨l', v6', v7', ms ++ [x], rfl, by rw [upd_same]; simp, by simp [hl], fun b o e => by rw [upd_ne (ne_of_none e ht)]; exact kp b o e⟩
      have hp : (10 : Int) ^ (18 : Int).toNat = 1000000000000000000 := by decide
      have app : ∀ (x : Int) (l' : Int) (v6' v7' : Option V), (ms.map V.int).length < sizeLine := fun _ _ _ _ => small1000 (by rw [List.length_map]; omega)
      have hm : 0 ≤ z % 9973 ∧ z % 9973 < 9973 := ⟨Int.emod_nonneg _ (by decide), Int.emod_lt_of_pos _ (by decide)⟩
      refine ⟨_, rfl, _, _, rfl, rfl, ⟨by decide, by decide, by decide⟩, _, _, rfl, rfl, _, rfl, ?_⟩
      refine ite2 (fun c => ?_) (fun c => ?_)
      · refine ⟨_, rfl, _, _, rfl, rfl, _, rfl, ?_⟩
        refine ite2 (fun c2 => ?_) (fun c2 => ?_)
        · refine ⟨_, rfl, .inl ⟨rfl, _, SqL.of h2⟩, _, rfl, .inl ⟨l, rfl, ?_⟩⟩
          refine ⟨_, _, rfl, rfl, (by show (0 : Int) < 5040; decide), t, _, _, rfl, rfl, h2, app 0 0 none none, ?_⟩
          refine ⟨_, rfl, _, _, rfl, rfl, ⟨by decide, by decide⟩, ?_⟩
          exact step _ _ _ _
        · walk_at "wk"
          refine ⟨.inl ⟨rfl, _, SqL.of h2⟩, ?_⟩
          walk_at "wk"
          exact ⟨t, _, _, rfl, rfl, h2, app 0 0 none none, step _ _ _ _⟩
      · walk_at "wk"
        refine ⟨.inl ⟨rfl, _, SqL.of h2⟩, ?_⟩
        walk_at "wk"
        exact ⟨t, _, _, rfl, rfl, h2, app 0 0 none none, step _ _ _ _⟩
    · rintro σ H2 ⟨l, v6, v7, ms, rfl, h2, hl, kp⟩
      exact ⟨_, rfl, k t H2 ht kp ⟨ms, h2⟩⟩
theorem okD__law_take (F : Fz K mg "_law_take" s__law_take P__law_take) (T : Txt K mg) : Fx P w K mg base (L2.CX P w) "_law_take" 1 P__law_take (lift K F_take) := (ok__law_take (P := P) (w := w) (base := base) F T).toX.imp fun _ _ _ _ h => take_lift h
theorem okD__law_tape (F : Fz K mg "_law_tape" s__law_tape P__law_tape) (T : Txt K mg) (G : Fx P w K mg base CX0 "_law_cell" 1 P__law_cell (spCell K)) : Fx P w K mg base (L2.CX P w) "_law_tape" 2 P__law_tape (lift K F_tape) := (ok__law_tape F T G).toX.imp fun _ _ _ _ h => tape_lift h
def SMALLc : List Nat := [97, 98, 99, 100, 101, 102, 103, 104, 105, 106, 107, 108, 109, 110, 111, 112, 113, 114, 115, 116, 117, 118, 119, 120, 121, 122]
def LARGEc : List Nat := [65, 66, 67, 68, 69, 70, 71, 72, 73, 74, 75, 76, 77, 78, 79, 80, 81, 82, 83, 84, 85, 86, 87, 88, 89, 90]
theorem small_c : (Str.ofString "abcdefghijklmnopqrstuvwxyz").cps.toList = SMALLc := by decide +kernel
theorem large_c : (Str.ofString "ABCDEFGHIJKLMNOPQRSTUVWXYZ").cps.toList = LARGEc := by decide +kernel
def isWord (x : Str) : Bool := decide (1 ≤ x.length) && decide (x.length ≤ 12) && x.cps.toList.all fun c => decide (c ∈ SMALLc)
def isLetter (x : Str) : Bool := decide (x.length = 1) && x.cps.toList.all fun c => decide (c ∈ LARGEc)
def isWordD : D → Bool
  | .str x => isWord x
  | _ => false
def isLetterD : D → Bool
  | .str x => isLetter x
  | _ => false
mutual
def fitD : D → Bool
  | .str x => decide (x.length ≤ 1000)
  | .tup ds => decide (ds.length ≤ 1000) && fitL ds
  | .non => true
  | .bl _ => true
  | .int _ => true
  | _ => false
def fitL : List D → Bool
  | [] => true
  | d :: ds => fitD d && fitL ds
end
mutual
def isFormD : D → Bool
  | .str x => isLetter x
  | .tup ds => match ds with
    | [] => false
    | d :: ds => decide (ds.length ≤ 3) && isWordD d && isFormsD ds
  | _ => false
def isFormsD : List D → Bool
  | [] => true
  | d :: ds => isFormD d && isFormsD ds
end
theorem isFormsD_all : ∀ ds : List D, isFormsD ds = ds.all isFormD
  | [] => by rw [isFormsD]; rfl
  | d :: ds => by rw [isFormsD, isFormsD_all ds]; rfl
theorem fitL_mem : ∀ {ds : List D}, fitL ds = true → ∀ d ∈ ds, fitD d = true
  | e :: ds, h, d, hd => by
    rw [fitL, Bool.and_eq_true] at h
    rcases List.mem_cons.mp hd with rfl | hd
    · exact h.1
    · exact fitL_mem h.2 d hd
theorem fitL_of : ∀ {ds : List D}, (∀ d ∈ ds, fitD d = true) → fitL ds = true
  | [], _ => by rw [fitL]
  | e :: ds, h => by rw [fitL, h e (by simp), fitL_of fun d hd => h d (by simp [hd])]; rfl
theorem dpL_mem : ∀ {ds : List D} {d : D}, d ∈ ds → dpD d ≤ dpL ds
  | e :: ds, d, h => by
    rw [dpL]
    rcases List.mem_cons.mp h with rfl | h
    · omega
    · have := dpL_mem h; omega
theorem dpL_le {n : Nat} : ∀ {ds : List D}, (∀ d ∈ ds, dpD d ≤ n) → dpL ds ≤ n
  | [], _ => by rw [dpL]; omega
  | e :: ds, h => by
    rw [dpL]
    have := h e (by simp)
    have := dpL_le (n := n) (ds := ds) fun d hd => h d (by simp [hd])
    omega
abbrev s_is_word : Stmt := top 15
abbrev N_is_word : List Str := ["value", "char"]
abbrev P_is_word : List Str := ["value"]
theorem sc_is_word : FnScope N_is_word P_is_word (defScope s_is_word) := ⟨rfl, rfl, rfl, by decide +kernel, rfl, by decide +kernel, by decide +kernel⟩
def F_is_word : FSpec := fun ds W Q _ => ∃ d, ds = [d] ∧ fitD d = true ∧ Q (.bl (isWordD d)) W
theorem ok_is_word (F : Fz K mg "is_word" s_is_word P_is_word) (T : Txt K mg) : Fx P w K mg base (L2.CX P w) "is_word" 1 P_is_word (lift K F_is_word) := by
  refine F.okD sc_is_word (fun ds W Q E h => ?_) (fun f cdv A outer s H E e ds Qd Ed hr lk h => ?_)
  · obtain ⟨d, rfl, _⟩ := h
    rfl
  · obtain ⟨d, rfl, hf, k⟩ := h
    refine ⟨_, _, (pss_cons (ps_if (PW.pt (pw_or (pt_not (pt_val (pe_callB (call_isi1K K) (by rfl) T.b_isinstance (by decide +kernel) (pa_cons (pv 0) (pa_cons (pe_bltn (v := .ty "str") (by rfl) T.b_str (by decide +kernel) rfl) pa_nil))))) (pw_or (pt_cmpR op_ltU (pe_callB (call_lenU K) (by rfl) T.b_len PySem.boot_len (pa_cons (pv 0) pa_nil)) pe_int (nomark _)) (pw_or1 (pt_cmpR op_gtU (pe_callB (call_lenU K) (by rfl) T.b_len PySem.boot_len (pa_cons (pv 0) pa_nil)) (pglob rfl T.c_LONGEST_WORD) (nomark _)))))) (pss_one (ps_ret pe_bl)) pss_nil)
      (pss_one (ps_ret (pe_callB (cr_allK K rfl) (by rfl) T.b_all (by decide +kernel) (pa_cons (pe_lc (own := [("char", 1)]) (g := (gName 1)) (tt := tYes) rfl sc_is_word.nd (pi_any K (pv 0)) (blkOk_by (own := [("char", 1)]) (N := N_is_word) (sc := defScope s_is_word) (by decide +kernel)) (fun _ _ _ _ _ => (pg_name (i := 1) sc_is_word.nd rfl (by first | exact Or.inl rfl | exact Or.inr rfl))) (fun _ _ _ _ _ => pts_nil) (fun _ _ _ _ _ => (pe_cmpR (op_inU K (hu65_of hr)) (pv 1) (pglob rfl T.c_SMALL) (by rfl)))) pa_nil))))), inferInstance, ?_⟩
    cases d with
    | str x =>
      have hx : x.length ≤ 1000000 := by rw [fitD] at hf; have := of_decide_eq_true hf; omega
      have k : Qd (.bl (isWord x)) e.W := k
      have hs : (signs x) = x.cps.toList.map fun c => D.str ⟨#[c]⟩ := rfl
      unfold isWord at k
      walk_at "d"
      refine ⟨hx, ?_⟩
      refine iteB_by (fun c => ?_) (fun c => ?_)
      · walk_at "d"
        rw [decide_eq_false (show ¬ 1 ≤ x.length by omega)] at k; exact k
      · walk_at "d"
        refine ⟨hx, ?_⟩
        refine iteB_by (fun c2 => ?_) (fun c2 => ?_)
        · walk_at "d"
          rw [decide_eq_false (show ¬ x.length ≤ 12 by omega), Bool.and_false] at k; exact k
        · walk_at "d"
          rw [decide_eq_true (show 1 ≤ x.length by omega), decide_eq_true (show x.length ≤ 12 by omega)] at k
          rw [hs]
          refine comp_map _ (fun c => .bl (decide (c ∈ SMALLc))) _ (by simp; exact hx) (fun c hc N M hn => ?_) ?_
          · walk_at "d"
            rw [strIn_sign, small_c]
            exact hn
          · walk_at "d"
            rw [bls_mapF]
            walk_at "d"
            rw [List.all_map]
            exact k
    | non => walk_at "d"; exact k
    | bl b => walk_at "d"; exact k
    | int b => walk_at "d"; exact k
    | tup b => walk_at "d"; exact k
    | _ => simp [fitD] at hf
abbrev s_is_letter : Stmt := top 16
abbrev N_is_letter : List Str := ["value"]
abbrev P_is_letter : List Str := ["value"]
theorem sc_is_letter : FnScope N_is_letter P_is_letter (defScope s_is_letter) := ⟨rfl, rfl, rfl, by decide +kernel, rfl, by decide +kernel, by decide +kernel⟩
def F_is_letter : FSpec := fun ds W Q _ => ∃ d, ds = [d] ∧ fitD d = true ∧ Q (.bl (isLetterD d)) W
theorem strIn_one {x z : Str} (h : x.length = 1) : strIn x z = x.cps.toList.all fun c => decide (c ∈ z.cps.toList) := by
  obtain ⟨a⟩ := x
  match a, h with
  | ⟨[c]⟩, _ => rw [show (⟨⟨[c]⟩⟩ : Str) = ⟨#[c]⟩ from rfl, strIn_sign]; simp
theorem ok_is_letter (F : Fz K mg "is_letter" s_is_letter P_is_letter) (T : Txt K mg) : Fx P w K mg base (L2.CX P w) "is_letter" 1 P_is_letter (lift K F_is_letter) := by
  refine F.okD sc_is_letter (fun ds W Q E h => ?_) (fun f cdv A outer s H E e ds Qd Ed hr lk h => ?_)
  · obtain ⟨d, rfl, _⟩ := h
    rfl
  · obtain ⟨d, rfl, hf, k⟩ := h
    refine ⟨_, _, (pss_one (ps_ret (pe_and (pe_callB (call_isi1K K) (by rfl) T.b_isinstance (by decide +kernel) (pa_cons (pv 0) (pa_cons (pe_bltn (v := .ty "str") (by rfl) T.b_str (by decide +kernel) rfl) pa_nil))) (pe_and (pe_cmpR (op_eqU K hr.units) (pe_callB (call_lenU K) (by rfl) T.b_len PySem.boot_len (pa_cons (pv 0) pa_nil)) pe_int (nomark _)) (pe_one (pe_cmpR (op_inU K (hu65_of hr)) (pv 0) (pglob rfl T.c_LARGE) (by rfl))))))), inferInstance, ?_⟩
    cases d with
    | str x =>
      have hx : x.length ≤ 1000000 := by rw [fitD] at hf; have := of_decide_eq_true hf; omega
      have k : Qd (.bl (isLetter x)) e.W := k
      unfold isLetter at k
      walk_at "d"
      refine ⟨hx, ?_⟩
      refine iteB_by (fun c => ?_) (fun c => ?_)
      · walk_at "d"
        rw [strIn_one (by omega), large_c]
        rw [decide_eq_true (show x.length = 1 by omega), Bool.true_and] at k
        exact k
      · walk_at "d"
        rw [decide_eq_false (show ¬ x.length = 1 by omega)] at k
        exact k
    | non => walk_at "d"; exact k
    | bl b => walk_at "d"; exact k
    | int b => walk_at "d"; exact k
    | tup b => walk_at "d"; exact k
    | _ => simp [fitD] at hf
abbrev s_is_form : Stmt := top 17
abbrev N_is_form : List Str := ["value", "part"]
abbrev P_is_form : List Str := ["value"]
theorem sc_is_form : FnScope N_is_form P_is_form (defScope s_is_form) := ⟨rfl, rfl, rfl, by decide +kernel, rfl, by decide +kernel, by decide +kernel⟩
def F_is_form (n : Nat) : FSpec := fun ds W Q _ => ∃ d, ds = [d] ∧ fitD d = true ∧ dpD d < n ∧ Q (.bl (isFormD d)) W
theorem ok_is_form (F : Fz K mg "is_form" s_is_form P_is_form) (T : Txt K mg) (G_is_word : Fx P w K mg base (L2.CX P w) "is_word" 1 P_is_word (lift K F_is_word)) (G_is_letter : Fx P w K mg base (L2.CX P w) "is_letter" 1 P_is_letter (lift K F_is_letter)) : ∀ n, Fx P w K mg base (L2.CX P w) "is_form" (n + 2) P_is_form (lift K (F_is_form n))
  | 0 => F.noneD fun ds W Q E ⟨d, _, _, z, _⟩ => by omega
  | n + 1 => by
    have G_is_form := ok_is_form F T G_is_word G_is_letter n
    refine F.okD sc_is_form (fun ds W Q E h => ?_) (fun f cdv A outer s H E e ds Qd Ed hr lk h => ?_)
    · obtain ⟨d, rfl, _⟩ := h
      rfl
    · obtain ⟨d, rfl, hf, hd, k⟩ := h
      refine ⟨_, _, (pss_cons (ps_if (pt_val (fcallX (takes_of rfl rfl rfl rfl) G_is_letter (hr.mono (by first | decide | omega)) (by rfl) (pa_cons (pv 0) pa_nil))) (pss_one (ps_ret pe_bl)) pss_nil)
      (pss_cons (ps_if (PW.pt (pw_or (pt_not (pt_val (pe_callB (call_isi1K K) (by rfl) T.b_isinstance (by decide +kernel) (pa_cons (pv 0) (pa_cons (pe_bltn (v := .ty "tuple") (by rfl) T.b_tuple (by decide +kernel) rfl) pa_nil))))) (pw_or (pt_cmpR op_ltU (pe_callB (call_lenU K) (by rfl) T.b_len PySem.boot_len (pa_cons (pv 0) pa_nil)) pe_int (nomark _)) (pw_or1 (pt_cmpR op_gtU (pe_callB (call_lenU K) (by rfl) T.b_len PySem.boot_len (pa_cons (pv 0) pa_nil)) (pe_op (op_addU K) (pglob rfl T.c_MOST_PARTS) pe_int) (nomark _)))))) (pss_one (ps_ret pe_bl)) pss_nil)
      (pss_one (ps_ret (pe_and (fcallX (takes_of rfl rfl rfl rfl) G_is_word (hr.mono (by first | decide | omega)) (by rfl) (pa_cons (pe_ix (ix_U K (hu_of hr)) (pv 0) pe_int (fun _ _ => rfl)) pa_nil)) (pe_one (pe_callB (cr_allK K rfl) (by rfl) T.b_all (by decide +kernel) (pa_cons (pe_lc (own := [("part", 1)]) (g := (gName 1)) (tt := tYes) rfl sc_is_form.nd (pi_any K (pe_slice (sl_U K) (pv 0) (po_some pe_int) po_none)) (blkOk_by (own := [("part", 1)]) (N := N_is_form) (sc := defScope s_is_form) (by decide +kernel)) (fun _ _ _ _ _ => (pg_name (i := 1) sc_is_form.nd rfl (by first | exact Or.inl rfl | exact Or.inr rfl))) (fun _ _ _ _ _ => pts_nil) (fun _ _ _ _ _ => (fcallX takes0 G_is_form (hr.mono (by first | decide | omega)) (by rfl) (pa_cons (pv 1) pa_nil)))) pa_nil)))))))), inferInstance, ?_⟩
      walk_at "d"
      refine ⟨d, rfl, hf, ?_⟩
      cases d with
      | str x =>
        rw [isFormD] at k
        rw [isLetterD]
        cases hx : isLetter x with
        | true =>
          rw [hx] at k
          walk_at "d"
          exact k
        | false =>
          rw [hx] at k
          walk_at "d"
          exact k
      | non => rw [show isLetterD .non = false from rfl]; walk_at "d"; exact k
      | bl b => rw [show isLetterD (.bl b) = false from rfl]; walk_at "d"; exact k
      | int b => rw [show isLetterD (.int b) = false from rfl]; walk_at "d"; exact k
      | tup ds =>
        rw [fitD, Bool.and_eq_true] at hf
        have hl := of_decide_eq_true hf.1
        have e0 : isLetterD (.tup ds) = false := rfl
        rw [e0]
        cases ds with
        | nil =>
          walk_at "d"
          exact k
        | cons d0 ds =>
          rw [fitL, Bool.and_eq_true] at hf
          rw [dpD] at hd
          have k : Qd (.bl (decide (ds.length ≤ 3) && isWordD d0 && isFormsD ds)) e.W := by rw [isFormD] at k; exact k
          walk_at "d"
          refine iteB_F (by omega) ?_
          walk_at "d"
          refine iteB_by (fun c => ?_) (fun c => ?_)
          · walk_at "d"
            rw [decide_eq_false (show ¬ ds.length ≤ 3 by omega)] at k
            exact k
          · walk_at "d"
            rw [decide_eq_true (show ds.length ≤ 3 by omega), Bool.true_and] at k
            refine ⟨d0, rfl, hf.2.1, ?_⟩
            cases cw : isWordD d0 with
            | false => walk_at "d"; rw [cw] at k; exact k
            | true =>
              rw [cw, Bool.true_and, isFormsD_all] at k
              walk_at "d"
              refine comp_lst (fun d => .bl (isFormD d)) (by simp; omega) (fun d hd' N M hn => ?_) ?_
              · walk_at "d"
                refine ⟨d, rfl, fitL_mem hf.2.2 d hd', ?_, hn⟩
                have := dpL_mem (List.mem_cons_of_mem d0 hd')
                omega
              · walk_at "d"
                rw [bls_mapF]
                walk_at "d"
                rw [List.all_map]
                exact k
      | _ => simp [fitD] at hf
theorem repS_list (x : Str) (n : Nat) : (repS x n).cps.toList = (List.replicate n x.cps.toList).flatten := by unfold repS; simp
theorem repS_len (x : Str) (n : Nat) : (repS x n).length = n * x.length := by
  show ((List.replicate n x.cps.toList).flatten).toArray.size = _
  rw [List.size_toArray, List.length_flatten, List.map_replicate, List.sum_replicate_nat]
  rfl
theorem repS_mem {x : Str} {n c : Nat} (h : c ∈ (repS x n).cps.toList) : c ∈ x.cps.toList := by
  rw [repS_list, List.mem_flatten] at h
  obtain ⟨l, hl, hc⟩ := h
  rw [List.eq_of_mem_replicate hl] at hc
  exact hc
theorem toList_app (a b : Str) : (a ++ b).cps.toList = a.cps.toList ++ b.cps.toList := by
  show (a.cps ++ b.cps).toList = _
  simp
theorem len_app (a b : Str) : (a ++ b).length = a.length + b.length := by
  show (a.cps ++ b.cps).size = _
  simp; rfl
def ownS (st k : Nat) : Str := ⟨#[SMALLc.getD ((st + k) % 26) 0]⟩
def wordAt (b : Bool) (fi lo : Str) (st k : Nat) : Str := if b then (ownS st k ++ fi) ++ repS lo k else (fi ++ repS lo k) ++ ownS st k
def smS (n : Nat) (x : Str) : Prop := x.length ≤ n ∧ ∀ c ∈ x.cps.toList, c ∈ SMALLc
theorem smS_one {c : Nat} (h : c ∈ SMALLc) : smS 1 ⟨#[c]⟩ := ⟨by show 1 ≤ 1; omega, fun d hd => by
  have : d = c := by simpa using hd
  rw [this]; exact h⟩
theorem smS_rep {m : Nat} {x : Str} (h : smS m x) (n : Nat) : smS (n * m) (repS x n) := ⟨by rw [repS_len]; exact Nat.mul_le_mul_left n h.1, fun c hc => h.2 c (repS_mem hc)⟩
theorem smS_app {m n : Nat} {x y : Str} (h : smS m x) (k : smS n y) : smS (m + n) (x ++ y) := by
  refine ⟨by rw [len_app]; exact Nat.add_le_add h.1 k.1, fun c hc => ?_⟩
  rw [toList_app] at hc
  rcases List.mem_append.mp hc with hc | hc
  · exact h.2 c hc
  · exact k.2 c hc
theorem smS_mono {m n : Nat} {x : Str} (h : smS m x) (k : m ≤ n) : smS n x := ⟨Nat.le_trans h.1 k, h.2⟩
theorem small_at {i : Nat} (h : i < 26) : SMALLc[i]? = some (SMALLc.getD i 0) := by
  have : i < SMALLc.length := h
  rw [List.getD_eq_getElem?_getD, List.getElem?_eq_getElem this]; rfl
theorem own_sm (st k : Nat) : smS 1 (ownS st k) := smS_one (List.mem_of_getElem? (small_at (Nat.mod_lt _ (by decide))))
theorem word_sm {b : Bool} {fi lo : Str} {st k : Nat} (h1 : smS 3 fi) (h2 : smS 1 lo) : smS (4 + k) (wordAt b fi lo st k) := by
  unfold wordAt
  have hr := smS_rep h2 k
  cases b
  · exact smS_mono (smS_app (smS_app h1 hr) (own_sm st k)) (by omega)
  · exact smS_mono (smS_app (smS_app (own_sm st k) h1) hr) (by omega)
theorem word_is {b : Bool} {fi lo : Str} {st k : Nat} (h1 : smS 3 fi) (h2 : smS 1 lo) (hk : k ≤ 8) : isWord (wordAt b fi lo st k) = true := by
  have h := word_sm (b := b) (st := st) (k := k) h1 h2
  have hl : 1 ≤ (wordAt b fi lo st k).length := by
    have e : (ownS st k).length = 1 := rfl
    unfold wordAt
    cases b
    · show 1 ≤ ((fi ++ repS lo k) ++ ownS st k).length
      rw [len_app, e]; omega
    · show 1 ≤ ((ownS st k ++ fi) ++ repS lo k).length
      rw [len_app, len_app, e]; omega
  unfold isWord
  rw [decide_eq_true hl, decide_eq_true (show (wordAt b fi lo st k).length ≤ 12 by have := h.1; omega), Bool.true_and, Bool.true_and, List.all_eq_true]
  exact fun c hc => decide_eq_true (h.2 c hc)
theorem small_inj : ∀ i ∈ List.range 26, ∀ j ∈ List.range 26, SMALLc.getD i 0 = SMALLc.getD j 0 → i = j := by decide +kernel
theorem own_inj {st i j : Nat} (hi : i < 26) (hj : j < 26) (h : SMALLc.getD ((st + i) % 26) 0 = SMALLc.getD ((st + j) % 26) 0) : i = j := by
  have := small_inj _ (List.mem_range.mpr (Nat.mod_lt (st + i) (by decide))) _ (List.mem_range.mpr (Nat.mod_lt (st + j) (by decide))) h
  omega
theorem word_inj {b : Bool} {fi lo : Str} {st i j : Nat} (hi : i < 26) (hj : j < 26) (h : wordAt b fi lo st i = wordAt b fi lo st j) : i = j := by
  have h := congrArg (fun x : Str => x.cps.toList) h
  have eo : ∀ k, (ownS st k).cps.toList = [SMALLc.getD ((st + k) % 26) 0] := fun k => rfl
  unfold wordAt at h
  cases b
  · have h : ((fi ++ repS lo i) ++ ownS st i).cps.toList = ((fi ++ repS lo j) ++ ownS st j).cps.toList := h
    simp only [toList_app, eo] at h
    have := congrArg List.getLast? h
    rw [List.getLast?_concat, List.getLast?_concat] at this
    exact own_inj hi hj (Option.some.inj this)
  · have h : ((ownS st i ++ fi) ++ repS lo i).cps.toList = ((ownS st j ++ fi) ++ repS lo j).cps.toList := h
    simp only [toList_app, eo] at h
    simp only [List.singleton_append, List.cons_append] at h
    injection h with h _
    exact own_inj hi hj h
def wordsOf (b : Bool) (fi lo : Str) (st n : Nat) : List Str := (List.range n).map (wordAt b fi lo st)
structure Words (n : Nat) (ws : List Str) : Prop where
  len : ws.length = n
  word : ∀ x ∈ ws, isWord x = true
  nodup : ws.Nodup
  short : ∀ x ∈ ws, x.length ≤ n + 3
theorem words_of {b : Bool} {fi lo : Str} {st n : Nat} (h1 : smS 3 fi) (h2 : smS 1 lo) (hn : n ≤ 9) : Words n (wordsOf b fi lo st n) := by
  refine ⟨by simp [wordsOf], fun x hx => ?_, ?_, fun x hx => ?_⟩
  · obtain ⟨k, hk, rfl⟩ := List.mem_map.mp hx
    have := List.mem_range.mp hk
    exact word_is h1 h2 (by omega)
  · unfold wordsOf
    refine List.Pairwise.map _ (fun i j h => ?_) (List.Pairwise.and_mem.mp (List.nodup_range (n := n)))
    obtain ⟨hi, hj, hne⟩ := h
    have := List.mem_range.mp hi
    have := List.mem_range.mp hj
    exact fun e => hne (word_inj (by omega) (by omega) e)
  · obtain ⟨k, hk, rfl⟩ := List.mem_map.mp hx
    have := List.mem_range.mp hk
    have := (word_sm (b := b) (st := st) (k := k) h1 h2).1
    omega
abbrev s__law_words : Stmt := top 64
abbrev N__law_words : List Str := ["_law_tape_here", "_law_many", "_law_alphabet", "_law_filler", "_law_longer", "_law_start", "_law_last", "_law_words_here", "_law_k", "_law_own"]
abbrev P__law_words : List Str := ["_law_tape_here", "_law_many"]
theorem sc__law_words : FnScope N__law_words P__law_words (defScope s__law_words) := ⟨rfl, rfl, rfl, by decide +kernel, rfl, by decide +kernel, by decide +kernel⟩
def F_words : FSpec := fun ds W Q _ => ∃ n : Nat, ds = [.tape, .int n] ∧ n ≤ 9 ∧ ∀ ws : List Str, Words n ws → Q (.lst (ws.map D.str)) W
theorem pickS (r : Int) (a0 : 0 ≤ r) (a1 : r < 26) : ∃ c, atI (Str.ofString "abcdefghijklmnopqrstuvwxyz").cps.toList r = some c ∧ c ∈ SMALLc := by
  refine ⟨SMALLc.getD r.toNat 0, ?_, List.mem_of_getElem? (small_at (by omega))⟩
  rw [small_c, show r = ((r.toNat : Nat) : Int) by omega]
  exact atI_nat (small_at (by omega))
theorem alen : (Str.ofString "abcdefghijklmnopqrstuvwxyz").length ≤ 1000000 := by decide +kernel
theorem ok__law_words (F : Fz K mg "_law_words" s__law_words P__law_words) (T : Txt K mg) (G__law_take : Fx P w K mg base (L2.CX P w) "_law_take" 1 P__law_take (lift K F_take)) : Fx P w K mg base (L2.CX P w) "_law_words" 2 P__law_words (lift K F_words) := by
  refine F.okD sc__law_words (fun ds W Q E h => ?_) (fun f cdv A outer s H E e ds Qd Ed hr lk h => ?_)
  · obtain ⟨n, rfl, _⟩ := h
    rfl
  · obtain ⟨n, rfl, hn, k⟩ := h
    refine ⟨_, _, (pss_cons (ps_set (i := 2) sc__law_words.nd rfl (Or.inl rfl) pe_str)
      (pss_cons (ps_set (i := 3) sc__law_words.nd rfl (Or.inl rfl) (pe_op op_mulU (pe_ix (ix_U K (hu_of hr)) (pv 2) (fcallX (takes_of rfl rfl rfl rfl) G__law_take (hr.mono (by first | decide | omega)) (by rfl) (pa_cons (pv 0) (pa_cons pe_int pa_nil))) (fun _ _ => rfl)) (fcallX (takes_of rfl rfl rfl rfl) G__law_take (hr.mono (by first | decide | omega)) (by rfl) (pa_cons (pv 0) (pa_cons pe_int pa_nil)))))
      (pss_cons (ps_set (i := 4) sc__law_words.nd rfl (Or.inl rfl) (pe_op op_mulU (pe_ix (ix_U K (hu_of hr)) (pv 2) (fcallX (takes_of rfl rfl rfl rfl) G__law_take (hr.mono (by first | decide | omega)) (by rfl) (pa_cons (pv 0) (pa_cons pe_int pa_nil))) (fun _ _ => rfl)) (fcallX (takes_of rfl rfl rfl rfl) G__law_take (hr.mono (by first | decide | omega)) (by rfl) (pa_cons (pv 0) (pa_cons pe_int pa_nil)))))
      (pss_cons (ps_set (i := 5) sc__law_words.nd rfl (Or.inl rfl) (fcallX (takes_of rfl rfl rfl rfl) G__law_take (hr.mono (by first | decide | omega)) (by rfl) (pa_cons (pv 0) (pa_cons pe_int pa_nil))))
      (pss_cons (ps_set (i := 6) sc__law_words.nd rfl (Or.inl rfl) (fcallX (takes_of rfl rfl rfl rfl) G__law_take (hr.mono (by first | decide | omega)) (by rfl) (pa_cons (pv 0) (pa_cons pe_int pa_nil))))
      (pss_cons (setO_of (ps_set (i := 7) sc__law_words.nd rfl (Or.inl rfl) (pe_lst pa_nil)))
      (pss_cons (ps_for (passes_of rfl) rfl (pi_range1 (by rfl) T.b_range (pa_cons (pv 1) pa_nil)) (pg_name (i := 8) sc__law_words.nd rfl (Or.inl rfl)) (pss_cons (ps_set (i := 9) sc__law_words.nd rfl (Or.inl rfl) (pe_ix (ix_U K (hu_of hr)) (pv 2) (pe_op op_modU (pe_op (op_addU K) (pv 5) (pv 8)) pe_int) (fun _ _ => rfl)))
      (pss_one (ps_if (pt_cmpR (op_eqU K hr.units) (pv 6) pe_int (nomark _)) (pss_one (ps_expr (pe_bmK K PySem.F.plainAttrs_list PySem.F.slot_list_append PySem.F.type_list_append mt_append (pv 7) (pa_cons (pe_op (op_addU K) (pe_op (op_addU K) (pv 9) (pv 3)) (pe_op op_mulU (pv 4) (pv 8))) pa_nil)))) (pss_one (ps_expr (pe_bmK K PySem.F.plainAttrs_list PySem.F.slot_list_append PySem.F.type_list_append mt_append (pv 7) (pa_cons (pe_op (op_addU K) (pe_op (op_addU K) (pv 3) (pe_op op_mulU (pv 4) (pv 8))) (pv 9)) pa_nil))))))))
      (pss_one (ps_ret (pv 7)))))))))), inferInstance, ?_⟩
    walk_at "d"
    refine ⟨26, rfl, by decide, fun r1 a0 a1 => ?_⟩
    obtain ⟨c1, e1, m1⟩ := pickS r1 a0 a1
    walk_at "d"
    refine ⟨alen, ?_⟩
    rw [e1]
    walk_at "d"
    refine ⟨4, rfl, by decide, fun n1 a2 a3 => ?_⟩
    walk_at "d"
    refine ⟨a2, (by show 1 ≤ 1000; decide), by omega, 26, rfl, by decide, fun r2 a4 a5 => ?_⟩
    obtain ⟨c2, e2, m2⟩ := pickS r2 a4 a5
    walk_at "d"
    refine ⟨alen, ?_⟩
    rw [e2]
    walk_at "d"
    refine ⟨2, rfl, by decide, fun n2 a6 a7 => ?_⟩
    walk_at "d"
    refine ⟨a6, (by show 1 ≤ 1000; decide), by omega, 26, rfl, by decide, fun st a8 a9 => ?_⟩
    walk_at "d"
    refine ⟨2, rfl, by decide, fun la b0 b1 => ?_⟩
    obtain ⟨st, rfl⟩ : ∃ j : Nat, st = (j : Int) := ⟨st.toNat, by omega⟩
    have hfi : smS 3 (repS ⟨#[c1]⟩ n1.toNat) := smS_mono (smS_rep (smS_one m1) n1.toNat) (by omega)
    have hlo : smS 1 (repS ⟨#[c2]⟩ n2.toNat) := smS_mono (smS_rep (smS_one m2) n2.toNat) (by omega)
    generalize repS ⟨#[c1]⟩ n1.toNat = fi at *
    generalize repS ⟨#[c2]⟩ n2.toNat = lo at *
    walk_at "d"
    refine ⟨by omega, by omega, ?_⟩
    refine for_rng (fun i S => ∃ v8 v9, S = ⟨[some (.val .tape), some (.val (.int n)), some (.val (.str "abcdefghijklmnopqrstuvwxyz")), some (.val (.str fi)), some (.val (.str lo)), some (.val (.int st)), some (.val (.int la)), some (.ownL ((wordsOf (decide (la = 0)) fi lo st i).map D.str)), v8, v9], e.W⟩) ⟨_, _, rfl⟩ ?_ ?_
    · rintro i S hi ⟨v8, v9, rfl⟩
      have hsm := hlo.1
      have hfm := hfi.1
      have hrl : (repS lo i).length ≤ 9 := by
        rw [repS_len]
        calc i * lo.length ≤ i * 1 := Nat.mul_le_mul_left i hsm
          _ ≤ 9 := by omega
      have own : atI (Str.ofString "abcdefghijklmnopqrstuvwxyz").cps.toList (((st : Int) + (0 + (i : Int))) % 26) = some (SMALLc.getD ((st + i) % 26) 0) := by
        rw [small_c, show ((st : Int) + (0 + (i : Int))) % 26 = (((st + i) % 26 : Nat) : Int) by omega]
        exact atI_nat (small_at (Nat.mod_lt _ (by decide)))
      have fin : ∀ x, x = wordAt (decide (la = 0)) fi lo st i → (wordsOf (decide (la = 0)) fi lo st i).map D.str ++ [D.str x] = (wordsOf (decide (la = 0)) fi lo st (i + 1)).map D.str := fun x hx => by
        unfold wordsOf
        rw [List.range_succ, List.map_append, List.map_append, hx]; rfl
      have lenl : ((wordsOf (decide (la = 0)) fi lo st i).map D.str).length = i := by simp [wordsOf]
      have ei : ((0 : Int) + (i : Int)).toNat = i := by omega
      walk_at "d"
      refine ⟨by decide, alen, ?_⟩
      rw [own]
      walk_at "d"
      refine iteB_by (fun c => ?_) (fun c => ?_)
      · have e0 : decide (la = 0) = true := decide_eq_true c
        rw [e0] at fin lenl ⊢
        walk_at "d"
        rw [ei, fin ((⟨#[SMALLc.getD ((st + i) % 26) 0]⟩ ++ fi) ++ repS lo i) rfl]
        exact ⟨by show 1 + fi.length ≤ _; omega, by omega, by omega, by omega, by rw [len_app]; show 1 + fi.length + _ ≤ _; omega, by rw [lenl]; omega, _, _, rfl⟩
      · have e0 : decide (la = 0) = false := decide_eq_false c
        rw [e0] at fin lenl ⊢
        walk_at "d"
        rw [ei, fin ((fi ++ repS lo i) ++ ⟨#[SMALLc.getD ((st + i) % 26) 0]⟩) rfl]
        exact ⟨by omega, by omega, by omega, by omega, by rw [len_app]; show _ + 1 ≤ _; omega, by rw [lenl]; omega, _, _, rfl⟩
    · rintro S ⟨v8, v9, rfl⟩
      walk_at "d"
      exact k _ (words_of hfi hlo hn)
def dkS (l : List (Str × Str)) : List (Key × D) := l.map fun p => (Sum.inr p.1, D.str p.2)
def lkS : List (Str × Str) → Str → Option Str
  | [], _ => none
  | p :: l, x => if p.1 = x then some p.2 else lkS l x
theorem look_dkS (x : Str) : ∀ l : List (Str × Str), look (dkS l) (Sum.inr x) = (lkS l x).map D.str
  | [] => rfl
  | p :: l => by
    show (if (Sum.inr p.1 : Key) = Sum.inr x then some (D.str p.2) else look (dkS l) (Sum.inr x)) = _
    by_cases c : p.1 = x
    · rw [lkS, if_pos c, if_pos (by rw [c])]; rfl
    · rw [lkS, if_neg c, if_neg (fun z => c (Sum.inr.inj z)), look_dkS x l]
theorem lkS_none {x : Str} : ∀ {l : List (Str × Str)}, x ∉ l.map (·.1) → lkS l x = none
  | [], _ => rfl
  | p :: l, h => by
    rw [List.map_cons, List.mem_cons, not_or] at h
    rw [lkS, if_neg (fun z => h.1 z.symm), lkS_none h.2]
theorem lkS_mem {x y : Str} : ∀ {l : List (Str × Str)}, (l.map (·.1)).Nodup → (x, y) ∈ l → lkS l x = some y
  | p :: l, hn, h => by
    rw [List.map_cons, List.nodup_cons] at hn
    rcases List.mem_cons.mp h with rfl | h
    · rw [lkS, if_pos rfl]
    · have : p.1 ≠ x := fun z => hn.1 (z ▸ List.mem_map.mpr ⟨_, h, rfl⟩)
      rw [lkS, if_neg this, lkS_mem hn.2 h]
theorem look_any {ks : List (Key × D)} {k : Key} : (ks.any fun p => decide (p.1 = k)) = (look ks k).isSome := by
  induction ks with
  | nil => rfl
  | cons p l ih =>
    rw [List.any_cons, look]
    by_cases c : p.1 = k
    · rw [if_pos c, decide_eq_true c]; rfl
    · rw [if_neg c, decide_eq_false c, Bool.false_or, ih]
theorem put_none {ks : List (Key × D)} {k : Key} {d : D} (h : look ks k = none) : put ks k d = ks ++ [(k, d)] := by
  unfold put
  rw [look_any, h]; rfl
theorem put_dkS {l : List (Str × Str)} {x y : Str} (h : x ∉ l.map (·.1)) : put (dkS l) (Sum.inr x) (.str y) = dkS (l ++ [(x, y)]) := by
  rw [put_none (by rw [look_dkS, lkS_none h]; rfl)]
  simp [dkS]
def shapesOf (ws : List Str) (b : Nat) (mu : List Str) : List (Str × Str) := ((ws.take b).map fun x => (x, ("" : Str))) ++ ((ws.drop 4).take mu.length).zip mu
def underOf (ws : List Str) (un : List (Nat × Nat)) : List (Str × Str) := un.map fun p => (ws.getD p.1 "", ws.getD p.2 "")
structure Stk (flat : Bool) (menu ws : List Str) (b : Nat) (mu : List Str) (un : List (Nat × Nat)) : Prop where
  w : Words 7 ws
  b2 : 2 ≤ b
  b4 : b ≤ 4
  m3 : mu.length ≤ 3
  mm : ∀ x ∈ mu, x ∈ menu
  u : ∀ p ∈ un, 1 ≤ p.1 ∧ p.1 < b ∧ p.2 < p.1
  asc : (un.map (·.1)).Pairwise (· < ·)
  fl : flat = true → un = []
theorem ws_ix {n : Nat} {ws : List Str} (h : ws.length = n) {i : Nat} (hi : i < n) : ws[i]? = some (ws.getD i "") := by
  rw [List.getD_eq_getElem?_getD, List.getElem?_eq_getElem (by omega)]; rfl
theorem ws_inj {ws : List Str} (h : ws.Nodup) {i j : Nat} (hi : i < ws.length) (hj : j < ws.length) (e : ws.getD i "" = ws.getD j "") : i = j := by
  have a := ws_ix rfl hi
  have b := ws_ix rfl hj
  rw [e] at a
  exact nd_ix h a b
theorem shapes_step1 {ws : List Str} {i : Nat} (hi : i < ws.length) : ((ws.take (i + 1)).map fun x => (x, ("" : Str))) = ((ws.take i).map fun x => (x, ("" : Str))) ++ [(ws.getD i "", ("" : Str))] := by
  rw [take_succ_get (ws_ix rfl hi), List.map_append]; rfl
theorem shapes_step2 {ws mu : List Str} {b : Nat} {m : Str} (hw : ws.length = 7) (hi : mu.length < 3) : shapesOf ws b (mu ++ [m]) = shapesOf ws b mu ++ [(ws.getD (4 + mu.length) "", m)] := by
  have e : (ws.drop 4)[mu.length]? = some (ws.getD (4 + mu.length) "") := by
    rw [List.getElem?_drop]; exact ws_ix hw (by omega)
  unfold shapesOf
  rw [List.length_append, List.length_singleton, take_succ_get e, List.zip_append (by rw [List.length_take, List.length_drop]; omega), List.append_assoc]; rfl
theorem shapes_keys {ws mu : List Str} {b : Nat} (hw : ws.length = 7) (hm : mu.length ≤ 3) : (shapesOf ws b mu).map (·.1) = ws.take b ++ (ws.drop 4).take mu.length := by
  unfold shapesOf
  rw [List.map_append, List.map_map, List.map_fst_zip (by rw [List.length_take, List.length_drop]; omega)]
  congr 1
  exact List.map_id' _
theorem not_in_take {ws : List Str} (h : ws.Nodup) {i j : Nat} (hi : i < ws.length) (hj : j ≤ i) : ws.getD i "" ∉ ws.take j := fun z => by
  obtain ⟨k, hk, e⟩ := List.mem_iff_getElem.mp z
  rw [List.length_take] at hk
  rw [List.getElem_take] at e
  have : ws.getD k "" = ws[k] := by
    have := ws_ix rfl (show k < ws.length by omega)
    rw [List.getElem?_eq_getElem (by omega)] at this
    exact (Option.some.inj this).symm
  have := ws_inj h hi (show k < ws.length by omega) (by rw [this, e])
  omega
theorem not_in_drop {ws : List Str} (h : ws.Nodup) {i j : Nat} (hi : 4 + i < ws.length) (hj : j ≤ i) : ws.getD (4 + i) "" ∉ (ws.drop 4).take j := fun z => by
  have e : (ws.drop 4).getD i "" = ws.getD (4 + i) "" := by
    rw [List.getD_eq_getElem?_getD, List.getElem?_drop, ← List.getD_eq_getElem?_getD]
  rw [← e] at z
  exact not_in_take (h.sublist (List.drop_sublist 4 ws)) (by rw [List.length_drop]; omega) hj z
abbrev s__law_stock : Stmt := top 65
abbrev N__law_stock : List Str := ["_law_tape_here", "_law_flat", "_law_menu", "_law_words_here", "_law_bases", "_law_shapes", "_law_k", "_law_under", "_law_above"]
abbrev P__law_stock : List Str := ["_law_tape_here", "_law_flat", "_law_menu"]
theorem sc__law_stock : FnScope N__law_stock P__law_stock (defScope s__law_stock) := ⟨rfl, rfl, rfl, by decide +kernel, rfl, by decide +kernel, by decide +kernel⟩
def F_stock : FSpec := fun ds W Q _ => ∃ (flat : Bool) (menu : List Str), ds = [.tape, .bl flat, .lst (menu.map D.str)] ∧ menu ≠ [] ∧ menu.length ≤ 100 ∧
  ∀ (ws : List Str) (b : Nat) (mu : List Str) (un : List (Nat × Nat)), Stk flat menu ws b mu un → Q (.tup [.dct (dkS (shapesOf ws b mu)), .dct (dkS (underOf ws un))]) W
theorem ok__law_stock (F : Fz K mg "_law_stock" s__law_stock P__law_stock) (T : Txt K mg) (G__law_take : Fx P w K mg base (L2.CX P w) "_law_take" 1 P__law_take (lift K F_take)) (G__law_words : Fx P w K mg base (L2.CX P w) "_law_words" 2 P__law_words (lift K F_words)) : Fx P w K mg base (L2.CX P w) "_law_stock" 3 P__law_stock (lift K F_stock) := by
  refine F.okD sc__law_stock (fun ds W Q E h => ?_) (fun f cdv A outer s H E e ds Qd Ed hr lk h => ?_)
  · obtain ⟨flat, menu, rfl, _⟩ := h
    rfl
  · obtain ⟨flat, menu, rfl, hme, hml, k⟩ := h
    refine ⟨_, _, (pss_cons (ps_set (i := 3) sc__law_stock.nd rfl (Or.inl rfl) (fcallX (takes_of rfl rfl rfl rfl) G__law_words (hr.mono (by first | decide | omega)) (by rfl) (pa_cons (pv 0) (pa_cons pe_int pa_nil))))
      (pss_cons (ps_set (i := 4) sc__law_stock.nd rfl (Or.inl rfl) (pe_op (op_addU K) pe_int (fcallX (takes_of rfl rfl rfl rfl) G__law_take (hr.mono (by first | decide | omega)) (by rfl) (pa_cons (pv 0) (pa_cons pe_int pa_nil)))))
      (pss_cons (setO_of (ps_set (i := 5) sc__law_stock.nd rfl (Or.inl rfl) pe_dnewK))
      (pss_cons (ps_for (passes_of rfl) rfl (pi_range1 (by rfl) T.b_range (pa_cons (pv 4) pa_nil)) (pg_name (i := 6) sc__law_stock.nd rfl (Or.inl rfl)) (pss_one (ps_dput (hu_of hr) (pv 5) (pe_ix (ix_U K (hu_of hr)) (pv 3) (pv 6) (fun _ _ => rfl)) pe_str rfl)))
      (pss_cons (ps_for (passes_of rfl) rfl (pi_range1 (by rfl) T.b_range (pa_cons (fcallX (takes_of rfl rfl rfl rfl) G__law_take (hr.mono (by first | decide | omega)) (by rfl) (pa_cons (pv 0) (pa_cons pe_int pa_nil))) pa_nil)) (pg_name (i := 6) sc__law_stock.nd rfl (Or.inl rfl)) (pss_one (ps_dput (hu_of hr) (pv 5) (pe_ix (ix_U K (hu_of hr)) (pv 3) (pe_op (op_addU K) pe_int (pv 6)) (fun _ _ => rfl)) (pe_ix (ix_U K (hu_of hr)) (pv 2) (fcallX (takes_of rfl rfl rfl rfl) G__law_take (hr.mono (by first | decide | omega)) (by rfl) (pa_cons (pv 0) (pa_cons (pe_callB (call_lenU K) (by rfl) T.b_len PySem.boot_len (pa_cons (pv 2) pa_nil)) pa_nil))) (fun _ _ => rfl)) rfl)))
      (pss_cons (setO_of (ps_set (i := 7) sc__law_stock.nd rfl (Or.inl rfl) pe_dnewK))
      (pss_cons (ps_for (passes_of rfl) rfl (pi_range2 (by rfl) T.b_range (pa_cons pe_int (pa_cons (pv 4) pa_nil))) (pg_name (i := 6) sc__law_stock.nd rfl (Or.inl rfl)) (pss_cons (ps_set (i := 8) sc__law_stock.nd rfl (Or.inl rfl) (fcallX (takes_of rfl rfl rfl rfl) G__law_take (hr.mono (by first | decide | omega)) (by rfl) (pa_cons (pv 0) (pa_cons (pe_op (op_addU K) (pv 6) pe_int) pa_nil))))
      (pss_one (ps_if (PW.pt (pw_and (pt_cmpR op_ltU (pv 8) (pv 6) (nomark _)) (pw_and1 (pt_not (pt_val (pv 1)))))) (pss_one (ps_dput (hu_of hr) (pv 7) (pe_ix (ix_U K (hu_of hr)) (pv 3) (pv 6) (fun _ _ => rfl)) (pe_ix (ix_U K (hu_of hr)) (pv 3) (pv 8) (fun _ _ => rfl)) rfl)) pss_nil))))
      (pss_one (ps_ret (pe_tup (pa_cons (pv 5) (pa_cons (pv 7) pa_nil)))))))))))), inferInstance, ?_⟩
    walk_at "d"
    refine ⟨7, rfl, by decide, fun ws hw => ?_⟩
    have hlen := hw.len
    have ixw : ∀ {z : Int} {i : Nat}, z = (i : Int) → i < 7 → atI (ws.map D.str) z = some (D.str (ws.getD i "")) := fun hz hi => at_get hz (by rw [List.getElem?_map, ws_ix hlen hi]; rfl)
    walk_at "d"
    refine ⟨3, rfl, by decide, fun q q0 q1 => ?_⟩
    obtain ⟨q, rfl⟩ : ∃ j : Nat, q = (j : Int) := ⟨q.toNat, by omega⟩
    walk_at "d"
    refine ⟨by omega, by omega, ?_⟩
    refine for_rng (fun i S => ∃ v6, S = ⟨[some (.val .tape), some (.val (.bl flat)), some (.val (.lst (menu.map D.str))), some (.val (.lst (ws.map D.str))), some (.val (.int (2 + (q : Int)))), some (.ownD (dkS ((ws.take i).map fun x => (x, ("" : Str))))), v6, none, none], e.W⟩) ⟨_, rfl⟩ ?_ ?_
    · rintro i S hi ⟨v6, rfl⟩
      walk_at "d"
      rw [ixw (i := i) (by omega) (by omega)]
      walk_at "d"
      rw [put_dkS (by rw [show ((ws.take i).map fun x => (x, ("" : Str))).map (·.1) = ws.take i by rw [List.map_map]; exact List.map_id' _]; exact not_in_take hw.nodup (show i < ws.length by omega) (Nat.le_refl i)), ← shapes_step1 (show i < ws.length by omega)]
      exact ⟨by simp [dkS]; omega, _, rfl⟩
    · rintro S ⟨v6, rfl⟩
      have e0 : (ws.take (2 + (q : Int)).toNat).map (fun x => (x, ("" : Str))) = shapesOf ws (2 + q) [] := by
        unfold shapesOf
        rw [show (2 + (q : Int)).toNat = 2 + q by omega]; simp
      rw [e0]
      walk_at "d"
      refine ⟨4, rfl, by decide, fun c c0 c1 => ?_⟩
      walk_at "d"
      refine ⟨by omega, by omega, ?_⟩
      refine for_rng (fun i S => ∃ v6 mu, S = ⟨[some (.val .tape), some (.val (.bl flat)), some (.val (.lst (menu.map D.str))), some (.val (.lst (ws.map D.str))), some (.val (.int (2 + (q : Int)))), some (.ownD (dkS (shapesOf ws (2 + q) mu))), v6, none, none], e.W⟩ ∧ mu.length = i ∧ ∀ x ∈ mu, x ∈ menu) ⟨_, [], rfl, rfl, by simp⟩ ?_ ?_
      · rintro i S hi ⟨v6, mu, rfl, hmu, hmm⟩
        walk_at "d"
        refine ⟨_, rfl, ?_, fun r r0 r1 => ?_⟩
        · have : menu.length ≠ 0 := fun z => hme (List.length_eq_zero_iff.mp z)
          simp; omega
        rw [List.length_map] at r1
        obtain ⟨m, hm⟩ : ∃ m, menu[r.toNat]? = some m := ⟨_, List.getElem?_eq_getElem (by omega)⟩
        walk_at "d"
        rw [at_get (j := r.toNat) (by omega) (show (menu.map D.str)[r.toNat]? = some (D.str m) by rw [List.getElem?_map, hm]; rfl)]
        walk_at "d"
        rw [ixw (i := 4 + i) (by omega) (by omega)]
        walk_at "d"
        rw [put_dkS (by
          rw [shapes_keys hlen (by omega), List.mem_append]
          rintro (z | z)
          · exact not_in_take hw.nodup (show 4 + i < ws.length by omega) (by omega) z
          · exact not_in_drop hw.nodup (show 4 + i < ws.length by omega) (by omega) z), ← hmu, ← shapes_step2 hlen (by omega)]
        refine ⟨?_, _, mu ++ [m], rfl, by simp, fun x hx => ?_⟩
        · simp [dkS, shapesOf]; omega
        · rcases List.mem_append.mp hx with hx | hx
          · exact hmm x hx
          · rw [List.mem_singleton.mp hx]; exact List.mem_of_getElem? hm
      · rintro S ⟨v6, mu, rfl, hmu, hmm⟩
        walk_at "d"
        refine ⟨by omega, ?_⟩
        refine for_rng (fun i S => ∃ v6 v8 un, S = ⟨[some (.val .tape), some (.val (.bl flat)), some (.val (.lst (menu.map D.str))), some (.val (.lst (ws.map D.str))), some (.val (.int (2 + (q : Int)))), some (.ownD (dkS (shapesOf ws (2 + q) mu))), v6, some (.ownD (dkS (underOf ws un))), v8], e.W⟩ ∧ un.length ≤ i ∧ (∀ p ∈ un, 1 ≤ p.1 ∧ p.1 < 1 + i ∧ p.2 < p.1) ∧ (un.map (·.1)).Pairwise (· < ·) ∧ (flat = true → un = [])) ⟨_, _, [], rfl, by simp, by simp, by simp, fun _ => rfl⟩ ?_ ?_
        · rintro i S hi ⟨v6, v8, un, rfl, ul, u1, u2, u3⟩
          walk_at "d"
          refine ⟨_, rfl, by omega, fun r r0 r1 => ?_⟩
          walk_at "d"
          have skip : ∃ v6' v8' un', (⟨[some (.val .tape), some (.val (.bl flat)), some (.val (.lst (menu.map D.str))), some (.val (.lst (ws.map D.str))), some (.val (.int (2 + (q : Int)))), some (.ownD (dkS (shapesOf ws (2 + q) mu))), some (.val (.int (1 + (i : Int)))), some (.ownD (dkS (underOf ws un))), some (.val (.int r))], e.W⟩ : PSt) = ⟨[some (.val .tape), some (.val (.bl flat)), some (.val (.lst (menu.map D.str))), some (.val (.lst (ws.map D.str))), some (.val (.int (2 + (q : Int)))), some (.ownD (dkS (shapesOf ws (2 + q) mu))), v6', some (.ownD (dkS (underOf ws un'))), v8'], e.W⟩ ∧ un'.length ≤ i + 1 ∧ (∀ p ∈ un', 1 ≤ p.1 ∧ p.1 < 1 + (i + 1) ∧ p.2 < p.1) ∧ (un'.map (·.1)).Pairwise (· < ·) ∧ (flat = true → un' = []) :=
            ⟨_, _, un, rfl, by omega, fun p hp => by have := u1 p hp; omega, u2, u3⟩
          refine iteB_by (fun c => ?_) (fun c => ?_)
          · walk_at "d"
            refine iteB_by (fun cf => ?_) (fun cf => ?_)
            · walk_at "d"
              rw [ixw (i := r.toNat) (by omega) (by omega)]
              walk_at "d"
              rw [ixw (i := 1 + i) (by omega) (by omega)]
              walk_at "d"
              have nin : ws.getD (1 + i) "" ∉ ((underOf ws un).map (·.1)) := fun z => by
                rw [underOf, List.map_map] at z
                obtain ⟨p, hp, e⟩ := List.mem_map.mp z
                have h1 := u1 p hp
                have := ws_inj hw.nodup (show p.1 < ws.length by omega) (show 1 + i < ws.length by omega) e
                omega
              rw [put_dkS nin, show underOf ws un ++ [(ws.getD (1 + i) "", ws.getD r.toNat "")] = underOf ws (un ++ [(1 + i, r.toNat)]) by simp [underOf]]
              refine ⟨by simp [dkS, underOf]; omega, _, _, un ++ [(1 + i, r.toNat)], rfl, by simp; omega, fun p hp => ?_, ?_, fun z => by rw [cf] at z; cases z⟩
              · rcases List.mem_append.mp hp with hp | hp
                · have := u1 p hp; omega
                · rw [List.mem_singleton.mp hp]
                  refine ⟨?_, ?_, ?_⟩ <;> dsimp only <;> omega
              · rw [List.map_append, List.pairwise_append]
                refine ⟨u2, by simp, fun x hx y hy => ?_⟩
                obtain ⟨p, hp, rfl⟩ := List.mem_map.mp hx
                have := u1 p hp
                have hy : y = 1 + i := by simpa using hy
                rw [hy]
                exact this.2.1
            · walk_at "d"
              exact skip
          · walk_at "d"
            exact skip
        · rintro S ⟨v6, v8, un, rfl, ul, u1, u2, u3⟩
          walk_at "d"
          exact k ws (2 + q) mu un ⟨hw, by omega, by omega, by omega, hmm, fun p hp => by have := u1 p hp; omega, u2, u3⟩
structure Shp (ss : List (Str × Str)) : Prop where
  nd : (ss.map (·.1)).Nodup
  two : ∃ (a b : Str) (r : List (Str × Str)), ss = (a, ("" : Str)) :: (b, ("" : Str)) :: r
  few : ss.length ≤ 20
  small : ∀ p ∈ ss, p.2.length ≤ 3
inductive FormOf (ss : List (Str × Str)) (L : Str) : Nat → D → Prop
  | letter {n c : Nat} (h : c ∈ L.cps.toList) : FormOf ss L n (.str ⟨#[c]⟩)
  | node {n : Nat} {w m : Str} {ds : List D} (h : lkS ss w = some m) (hl : ds.length = m.length) (h0 : 0 < m.length → 0 < n) (hd : ∀ d ∈ ds, FormOf ss L (n - 1) d) : FormOf ss L n (.tup (.str w :: ds))
theorem keys_dkS (ss : List (Str × Str)) : ((dkS ss).map fun p => keyV p.1) = ss.map fun p => D.str p.1 := by
  unfold dkS
  rw [List.map_map]; rfl
theorem lkS_get {ss : List (Str × Str)} (hn : (ss.map (·.1)).Nodup) {i : Nat} {p : Str × Str} (h : ss[i]? = some p) : lkS ss p.1 = some p.2 := lkS_mem hn (List.mem_of_getElem? h)
abbrev s__law_form : Stmt := top 66
abbrev N__law_form : List Str := ["_law_tape_here", "_law_shapes", "_law_letters", "_law_depth", "_law_words_here", "_law_word", "_law_mark"]
abbrev P__law_form : List Str := ["_law_tape_here", "_law_shapes", "_law_letters", "_law_depth"]
theorem sc__law_form : FnScope N__law_form P__law_form (defScope s__law_form) := ⟨rfl, rfl, rfl, by decide +kernel, rfl, by decide +kernel, by decide +kernel⟩
def F_form (n : Nat) : FSpec := fun ds W Q _ => ∃ (ss : List (Str × Str)) (L : Str), ds = [.tape, .dct (dkS ss), .str L, .int n] ∧ Shp ss ∧ L.length ≤ 1000 ∧ ∀ d, FormOf ss L n d → Q d W
theorem str_pos {L : Str} (h : ¬ L = Str.ofString "") : 0 < L.length := Nat.pos_of_ne_zero fun z => h (by
  cases L with
  | mk a =>
    have : a = #[] := Array.eq_empty_of_size_eq_zero z
    rw [this]; rfl)
theorem signs_len (x : Str) : (signs x).length = x.length := by simp [signs]; rfl
theorem form_step (F : Fz K mg "_law_form" s__law_form P__law_form) (T : Txt K mg) (G__law_take : Fx P w K mg base (L2.CX P w) "_law_take" 1 P__law_take (lift K F_take)) (n : Nat) {Fs : FSpec} (G__law_form : Fx P w K mg base (L2.CX P w) "_law_form" (n + 2) P__law_form (lift K Fs)) (hG : ∀ m, n = m + 1 → ∀ ds W Q E, F_form m ds W Q E → Fs ds W Q E) : Fx P w K mg base (L2.CX P w) "_law_form" (n + 3) P__law_form (lift K (F_form n)) := by
  refine F.okD sc__law_form (fun ds W Q E h => ?_) (fun f cdv A outer s H E e ds Qd Ed hr lk h => ?_)
  · obtain ⟨ss, L, rfl, _⟩ := h
    rfl
  · obtain ⟨ss, L, rfl, hs, hL, k⟩ := h
    refine ⟨_, _, (pss_cons (ps_setLc (i := 4) (own := [("_law_word", 5)]) (g := (gName 5)) (tt := tYes) rfl sc__law_form.nd rfl rfl (sw_true rfl rfl rfl (by decide +kernel)) (pi_any K (pv 1)) (blkOk_by (own := [("_law_word", 5)]) (N := N__law_form) (sc := defScope s__law_form) (by decide +kernel)) (fun _ _ _ _ _ => (pg_name (i := 5) sc__law_form.nd rfl (by first | exact Or.inl rfl | exact Or.inr rfl))) (fun _ _ _ _ _ => pts_nil) (fun _ _ _ _ _ => (pv 5)))
      (pss_cons (ps_if (PW.pt (pw_and (pt_cmpR (op_neU K hr.units) (pv 2) pe_str (nomark _)) (pw_and1 (pt_cmpR (op_eqU K hr.units) (fcallX (takes_of rfl rfl rfl rfl) G__law_take (hr.mono (by first | decide | omega)) (by rfl) (pa_cons (pv 0) (pa_cons pe_int pa_nil))) pe_int (nomark _))))) (pss_one (ps_ret (pe_ix (ix_U K (hu_of hr)) (pv 2) (fcallX (takes_of rfl rfl rfl rfl) G__law_take (hr.mono (by first | decide | omega)) (by rfl) (pa_cons (pv 0) (pa_cons (pe_callB (call_lenU K) (by rfl) T.b_len PySem.boot_len (pa_cons (pv 2) pa_nil)) pa_nil))) (fun _ _ => rfl)))) pss_nil)
      (pss_cons (ps_set (i := 5) sc__law_form.nd rfl (Or.inl rfl) (pe_ix (ix_U K (hu_of hr)) (pv 4) (fcallX (takes_of rfl rfl rfl rfl) G__law_take (hr.mono (by first | decide | omega)) (by rfl) (pa_cons (pv 0) (pa_cons (pe_callB (call_lenU K) (by rfl) T.b_len PySem.boot_len (pa_cons (pv 4) pa_nil)) pa_nil))) (fun _ _ => rfl)))
      (pss_cons (ps_if (pt_cmpR (op_eqU K hr.units) (pv 3) pe_int (nomark _)) (pss_one (ps_set (i := 5) sc__law_form.nd rfl (Or.inl rfl) (pe_ix (ix_U K (hu_of hr)) (pv 4) (fcallX (takes_of rfl rfl rfl rfl) G__law_take (hr.mono (by first | decide | omega)) (by rfl) (pa_cons (pv 0) (pa_cons pe_int pa_nil))) (fun _ _ => rfl)))) pss_nil)
      (pss_one (ps_ret (pe_op (op_addU K) (pe_tup (pa_cons (pv 5) pa_nil)) (pe_callTy (call_tuple_ofK K) (by rfl) T.b_tuple (by decide +kernel) (pa_cons (pe_lc (own := [("_law_mark", 6)]) (g := (gName 6)) (tt := tYes) rfl sc__law_form.nd (pi_any K (pe_ix (ix_U K (hu_of hr)) (pv 1) (pv 5) (fun _ _ => rfl))) (blkOk_by (own := [("_law_mark", 6)]) (N := N__law_form) (sc := defScope s__law_form) (by decide +kernel)) (fun _ _ _ _ _ => (pg_name (i := 6) sc__law_form.nd rfl (by first | exact Or.inl rfl | exact Or.inr rfl))) (fun _ _ _ _ _ => pts_nil) (fun _ _ _ _ _ => (fcallX takes0 G__law_form (hr.mono (by first | decide | omega)) (by rfl) (pa_cons (pv 0) (pa_cons (pv 1) (pa_cons (pv 2) (pa_cons (pe_op op_subU (pv 3) pe_int) pa_nil))))))) pa_nil))))))))), inferInstance, ?_⟩
    obtain ⟨a, b, r, hab⟩ := hs.two
    walk_at "d"
    rw [keys_dkS]
    refine comp_map _ (fun p => D.str p.1) ss (by have := hs.few; simp; omega) (fun p hp N M hn => ?_) ?_
    · walk_at "d"
      exact hn
    walk_at "d"
    refine iteB_by (fun c => ?a) (fun c => ?b)
    case' a =>
      walk_at "d"
      refine ⟨2, rfl, by decide, fun r r0 r1 => ?_⟩
      walk_at "d"
      refine iteB_by (fun c2 => ?a1) (fun c2 => ?a2)
    case a1 =>
      walk_at "d"
      refine ⟨by omega, _, rfl, ?_, fun q q0 q1 => ?_⟩
      · have := str_pos c
        omega
      obtain ⟨ch, hc⟩ : ∃ ch, L.cps.toList[q.toNat]? = some ch := ⟨_, List.getElem?_eq_getElem (by have : L.cps.toList.length = L.length := rfl; omega)⟩
      walk_at "d"
      refine ⟨by omega, ?_⟩
      rw [at_get (j := q.toNat) (by omega) hc]
      walk_at "d"
      exact k _ (.letter (List.mem_of_getElem? hc))
    all_goals
      walk_at "d"
      refine ⟨_, rfl, by rw [List.length_map, hab]; simp; omega, fun q q0 q1 => ?_⟩
      rw [List.length_map] at q1
      obtain ⟨p, hp⟩ : ∃ p, ss[q.toNat]? = some p := ⟨_, List.getElem?_eq_getElem (by omega)⟩
      walk_at "d"
      rw [at_get (j := q.toNat) (by omega) (show (ss.map fun p => D.str p.1)[q.toNat]? = some (D.str p.1) by rw [List.getElem?_map, hp]; rfl)]
      walk_at "d"
      refine iteB_by (fun c3 => ?_) (fun c3 => ?_)
      walk_at "d"
      refine ⟨2, rfl, by decide, fun t t0 t1 => ?_⟩
      obtain ⟨p, hp, h0⟩ : ∃ p : Str × Str, ss[t.toNat]? = some p ∧ p.2.length = 0 := by
        rw [hab]
        rcases (show t.toNat = 0 ∨ t.toNat = 1 by omega) with z | z <;> rw [z]
        · exact ⟨_, rfl, rfl⟩
        · exact ⟨_, rfl, rfl⟩
      walk_at "d"
      rw [at_get (j := t.toNat) (by omega) (show (ss.map fun p => D.str p.1)[t.toNat]? = some (D.str p.1) by rw [List.getElem?_map, hp]; rfl)]
      have ok : 0 < p.2.length → 0 < n := fun z => by omega
      rotate_left
      have ok : 0 < p.2.length → 0 < n := fun z => by omega
      all_goals
        walk_at "d"
        rw [look_dkS, lkS_get hs.nd hp]
        walk_at "d"
        have hsm := hs.small p (List.mem_of_getElem? hp)
        refine comp_relL (fun _ d => FormOf ss L (n - 1) d) (by rw [signs_len]; simp; omega) (fun x hx N M hn => ?_) (fun ys hy => ?_)
        · walk_at "d"
          have : 0 < p.2.length := by rw [← signs_len]; exact List.length_pos_of_mem hx
          refine hG (n - 1) (by have := ok this; omega) _ _ _ _ ⟨ss, L, ?_, hs, hL, fun d hd => ?_⟩
          · have := ok this
            rw [show ((n - 1 : Nat) : Int) = (n : Int) - 1 by omega]
          · walk_at "d"
            exact hn d hd
        · have hl := hy.len
          rw [signs_len] at hl
          walk_at "d"
          exact ⟨by omega, k _ (.node (lkS_get hs.nd hp) hl.symm ok (All2.mem (Q := fun d => FormOf ss L (n - 1) d) (fun _ _ z => z) hy))⟩
theorem ok__law_form (F : Fz K mg "_law_form" s__law_form P__law_form) (T : Txt K mg) (G : Fx P w K mg base (L2.CX P w) "_law_take" 1 P__law_take (lift K F_take)) : ∀ n : Nat, Fx P w K mg base (L2.CX P w) "_law_form" (n + 3) P__law_form (lift K (F_form n))
  | 0 => form_step F T G 0 (Fs := fun _ _ _ _ => False) (F.noneD fun _ _ _ _ z => z) (fun m z => by omega)
  | n + 1 => form_step F T G (n + 1) (ok__law_form F T G n) (fun m z => by
      have : m = n := by omega
      subst this
      exact fun _ _ _ _ h => h)
abbrev s_fits_shapes : Stmt := top 19
abbrev N_fits_shapes : List Str := ["shapes", "pattern", "part"]
abbrev P_fits_shapes : List Str := ["shapes", "pattern"]
theorem sc_fits_shapes : FnScope N_fits_shapes P_fits_shapes (defScope s_fits_shapes) := ⟨rfl, rfl, rfl, by decide +kernel, rfl, by decide +kernel, by decide +kernel⟩
mutual
def fitsD (ss : List (Str × Str)) : D → Bool
  | .str _ => true
  | .tup ds => match ds with
    | [] => false
    | d :: ds => fits0 ss d ds.length && fitsL ss ds
  | _ => false
def fitsL (ss : List (Str × Str)) : List D → Bool
  | [] => true
  | d :: ds => fitsD ss d && fitsL ss ds
def fits0 (ss : List (Str × Str)) : D → Nat → Bool
  | .str w, n => (match lkS ss w with
    | some m => decide (m.length = n)
    | none => false)
  | _, _ => false
end
theorem fitsL_all (ss : List (Str × Str)) : ∀ ds : List D, fitsL ss ds = ds.all (fitsD ss)
  | [] => by rw [fitsL]; rfl
  | d :: ds => by rw [fitsL, fitsL_all ss ds]; rfl
theorem lkS_in {x y : Str} : ∀ {l : List (Str × Str)}, lkS l x = some y → (x, y) ∈ l
  | [], h => by cases h
  | (a, b) :: l, h => by
      rw [lkS] at h
      split at h
      · rename_i c
        cases h
        subst c
        exact List.mem_cons_self
      · exact List.mem_cons_of_mem _ (lkS_in h)
def F_fits (n : Nat) : FSpec := fun ds W Q _ => ∃ (ss : List (Str × Str)) (d : D), ds = [.dct (dkS ss), d] ∧ (∀ p ∈ ss, p.2.length ≤ 1000) ∧ isFormD d = true ∧ fitD d = true ∧ dpD d < n ∧ Q (.bl (fitsD ss d)) W
theorem ok_fits_shapes (F : Fz K mg "fits_shapes" s_fits_shapes P_fits_shapes) (T : Txt K mg) (G_is_letter : Fx P w K mg base (L2.CX P w) "is_letter" 1 P_is_letter (lift K F_is_letter)) : ∀ n, Fx P w K mg base (L2.CX P w) "fits_shapes" (n + 2) P_fits_shapes (lift K (F_fits n))
  | 0 => F.noneD fun ds W Q E ⟨_, d, _, _, _, _, z, _⟩ => by omega
  | n + 1 => by
    have G_fits_shapes := ok_fits_shapes F T G_is_letter n
    refine F.okD sc_fits_shapes (fun ds W Q E h => ?_) (fun f cdv A outer s H E e ds Qd Ed hr lk h => ?_)
    · obtain ⟨ss, d, rfl, _⟩ := h
      rfl
    · obtain ⟨ss, d, rfl, hss, hfo, hf, hd, k⟩ := h
      refine ⟨_, _, (pss_cons (ps_if (pt_val (fcallX (takes_of rfl rfl rfl rfl) G_is_letter (hr.mono (by first | decide | omega)) (by rfl) (pa_cons (pv 1) pa_nil))) (pss_one (ps_ret pe_bl)) pss_nil)
      (pss_cons (ps_if (PW.pt (pw_or (pt_cmpR (op_notInU K (hu65_of hr)) (pe_ix (ix_U K (hu_of hr)) (pv 1) pe_int (fun _ _ => rfl)) (pv 0) (by rfl)) (pw_or1 (pt_cmpR (op_neU K hr.units) (pe_callB (call_lenU K) (by rfl) T.b_len PySem.boot_len (pa_cons (pe_ix (ix_U K (hu_of hr)) (pv 0) (pe_ix (ix_U K (hu_of hr)) (pv 1) pe_int (fun _ _ => rfl)) (fun _ _ => rfl)) pa_nil)) (pe_op op_subU (pe_callB (call_lenU K) (by rfl) T.b_len PySem.boot_len (pa_cons (pv 1) pa_nil)) pe_int) (nomark _))))) (pss_one (ps_ret pe_bl)) pss_nil)
      (pss_one (ps_ret (pe_callB (cr_allK K rfl) (by rfl) T.b_all (by decide +kernel) (pa_cons (pe_lc (own := [("part", 2)]) (g := (gName 2)) (tt := tYes) rfl sc_fits_shapes.nd (pi_any K (pe_slice (sl_U K) (pv 1) (po_some pe_int) po_none)) (blkOk_by (own := [("part", 2)]) (N := N_fits_shapes) (sc := defScope s_fits_shapes) (by decide +kernel)) (fun _ _ _ _ _ => (pg_name (i := 2) sc_fits_shapes.nd rfl (by first | exact Or.inl rfl | exact Or.inr rfl))) (fun _ _ _ _ _ => pts_nil) (fun _ _ _ _ _ => (fcallX takes0 G_fits_shapes (hr.mono (by first | decide | omega)) (by rfl) (pa_cons (pv 0) (pa_cons (pv 2) pa_nil))))) pa_nil)))))), inferInstance, ?_⟩
      walk_at "d"
      refine ⟨d, rfl, hf, ?_⟩
      cases d with
      | str x =>
        rw [isFormD] at hfo
        rw [isLetterD, hfo]
        walk_at "d"
        exact k
      | tup ds =>
        have e0 : isLetterD (.tup ds) = false := rfl
        rw [e0]
        cases ds with
        | nil => rw [isFormD] at hfo; cases hfo
        | cons d0 ds =>
          rw [isFormD, Bool.and_eq_true, Bool.and_eq_true] at hfo
          rw [fitD, Bool.and_eq_true, fitL, Bool.and_eq_true] at hf
          rw [dpD] at hd
          obtain ⟨⟨h3, hw⟩, hfs⟩ := hfo
          have h3 := of_decide_eq_true h3
          cases d0 with
          | str w0 =>
            rw [fitsD, fits0] at k
            walk_at "d"
            rw [look_dkS]
            cases hm : lkS ss w0 with
            | none =>
              rw [hm] at k
              refine iteB_T rfl ?_
              walk_at "d"
              exact k
            | some m =>
              have hml := hss _ (lkS_in hm)
              rw [hm] at k
              have k : Qd (.bl (decide (m.length = ds.length) && fitsL ss ds)) e.W := k
              refine iteB_F (by simp) ?_
              walk_at "d"
              rw [look_dkS, hm]
              walk_at "d"
              refine ⟨by dsimp only at hml; omega, ?_⟩
              refine iteB_by (fun c => ?_) (fun c => ?_)
              · walk_at "d"
                rw [show decide (m.length = ds.length) = false from decide_eq_false (by omega), Bool.false_and] at k
                exact k
              · walk_at "d"
                rw [show decide (m.length = ds.length) = true from decide_eq_true (by omega), Bool.true_and, fitsL_all] at k
                refine comp_lst (fun d => .bl (fitsD ss d)) (by simp; omega) (fun d hd' N M hn => ?_) ?_
                · walk_at "d"
                  refine ⟨ss, d, rfl, hss, ?_, fitL_mem hf.2.2 d hd', ?_, hn⟩
                  · rw [isFormsD_all] at hfs
                    exact List.all_eq_true.mp hfs d hd'
                  · have := dpL_mem (List.mem_cons_of_mem (D.str w0) hd')
                    omega
                · walk_at "d"
                  rw [bls_mapF]
                  walk_at "d"
                  rw [List.all_map]
                  exact k
          | _ => cases hw
      | _ => simp [isFormD] at hfo
abbrev s_sound_shapes : Stmt := top 22
abbrev N_sound_shapes : List Str := ["shapes", "bases", "word", "marks", "mark"]
abbrev P_sound_shapes : List Str := ["shapes"]
theorem sc_sound_shapes : FnScope N_sound_shapes P_sound_shapes (defScope s_sound_shapes) := ⟨rfl, rfl, rfl, by decide +kernel, rfl, by decide +kernel, by decide +kernel⟩
def MARKSc : List Nat := [43, 45]
def soundS (ss : List (Str × Str)) : Bool := decide (2 ≤ ss.length) && decide (ss.length ≤ 12) && ss.all (fun p => isWord p.1 && decide (p.2.length ≤ 3) && p.2.cps.toList.all fun c => decide (c ∈ MARKSc)) && decide (2 ≤ (ss.filter fun p => decide (p.2 = Str.ofString "")).length)
theorem marks_c : (Str.ofString "+-").cps.toList = MARKSc := by decide +kernel
def F_soundS : FSpec := fun ds W Q _ => ∃ ss : List (Str × Str), ds = [.dct (dkS ss)] ∧ (ss.map (·.1)).Nodup ∧ ss.length ≤ 1000 ∧ (∀ p ∈ ss, p.1.length ≤ 1000 ∧ p.2.length ≤ 1000) ∧ Q (.bl (soundS ss)) W
theorem ok_sound_shapes (F : Fz K mg "sound_shapes" s_sound_shapes P_sound_shapes) (T : Txt K mg) (G_is_word : Fx P w K mg base (L2.CX P w) "is_word" 1 P_is_word (lift K F_is_word)) : Fx P w K mg base (L2.CX P w) "sound_shapes" 2 P_sound_shapes (lift K F_soundS) := by
  refine F.okD sc_sound_shapes (fun ds W Q E h => ?_) (fun f cdv A outer s H E e ds Qd Ed hr lk h => ?_)
  · obtain ⟨ss, rfl, _⟩ := h
    rfl
  · obtain ⟨ss, rfl, hn, hl, hs, k⟩ := h
    refine ⟨_, _, (pss_cons (ps_if (PW.pt (pw_or (pt_cmpR op_ltU (pe_callB (call_lenU K) (by rfl) T.b_len PySem.boot_len (pa_cons (pv 0) pa_nil)) pe_int (nomark _)) (pw_or1 (pt_cmpR op_gtU (pe_callB (call_lenU K) (by rfl) T.b_len PySem.boot_len (pa_cons (pv 0) pa_nil)) (pglob rfl T.c_MOST_WORDS) (nomark _))))) (pss_one (ps_ret pe_bl)) pss_nil)
      (pss_cons (ps_set (i := 1) sc_sound_shapes.nd rfl (Or.inl rfl) pe_int)
      (pss_cons (ps_for (passes_of rfl) rfl (pi_any K (pv 0)) (pg_name (i := 2) sc_sound_shapes.nd rfl (Or.inl rfl)) (pss_cons (ps_set (i := 3) sc_sound_shapes.nd rfl (Or.inl rfl) (pe_ix (ix_U K (hu_of hr)) (pv 0) (pv 2) (fun _ _ => rfl)))
      (pss_cons (ps_if (PW.pt (pw_or (pt_not (pt_val (fcallX (takes_of rfl rfl rfl rfl) G_is_word (hr.mono (by first | decide | omega)) (by rfl) (pa_cons (pv 2) pa_nil)))) (pw_or (pt_not (pt_val (pe_callB (call_isi1K K) (by rfl) T.b_isinstance (by decide +kernel) (pa_cons (pv 3) (pa_cons (pe_bltn (v := .ty "str") (by rfl) T.b_str (by decide +kernel) rfl) pa_nil))))) (pw_or1 (pt_cmpR op_gtU (pe_callB (call_lenU K) (by rfl) T.b_len PySem.boot_len (pa_cons (pv 3) pa_nil)) (pglob rfl T.c_MOST_PARTS) (nomark _)))))) (pss_one (ps_ret pe_bl)) pss_nil)
      (pss_cons (ps_if (pt_not (pt_val (pe_callB (cr_allK K rfl) (by rfl) T.b_all (by decide +kernel) (pa_cons (pe_lc (own := [("mark", 4)]) (g := (gName 4)) (tt := tYes) rfl sc_sound_shapes.nd (pi_any K (pv 3)) (blkOk_by (own := [("mark", 4)]) (N := N_sound_shapes) (sc := defScope s_sound_shapes) (by decide +kernel)) (fun _ _ _ _ _ => (pg_name (i := 4) sc_sound_shapes.nd rfl (by first | exact Or.inl rfl | exact Or.inr rfl))) (fun _ _ _ _ _ => pts_nil) (fun _ _ _ _ _ => (pe_cmpR (op_inU K (hu65_of hr)) (pv 4) pe_str (by rfl)))) pa_nil)))) (pss_one (ps_ret pe_bl)) pss_nil)
      (pss_one (ps_if (pt_cmpR (op_eqU K hr.units) (pv 3) pe_str (nomark _)) (pss_one (ps_aug (i := 1) sc_sound_shapes.nd rfl (Or.inl rfl) pe_int ip_augU)) pss_nil))))))
      (pss_one (ps_ret (pe_cmpR op_geU (pv 1) pe_int (nomark _))))))), inferInstance, ?_⟩
    have hdl : (dkS ss).length = ss.length := by simp [dkS]
    walk_at "d"
    refine iteB_by (fun c => ?_) (fun c => ?_)
    · walk_at "d"
      rw [soundS, decide_eq_false (show ¬ 2 ≤ ss.length by omega)] at k
      exact k
    · walk_at "d"
      refine iteB_by (fun c2 => ?_) (fun c2 => ?_)
      · walk_at "d"
        rw [soundS, decide_eq_false (show ¬ ss.length ≤ 12 by omega), Bool.and_false] at k
        exact k
      · walk_at "d"
        rw [keys_dkS]
        refine for_map (fun p : Str × Str => D.str p.1) ss (fun i S => ∃ v2 v3 v4, S = ⟨[some (.val (.dct (dkS ss))), some (.val (.int ((ss.take i).filter fun p => decide (p.2 = Str.ofString "")).length)), v2, v3, v4], e.W⟩ ∧ (ss.take i).all (fun p => isWord p.1 && decide (p.2.length ≤ 3) && p.2.cps.toList.all fun c => decide (c ∈ MARKSc)) = true) ⟨_, _, _, rfl, rfl⟩ ?_ ?_
        · rintro i p S hp ⟨v2, v3, v4, rfl, ha⟩
          walk_at "d"
          rw [look_dkS, lkS_get hn hp]
          walk_at "d"
          have hpm := hs p (List.mem_of_getElem? hp)
          have bad : (isWord p.1 && decide (p.2.length ≤ 3) && p.2.cps.toList.all fun c => decide (c ∈ MARKSc)) = false → Qd (.bl false) e.W := fun z => by
            have : (ss.all fun p => isWord p.1 && decide (p.2.length ≤ 3) && p.2.cps.toList.all fun c => decide (c ∈ MARKSc)) = false := by
              rw [← Bool.not_eq_true, List.all_eq_true]
              exact fun h => by rw [h p (List.mem_of_getElem? hp)] at z; cases z
            rw [soundS, this, Bool.and_false, Bool.false_and] at k
            exact k
          refine ⟨_, rfl, by rw [fitD]; exact decide_eq_true hpm.1, ?_⟩
          rw [isWordD]
          cases hw : isWord p.1 with
          | false =>
            walk_at "d"
            exact bad (by rw [hw]; rfl)
          | true =>
            walk_at "d"
            refine ⟨by omega, ?_⟩
            refine iteB_by (fun c3 => ?_) (fun c3 => ?_)
            · walk_at "d"
              exact bad (by rw [decide_eq_false (show ¬ p.2.length ≤ 3 by omega), Bool.and_false, Bool.false_and])
            · walk_at "d"
              refine comp_map (fun c => D.str ⟨#[c]⟩) (fun c => .bl (decide (c ∈ MARKSc))) p.2.cps.toList (by have : p.2.cps.toList.length = p.2.length := rfl; simp only [List.length_nil]; omega) (fun c hc N M hn' => ?_) ?_
              · walk_at "d"
                rw [strIn_sign, marks_c]
                exact hn'
              · walk_at "d"
                rw [bls_mapF]
                walk_at "d"
                rw [List.all_map]
                cases hc : p.2.cps.toList.all fun c => decide (c ∈ MARKSc) with
                | false =>
                  refine iteB_T (by exact hc) ?_
                  walk_at "d"
                  exact bad (by rw [hc, Bool.and_false])
                | true =>
                  refine iteB_F (by rw [show (p.2.cps.toList.all (id ∘ fun c => decide (c ∈ MARKSc))) = true from hc]; simp) ?_
                  walk_at "d"
                  have hnx : (ss.take (i + 1)).all (fun p => isWord p.1 && decide (p.2.length ≤ 3) && p.2.cps.toList.all fun c => decide (c ∈ MARKSc)) = true := by
                    rw [take_succ_get hp, List.all_append, ha, List.all_cons, List.all_nil, hw, hc, decide_eq_true (show p.2.length ≤ 3 by omega)]
                    rfl
                  refine iteB_by (fun c4 => ?_) (fun c4 => ?_)
                  · have hq : (((ss.take (i + 1)).filter fun p => decide (p.2 = Str.ofString "")).length : Int) = (((ss.take i).filter fun p => decide (p.2 = Str.ofString "")).length : Int) + 1 := by
                      rw [take_succ_get hp, List.filter_append, List.filter_cons_of_pos (by exact decide_eq_true c4), List.length_append]
                      rfl
                    walk_at "d"
                    rw [hq]
                    exact ⟨_, _, _, rfl, hnx⟩
                  · have hq : (((ss.take (i + 1)).filter fun p => decide (p.2 = Str.ofString "")).length : Int) = (((ss.take i).filter fun p => decide (p.2 = Str.ofString "")).length : Int) := by
                      rw [take_succ_get hp, List.filter_append, List.filter_cons_of_neg (by simpa using c4), List.filter_nil, List.append_nil]
                    walk_at "d"
                    rw [hq]
                    exact ⟨_, _, _, rfl, hnx⟩
        · rintro S ⟨v2, v3, v4, rfl, ha⟩
          rw [List.take_length] at ha ⊢
          walk_at "d"
          rw [soundS, ha, decide_eq_true (show 2 ≤ ss.length by omega), decide_eq_true (show ss.length ≤ 12 by omega), Bool.true_and, Bool.true_and, Bool.true_and] at k
          rw [show decide ((2 : Int) ≤ ((ss.filter fun p => decide (p.2 = Str.ofString "")).length : Int)) = decide (2 ≤ (ss.filter fun p => decide (p.2 = Str.ofString "")).length) from decide_eq_decide.mpr (by omega)]
          exact k
def stepsF (us : List (Str × Str)) : Nat → Str → Nat
  | 0, _ => 0
  | m + 1, x => match lkS us x with
    | none => 0
    | some y => stepsF us m y + 1
def leadsB (us : List (Str × Str)) : Bool := us.any fun p => decide (us.length < stepsF us (us.length + 1) p.1)
abbrev s_leads_back : Stmt := top 21
abbrev N_leads_back : List Str := ["above", "start", "at", "steps"]
abbrev P_leads_back : List Str := ["above"]
theorem sc_leads_back : FnScope N_leads_back P_leads_back (defScope s_leads_back) := ⟨rfl, rfl, rfl, by decide +kernel, rfl, by decide +kernel, by decide +kernel⟩
def F_leads : FSpec := fun ds W Q _ => ∃ us : List (Str × Str), ds = [.dct (dkS us)] ∧ us.length ≤ 1000 ∧ Q (.bl (leadsB us)) W
theorem while_by {c : TDT} {tb : TDS} {E : DEnds} {S : PSt} (I : Nat → PSt → Prop) (m : Nat) (h0 : I m S) (hs : ∀ m S, I m S → c S fun b S1 => if b = true then ∃ N : PSt → Prop, (∀ S', N S' → ∃ m', m' < m ∧ I m' S') ∧ tb ⟨N, E.rt, E.nx, N, E.rn⟩ S1 else E.nx S1) : @whileB S ⟨c⟩ ⟨tb⟩ ⟨E⟩ := ⟨I, ⟨m, h0⟩, hs⟩
theorem ok_leads_back (F : Fz K mg "leads_back" s_leads_back P_leads_back) (T : Txt K mg) : Fx P w K mg base (L2.CX P w) "leads_back" 1 P_leads_back (lift K F_leads) := by
  refine F.okD sc_leads_back (fun ds W Q E h => ?_) (fun f cdv A outer s H E e ds Qd Ed hr lk h => ?_)
  · obtain ⟨us, rfl, _⟩ := h
    rfl
  · obtain ⟨us, rfl, hl, k⟩ := h
    refine ⟨_, _, (pss_cons (ps_for (passes_of rfl) rfl (pi_any K (pv 0)) (pg_name (i := 1) sc_leads_back.nd rfl (Or.inl rfl)) (pss_cons (ps_set (i := 2) sc_leads_back.nd rfl (Or.inl rfl) (pv 1))
      (pss_cons (ps_set (i := 3) sc_leads_back.nd rfl (Or.inl rfl) pe_int)
      (pss_cons (ps_while (passes_of rfl) (PW.pt (pw_and (pt_cmpR (op_inU K (hu65_of hr)) (pv 2) (pv 0) (by rfl)) (pw_and1 (pt_cmpR op_leU (pv 3) (pe_callB (call_lenU K) (by rfl) T.b_len PySem.boot_len (pa_cons (pv 0) pa_nil)) (nomark _))))) (pss_cons (ps_set (i := 2) sc_leads_back.nd rfl (Or.inl rfl) (pe_ix (ix_U K (hu_of hr)) (pv 0) (pv 2) (fun _ _ => rfl)))
      (pss_one (ps_aug (i := 3) sc_leads_back.nd rfl (Or.inl rfl) pe_int ip_augU))))
      (pss_one (ps_if (pt_cmpR op_gtU (pv 3) (pe_callB (call_lenU K) (by rfl) T.b_len PySem.boot_len (pa_cons (pv 0) pa_nil)) (nomark _)) (pss_one (ps_ret pe_bl)) pss_nil))))))
      (pss_one (ps_ret pe_bl))), inferInstance, ?_⟩
    have hdl : (dkS us).length = us.length := by simp [dkS]
    walk_at "d"
    rw [keys_dkS]
    refine for_map (fun p : Str × Str => D.str p.1) us (fun i S => ∃ v1 v2 v3, S = ⟨[some (.val (.dct (dkS us))), v1, v2, v3], e.W⟩ ∧ (us.take i).any (fun p => decide (us.length < stepsF us (us.length + 1) p.1)) = false) ⟨_, _, _, rfl, rfl⟩ ?_ ?_
    · rintro i p S hp ⟨v1, v2, v3, rfl, ha⟩
      walk_at "d"
      refine while_by (fun m S => ∃ (x : Str) (j : Nat), S = ⟨[some (.val (.dct (dkS us))), some (.val (.str p.1)), some (.val (.str x)), some (.val (.int j))], e.W⟩ ∧ j + m = us.length + 1 ∧ stepsF us (us.length + 1) p.1 = j + stepsF us m x) (us.length + 1) ⟨p.1, 0, rfl, by omega, by omega⟩ ?_
      rintro m S ⟨x, j, rfl, hjm, hst⟩
      walk_at "d"
      rw [look_dkS]
      have fin : (lkS us x = none ∨ m = 0) → j = stepsF us (us.length + 1) p.1 := fun h => by
        rw [hst]
        rcases h with h | h
        · cases m with
          | zero => rfl
          | succ m => rw [stepsF, h]; rfl
        · subst h; rfl
      have ends : j = stepsF us (us.length + 1) p.1 → ∀ b : Bool, us.length < j → us.any (fun p => decide (us.length < stepsF us (us.length + 1) p.1)) = true := fun h _ c => by
        rw [List.any_eq_true]
        exact ⟨p, List.mem_of_getElem? hp, by rw [← h]; exact decide_eq_true c⟩
      have nxt : j = stepsF us (us.length + 1) p.1 → ¬ us.length < j → (us.take (i + 1)).any (fun p => decide (us.length < stepsF us (us.length + 1) p.1)) = false := fun h c => by
        rw [take_succ_get hp, List.any_append, ha, List.any_cons, List.any_nil, ← h, decide_eq_false c]; rfl
      cases hx : lkS us x with
      | none =>
        walk_at "d"
        refine iteB_by (fun c => ?_) (fun c => ?_)
        · walk_at "d"
          rw [leadsB, ends (fin (.inl hx)) true (by omega)] at k
          exact k
        · walk_at "d"
          exact ⟨_, _, _, rfl, nxt (fin (.inl hx)) (by omega)⟩
      | some y =>
        walk_at "d"
        refine iteB_by (fun c => ?_) (fun c => ?_)
        · walk_at "d"
          refine ⟨_, fun S' h => h, ?_⟩
          rw [look_dkS, hx]
          walk_at "d"
          obtain ⟨m, rfl⟩ : ∃ n, m = n + 1 := ⟨m - 1, by omega⟩
          refine ⟨m, by omega, y, j + 1, rfl, by omega, ?_⟩
          rw [hst, stepsF, hx]
          show j + (stepsF us m y + 1) = _
          omega
        · walk_at "d"
          refine iteB_by (fun c => ?_) (fun c => ?_)
          · walk_at "d"
            rw [leadsB, ends (fin (.inr (by omega))) true (by omega)] at k
            exact k
          · walk_at "d"
            exact ⟨_, _, _, rfl, nxt (fin (.inr (by omega))) (by omega)⟩
    · rintro S ⟨v1, v2, v3, rfl, ha⟩
      rw [List.take_length] at ha
      walk_at "d"
      rw [leadsB, ha] at k
      exact k
abbrev s_sound_order : Stmt := top 23
abbrev N_sound_order : List Str := ["shapes", "above", "low", "word"]
abbrev P_sound_order : List Str := ["shapes", "above"]
theorem sc_sound_order : FnScope N_sound_order P_sound_order (defScope s_sound_order) := ⟨rfl, rfl, rfl, by decide +kernel, rfl, by decide +kernel, by decide +kernel⟩
def NOMK : Str := Str.ofString ""
def soundO (ss us : List (Str × Str)) : Bool := (us.all fun p => decide (lkS ss p.1 = some NOMK) && decide (lkS ss p.2 = some NOMK)) && !leadsB us
def F_soundO : FSpec := fun ds W Q _ => ∃ ss us : List (Str × Str), ds = [.dct (dkS ss), .dct (dkS us)] ∧ (us.map (·.1)).Nodup ∧ us.length ≤ 1000 ∧ ss.length ≤ 1000 ∧ Q (.bl (soundO ss us)) W
theorem ok_sound_order (F : Fz K mg "sound_order" s_sound_order P_sound_order) (T : Txt K mg) (G_leads_back : Fx P w K mg base (L2.CX P w) "leads_back" 1 P_leads_back (lift K F_leads)) : Fx P w K mg base (L2.CX P w) "sound_order" 2 P_sound_order (lift K F_soundO) := by
  refine F.okD sc_sound_order (fun ds W Q E h => ?_) (fun f cdv A outer s H E e ds Qd Ed hr lk h => ?_)
  · obtain ⟨ss, us, rfl, _⟩ := h
    rfl
  · obtain ⟨ss, us, rfl, hn, hu, hs, k⟩ := h
    refine ⟨_, _, (pss_cons (ps_for (passes_of rfl) rfl (pi_any K (pv 1)) (pg_name (i := 2) sc_sound_order.nd rfl (Or.inl rfl)) (pss_one (ps_for (passes_of rfl) rfl (pi_any K (pe_tup (pa_cons (pv 2) (pa_cons (pe_ix (ix_U K (hu_of hr)) (pv 1) (pv 2) (fun _ _ => rfl)) pa_nil)))) (pg_name (i := 3) sc_sound_order.nd rfl (Or.inl rfl)) (pss_one (ps_if (PW.pt (pw_or (pt_cmpR (op_notInU K (hu65_of hr)) (pv 3) (pv 0) (by rfl)) (pw_or1 (pt_cmpR (op_neU K hr.units) (pe_ix (ix_U K (hu_of hr)) (pv 0) (pv 3) (fun _ _ => rfl)) pe_str (nomark _))))) (pss_one (ps_ret pe_bl)) pss_nil)))))
      (pss_one (ps_ret (pe_not (fcallX (takes_of rfl rfl rfl rfl) G_leads_back (hr.mono (by first | decide | omega)) (by rfl) (pa_cons (pv 1) pa_nil)))))), inferInstance, ?_⟩
    walk_at "d"
    rw [keys_dkS]
    refine for_map (fun p : Str × Str => D.str p.1) us (fun i S => ∃ v2 v3, S = ⟨[some (.val (.dct (dkS ss))), some (.val (.dct (dkS us))), v2, v3], e.W⟩ ∧ (us.take i).all (fun p => decide (lkS ss p.1 = some NOMK) && decide (lkS ss p.2 = some NOMK)) = true) ⟨_, _, rfl, rfl⟩ ?_ ?_
    · rintro i p S hp ⟨v2, v3, rfl, ha⟩
      walk_at "d"
      rw [look_dkS, lkS_get hn hp]
      walk_at "d"
      have bad : (decide (lkS ss p.1 = some NOMK) && decide (lkS ss p.2 = some NOMK)) = false → Qd (.bl false) e.W := fun z => by
        have : (us.all fun p => decide (lkS ss p.1 = some NOMK) && decide (lkS ss p.2 = some NOMK)) = false := by
          rw [← Bool.not_eq_true, List.all_eq_true]
          exact fun h => by rw [h p (List.mem_of_getElem? hp)] at z; cases z
        rw [soundO, this] at k
        exact k
      refine for_map (fun x : Str => D.str x) [p.1, p.2] (fun j S => ∃ v3, S = ⟨[some (.val (.dct (dkS ss))), some (.val (.dct (dkS us))), some (.val (.str p.1)), v3], e.W⟩ ∧ ∀ x ∈ [p.1, p.2].take j, lkS ss x = some NOMK) ⟨_, rfl, by simp⟩ ?_ ?_
      · rintro j x S hx ⟨v3, rfl, hj⟩
        have hxm := List.mem_of_getElem? hx
        have badx : lkS ss x ≠ some NOMK → Qd (.bl false) e.W := fun z => by
          refine bad ?_
          simp only [List.mem_cons, List.not_mem_nil, or_false] at hxm
          rcases hxm with rfl | rfl
          · rw [decide_eq_false z, Bool.false_and]
          · rw [decide_eq_false z, Bool.and_false]
        walk_at "d"
        rw [look_dkS]
        cases hxx : lkS ss x with
        | none =>
          walk_at "d"
          exact badx (by rw [hxx]; simp)
        | some y =>
          walk_at "d"
          rw [look_dkS, hxx]
          walk_at "d"
          refine iteB_by (fun c => ?_) (fun c => ?_)
          · walk_at "d"
            exact badx (by rw [hxx]; exact fun z => c (Option.some.inj z))
          · walk_at "d"
            refine ⟨_, rfl, fun z hz => ?_⟩
            rw [take_succ_get hx] at hz
            rcases List.mem_append.mp hz with hz | hz
            · exact hj z hz
            · rw [List.mem_singleton.mp hz, hxx]
              exact congrArg some (Classical.not_not.mp c)
      · rintro S ⟨v3, rfl, hj⟩
        refine ⟨_, _, rfl, ?_⟩
        have h1 := hj p.1 (by simp)
        have h2 := hj p.2 (by simp)
        rw [take_succ_get hp, List.all_append, ha, List.all_cons, List.all_nil, h1, h2]
        simp
    · rintro S ⟨v2, v3, rfl, ha⟩
      rw [List.take_length] at ha
      walk_at "d"
      refine ⟨us, rfl, hu, ?_⟩
      rw [soundO, ha] at k
      walk_at "d"
      exact k
abbrev s_Stock___init__ : Stmt := inClass (top 24) 0
abbrev N_Stock___init__ : List Str := ["self", "shapes", "under"]
abbrev P_Stock___init__ : List Str := ["self", "shapes", "under"]
theorem sc_Stock___init__ : FnScope N_Stock___init__ P_Stock___init__ (defScope s_Stock___init__) := ⟨rfl, rfl, rfl, by decide +kernel, rfl, by decide +kernel, by decide +kernel⟩
def stkC (ss us : List (Str × Str)) : List (Str × D) := [("shapes", .dct (dkS ss)), ("above", .dct (dkS us))]
def soundB (ss us : List (Str × Str)) : Bool := soundS ss && soundO ss us
def F_mkStock (C B : Addr) : FSpec := fun ds W Q E => ∃ (a : Addr) (W0 : Wd) (x y : D) (ss us : List (Str × Str)), ds = [.ref a, x, y] ∧ W = W0.put a (.ins C []) ∧ W0.ω a = none ∧ vD W0 x = some (.dct (dkS ss)) ∧ ((y = .non ∧ us = []) ∨ vD W0 y = some (.dct (dkS us))) ∧ (ss.map (·.1)).Nodup ∧ (us.map (·.1)).Nodup ∧ ss.length ≤ 1000 ∧ us.length ≤ 1000 ∧ (∀ p ∈ ss, p.1.length ≤ 1000 ∧ p.2.length ≤ 1000) ∧
  (soundB ss us = true → Q .non (W0.put a (.ins C (stkC ss us)))) ∧ (soundB ss us = false → E ⟨B, []⟩ (W0.put a (.ins C (stkC ss us))))
theorem body_mkStock (T : Txt K mg) (G_sound_shapes : Fx P w K mg base (L2.CX P w) "sound_shapes" 2 P_sound_shapes (lift K F_soundS)) (G_sound_order : Fx P w K mg base (L2.CX P w) "sound_order" 2 P_sound_order (lift K F_soundO)) : BodyD P w K mg base N_Stock___init__ "Stock.__init__" s_Stock___init__ 3 (F_mkStock (clsA mg "Stock") (clsA mg "BadKind")) := by
  intro f cdv A outer s H E e ds Qd Ed hr lk h
  obtain ⟨a, W0, x, y, ss, us, rfl, hW, ha, hx, hy, hn, hm, hl, hk, hs, kq, ke⟩ := h
  refine ⟨_, _, (pss_cons (setX T.f_Stock_shapes (pv 0) (pe_callTy (call_dictU K rfl) (by rfl) T.b_dict (by decide +kernel) (pa_cons (pv 1) pa_nil)))
      (pss_cons (setX T.f_Stock_above (pv 0) pe_dnewK)
      (pss_cons (ps_if (pt_cmpR op_notNU (pv 2) pe_non (nomark _)) (pss_one (setX T.f_Stock_above (pv 0) (pe_callTy (call_dictU K rfl) (by rfl) T.b_dict (by decide +kernel) (pa_cons (pv 2) pa_nil)))) pss_nil)
      (pss_one (ps_if (PW.pt (pw_or (pt_not (pt_val (fcallX (takes_of rfl rfl rfl rfl) G_sound_shapes (hr.mono (by first | decide | omega)) (by rfl) (pa_cons (fldX T.f_Stock_shapes (pv 0)) pa_nil)))) (pw_or1 (pt_not (pt_val (fcallX (takes_of rfl rfl rfl rfl) G_sound_order (hr.mono (by first | decide | omega)) (by rfl) (pa_cons (fldX T.f_Stock_shapes (pv 0)) (pa_cons (fldX T.f_Stock_above (pv 0)) pa_nil)))))))) (pss_one (ps_raiseU rfl (takes_of rfl rfl rfl rfl) (pmk_own PySem.F.excBase_ValueError T.e_BadKind.ex T.e_BadKind.g T.e_BadKind.k (raises_own T.e_BadKind.b T.e_BadKind.t) rfl))) pss_nil))))), inferInstance, ?_⟩
  rw [hW]
  walk_at "d"
  refine dd1B_at ((vD_put (vD_nref ha hx)).trans hx) ?_
  walk_at "d"
  have fin : soundB ss us = (soundS ss && soundO ss us) := rfl
  rcases hy with ⟨rfl, rfl⟩ | hy
  · walk_at "d"
    refine ⟨by omega, by omega, ss, rfl, hn, hl, hs, ?_⟩
    cases h1 : soundS ss with
    | false =>
      walk_at "d"
      exact ke (by rw [fin, h1]; rfl)
    | true =>
      walk_at "d"
      refine ⟨ss, [], rfl, hm, hk, hl, ?_⟩
      cases h2 : soundO ss [] with
      | false =>
        walk_at "d"
        exact ke (by rw [fin, h1, h2]; rfl)
      | true =>
        walk_at "d"
        exact kq (by rw [fin, h1, h2]; rfl)
  · refine ⟨by omega, by omega, iteB_T (by cases y <;> first | rfl | (cases hy)) ?_⟩
    walk_at "d"
    refine dd1B_at ((vD_put (vD_nref ha hy)).trans hy) ?_
    walk_at "d"
    refine ⟨by omega, ss, rfl, hn, hl, hs, ?_⟩
    cases h1 : soundS ss with
    | false =>
      walk_at "d"
      exact ke (by rw [fin, h1]; rfl)
    | true =>
      walk_at "d"
      refine ⟨ss, us, rfl, hm, hk, hl, ?_⟩
      cases h2 : soundO ss us with
      | false =>
        walk_at "d"
        exact ke (by rw [fin, h1, h2]; rfl)
      | true =>
        walk_at "d"
        exact kq (by rw [fin, h1, h2]; rfl)
theorem ok_mkStock2 (Z : Kz K (clsA mg "Stock") "Stock.__init__" s_Stock___init__ P_Stock___init__ []) (T : Txt K mg) (G1 : Fx P w K mg base (L2.CX P w) "sound_shapes" 2 P_sound_shapes (lift K F_soundS)) (G2 : Fx P w K mg base (L2.CX P w) "sound_order" 2 P_sound_order (lift K F_soundO)) : Kx P w K mg base (clsA mg "Stock") 4 P_Stock___init__ [] (lift K (F_mkStock (clsA mg "Stock") (clsA mg "BadKind"))) :=
  Z.okD sc_Stock___init__ (fun ds W Q E h => by obtain ⟨a, W0, x, y, ss, us, rfl, _⟩ := h; rfl) (body_mkStock T G1 G2)
inductive PlaceOf (ss : List (Str × Str)) (L : Str) (n : Nat) : D → Prop
  | bare {d : D} (h : FormOf ss L n d) : PlaceOf ss L n (.tup [.non, d])
  | bound {b d : D} (hb : FormOf ss L n b) (h : FormOf ss L n d) : PlaceOf ss L n (.tup [b, d])
abbrev s__law_rule : Stmt := top 67
abbrev N__law_rule : List Str := ["_law_tape_here", "_law_shapes", "_law_letters", "_law_most", "_law_depth", "_law_row", "_law_k", "_law_bound"]
abbrev P__law_rule : List Str := ["_law_tape_here", "_law_shapes", "_law_letters", "_law_most", "_law_depth"]
theorem sc__law_rule : FnScope N__law_rule P__law_rule (defScope s__law_rule) := ⟨rfl, rfl, rfl, by decide +kernel, rfl, by decide +kernel, by decide +kernel⟩
def F_rule (n : Nat) : FSpec := fun ds W Q _ => ∃ (ss : List (Str × Str)) (L : Str) (m : Nat), ds = [.tape, .dct (dkS ss), .str L, .int m, .int n] ∧ Shp ss ∧ L.length ≤ 1000 ∧ m ≤ 50 ∧
  ∀ (ps : List D) (d : D), ps.length ≤ m → (∀ p ∈ ps, PlaceOf ss L n p) → FormOf ss L n d → Q (.tup [.tup ps, d]) W
theorem ok__law_rule (F : Fz K mg "_law_rule" s__law_rule P__law_rule) (T : Txt K mg) (G__law_take : Fx P w K mg base (L2.CX P w) "_law_take" 1 P__law_take (lift K F_take)) (n : Nat) (G__law_form : Fx P w K mg base (L2.CX P w) "_law_form" (n + 3) P__law_form (lift K (F_form n))) : Fx P w K mg base (L2.CX P w) "_law_rule" (n + 4) P__law_rule (lift K (F_rule n)) := by
  refine F.okD sc__law_rule (fun ds W Q E h => ?_) (fun f cdv A outer s H E e ds Qd Ed hr lk h => ?_)
  · obtain ⟨ss, L, m, rfl, _⟩ := h
    rfl
  · obtain ⟨ss, L, m, rfl, hs, hL, hm, k⟩ := h
    refine ⟨_, _, (pss_cons (setO_of (ps_set (i := 5) sc__law_rule.nd rfl (Or.inl rfl) (pe_lst pa_nil)))
      (pss_cons (ps_for (passes_of rfl) rfl (pi_range1 (by rfl) T.b_range (pa_cons (fcallX (takes_of rfl rfl rfl rfl) G__law_take (hr.mono (by first | decide | omega)) (by rfl) (pa_cons (pv 0) (pa_cons (pe_op (op_addU K) (pv 3) pe_int) pa_nil))) pa_nil)) (pg_name (i := 6) sc__law_rule.nd rfl (Or.inl rfl)) (pss_cons (ps_set (i := 7) sc__law_rule.nd rfl (Or.inl rfl) pe_non)
      (pss_cons (ps_if (pt_cmpR (op_eqU K hr.units) (fcallX (takes_of rfl rfl rfl rfl) G__law_take (hr.mono (by first | decide | omega)) (by rfl) (pa_cons (pv 0) (pa_cons pe_int pa_nil))) pe_int (nomark _)) (pss_one (ps_set (i := 7) sc__law_rule.nd rfl (Or.inl rfl) (fcallX (takes_of rfl rfl rfl rfl) G__law_form (hr.mono (by first | decide | omega)) (by rfl) (pa_cons (pv 0) (pa_cons (pv 1) (pa_cons (pv 2) (pa_cons (pv 4) pa_nil))))))) pss_nil)
      (pss_one (ps_expr (pe_bmK K PySem.F.plainAttrs_list PySem.F.slot_list_append PySem.F.type_list_append mt_append (pv 5) (pa_cons (pe_tup (pa_cons (pv 7) (pa_cons (fcallX (takes_of rfl rfl rfl rfl) G__law_form (hr.mono (by first | decide | omega)) (by rfl) (pa_cons (pv 0) (pa_cons (pv 1) (pa_cons (pv 2) (pa_cons (pv 4) pa_nil))))) pa_nil))) pa_nil)))))))
      (pss_one (ps_ret (pe_tup (pa_cons (pe_callTy (call_tuple_ofK K) (by rfl) T.b_tuple (by decide +kernel) (pa_cons (pv 5) pa_nil)) (pa_cons (fcallX (takes_of rfl rfl rfl rfl) G__law_form (hr.mono (by first | decide | omega)) (by rfl) (pa_cons (pv 0) (pa_cons (pv 1) (pa_cons (pv 2) (pa_cons (pv 4) pa_nil))))) pa_nil))))))), inferInstance, ?_⟩
    walk_at "d"
    refine ⟨_, rfl, by omega, fun q q0 q1 => ?_⟩
    walk_at "d"
    refine ⟨by omega, by omega, ?_⟩
    refine for_rng (fun i S => ∃ v6 v7 ps, S = ⟨[some (.val .tape), some (.val (.dct (dkS ss))), some (.val (.str L)), some (.val (.int m)), some (.val (.int n)), some (.ownL ps), v6, v7], e.W⟩ ∧ ps.length = i ∧ ∀ p ∈ ps, PlaceOf ss L n p) ⟨_, _, [], rfl, rfl, by simp⟩ ?_ ?_
    · rintro i S hi ⟨v6, v7, ps, rfl, hp, hps⟩
      walk_at "d"
      refine ⟨_, rfl, by omega, fun t t0 t1 => ?_⟩
      walk_at "d"
      refine iteB_by (fun c => ?_) (fun c => ?_)
      · walk_at "d"
        refine ⟨ss, L, rfl, hs, hL, fun b hb => ?_⟩
        walk_at "d"
        refine ⟨ss, L, rfl, hs, hL, fun d hd => ?_⟩
        walk_at "d"
        refine ⟨by omega, _, _, _, rfl, by simp; omega, fun p hp => ?_⟩
        rcases List.mem_append.mp hp with hp | hp
        · exact hps p hp
        · rw [List.mem_singleton.mp hp]; exact .bound hb hd
      · walk_at "d"
        refine ⟨ss, L, rfl, hs, hL, fun d hd => ?_⟩
        walk_at "d"
        refine ⟨by omega, _, _, _, rfl, by simp; omega, fun p hp => ?_⟩
        rcases List.mem_append.mp hp with hp | hp
        · exact hps p hp
        · rw [List.mem_singleton.mp hp]; exact .bare hd
    · rintro S ⟨v6, v7, ps, rfl, hp, hps⟩
      walk_at "d"
      refine ⟨ss, L, rfl, hs, hL, fun d hd => ?_⟩
      walk_at "d"
      exact k ps d (by omega) hps hd
abbrev s_UnknownSign_init : Stmt := inClass (top 7) 0
theorem fs_UnknownSign : FsS ["self", "sign"] (defScope s_UnknownSign_init) := ⟨rfl, rfl, rfl, by decide +kernel, by decide +kernel, by decide +kernel, by decide +kernel⟩
theorem mk_raise_UnknownSign {fI cda cc : Addr} {oc cl ccl kV doc pm ct : Value} {an od cld cdd : Option Addr} {osl csl ccs : Array (Option Value)} {vs0 : Array Value} {file : Str} {tf : Tok} (hm : mg "UnknownSign" = some (.ref (clsA mg "UnknownSign"))) (T : SupT P K mg (clsA mg "UnknownSign")) (iC : PySem.W.findIn K (.ref (clsA mg "UnknownSign")) "__init__" = some (some (.ref fI))) (tI : PySem.W.typeIn K (.ref fI) = some (.type "function")) (nf : PySem.W.findIn K (.ref (clsA mg "UnknownSign")) "sign" = some none)
    (lk : K.lookup fI = some ⟨oc, od, .func (PySem.W.ksFn "__init__" "UnknownSign.__init__" (defArgs s_UnknownSign_init) (defBody s_UnknownSign_init) (defScope s_UnknownSign_init) .none kV doc pm an (.ref cda) ct cc), osl⟩) (hcd : PySem.W.codeIn K (.ref cda) "UnknownSign.__init__" = true) (hcode : K.lookup cda = some ⟨ccl, cdd, .fields vs0, ccs⟩) (hvs : vs0[2]? = some (.str file tf)) (hfile : ((P.main.file : Str) == file) = true) (hcell : K.lookup cc = some ⟨cl, cld, .cell (some (.ref (clsA mg "UnknownSign"))), csl⟩) : RaiseT P w K mg base "UnknownSign" ["sign"] false :=
  raise1 hm T.oex iC tI nf (fn_super (k := 0) T lk hcd hcode hvs hfile hcell fs_UnknownSign rfl rfl rfl rfl (fun _ _ _ _ _ => pa_cons pe_str pa_nil) (fun _ _ _ _ _ => pss_one (ps_ost (pv 0) (pv 1)))) (Binds.all fun us hl => match us, hl with | [_, _], _ => rfl) (fun a y H Q ho k => k _ (by show 1 ≤ 1000; decide))
abbrev s_NoWay_init : Stmt := inClass (top 8) 0
theorem fs_NoWay : FsS ["self", "sign"] (defScope s_NoWay_init) := ⟨rfl, rfl, rfl, by decide +kernel, by decide +kernel, by decide +kernel, by decide +kernel⟩
theorem mk_raise_NoWay {fI cda cc : Addr} {oc cl ccl kV doc pm ct : Value} {an od cld cdd : Option Addr} {osl csl ccs : Array (Option Value)} {vs0 : Array Value} {file : Str} {tf : Tok} (hm : mg "NoWay" = some (.ref (clsA mg "NoWay"))) (T : SupT P K mg (clsA mg "NoWay")) (iC : PySem.W.findIn K (.ref (clsA mg "NoWay")) "__init__" = some (some (.ref fI))) (tI : PySem.W.typeIn K (.ref fI) = some (.type "function")) (nf : PySem.W.findIn K (.ref (clsA mg "NoWay")) "sign" = some none)
    (lk : K.lookup fI = some ⟨oc, od, .func (PySem.W.ksFn "__init__" "NoWay.__init__" (defArgs s_NoWay_init) (defBody s_NoWay_init) (defScope s_NoWay_init) .none kV doc pm an (.ref cda) ct cc), osl⟩) (hcd : PySem.W.codeIn K (.ref cda) "NoWay.__init__" = true) (hcode : K.lookup cda = some ⟨ccl, cdd, .fields vs0, ccs⟩) (hvs : vs0[2]? = some (.str file tf)) (hfile : ((P.main.file : Str) == file) = true) (hcell : K.lookup cc = some ⟨cl, cld, .cell (some (.ref (clsA mg "NoWay"))), csl⟩) : RaiseT P w K mg base "NoWay" ["sign"] false :=
  raise1 hm T.oex iC tI nf (fn_super (k := 0) T lk hcd hcode hvs hfile hcell fs_NoWay rfl rfl rfl rfl (fun _ _ _ _ _ => pa_cons pe_str pa_nil) (fun _ _ _ _ _ => pss_one (ps_ost (pv 0) (pv 1)))) (Binds.all fun us hl => match us, hl with | [_, _], _ => rfl) (fun a y H Q ho k => k _ (by show 1 ≤ 1000; decide))
mutual
def hasLetD : D → Bool
  | .str _ => true
  | .tup ds => match ds with
    | [] => false
    | _ :: ds => hasLetL ds
  | _ => false
def hasLetL : List D → Bool
  | [] => false
  | d :: ds => hasLetD d || hasLetL ds
end
theorem hasLetL_any : ∀ ds : List D, hasLetL ds = ds.any hasLetD
  | [] => by rw [hasLetL]; rfl
  | d :: ds => by rw [hasLetL, hasLetL_any ds]; rfl
abbrev s_has_letters : Stmt := top 18
abbrev N_has_letters : List Str := ["pattern", "part"]
abbrev P_has_letters : List Str := ["pattern"]
theorem sc_has_letters : FnScope N_has_letters P_has_letters (defScope s_has_letters) := ⟨rfl, rfl, rfl, by decide +kernel, rfl, by decide +kernel, by decide +kernel⟩
def F_has_letters (n : Nat) : FSpec := fun ds W Q _ => ∃ d, ds = [d] ∧ isFormD d = true ∧ fitD d = true ∧ dpD d < n ∧ Q (.bl (hasLetD d)) W
theorem ok_has_letters (F : Fz K mg "has_letters" s_has_letters P_has_letters) (T : Txt K mg) (G_is_letter : Fx P w K mg base (L2.CX P w) "is_letter" 1 P_is_letter (lift K F_is_letter)) : ∀ n, Fx P w K mg base (L2.CX P w) "has_letters" (n + 2) P_has_letters (lift K (F_has_letters n))
  | 0 => F.noneD fun ds W Q E ⟨d, _, _, _, z, _⟩ => by omega
  | n + 1 => by
    have G_has_letters := ok_has_letters F T G_is_letter n
    refine F.okD sc_has_letters (fun ds W Q E h => ?_) (fun f cdv A outer s H E e ds Qd Ed hr lk h => ?_)
    · obtain ⟨d, rfl, _⟩ := h
      rfl
    · obtain ⟨d, rfl, hfo, hf, hd, k⟩ := h
      refine ⟨_, _, (pss_cons (ps_if (pt_val (fcallX (takes_of rfl rfl rfl rfl) G_is_letter (hr.mono (by first | decide | omega)) (by rfl) (pa_cons (pv 0) pa_nil))) (pss_one (ps_ret pe_bl)) pss_nil)
      (pss_one (ps_ret (pe_callB (cr_anyK K rfl) (by rfl) T.b_any (by decide +kernel) (pa_cons (pe_lc (own := [("part", 1)]) (g := (gName 1)) (tt := tYes) rfl sc_has_letters.nd (pi_any K (pe_slice (sl_U K) (pv 0) (po_some pe_int) po_none)) (blkOk_by (own := [("part", 1)]) (N := N_has_letters) (sc := defScope s_has_letters) (by decide +kernel)) (fun _ _ _ _ _ => (pg_name (i := 1) sc_has_letters.nd rfl (by first | exact Or.inl rfl | exact Or.inr rfl))) (fun _ _ _ _ _ => pts_nil) (fun _ _ _ _ _ => (fcallX takes0 G_has_letters (hr.mono (by first | decide | omega)) (by rfl) (pa_cons (pv 1) pa_nil)))) pa_nil))))), inferInstance, ?_⟩
      walk_at "d"
      refine ⟨d, rfl, hf, ?_⟩
      cases d with
      | str x =>
        rw [isFormD] at hfo
        rw [isLetterD, hfo]
        rw [hasLetD] at k
        walk_at "d"
        exact k
      | tup ds =>
        have e0 : isLetterD (.tup ds) = false := rfl
        rw [e0]
        cases ds with
        | nil => rw [isFormD] at hfo; cases hfo
        | cons d0 ds =>
          rw [isFormD, Bool.and_eq_true, Bool.and_eq_true] at hfo
          rw [fitD, Bool.and_eq_true, fitL, Bool.and_eq_true] at hf
          rw [dpD] at hd
          obtain ⟨⟨h3, hw⟩, hfs⟩ := hfo
          have h3 := of_decide_eq_true h3
          rw [hasLetD, hasLetL_any] at k
          walk_at "d"
          refine comp_lst (fun d => .bl (hasLetD d)) (by simp; omega) (fun d hd' N M hn => ?_) ?_
          · walk_at "d"
            refine ⟨d, rfl, ?_, fitL_mem hf.2.2 d hd', ?_, hn⟩
            · rw [isFormsD_all] at hfs
              exact List.all_eq_true.mp hfs d hd'
            · have := dpL_mem (List.mem_cons_of_mem d0 hd')
              omega
          · walk_at "d"
            rw [bls_mapF]
            walk_at "d"
            rw [List.any_map]
            exact k
      | _ => simp [isFormD] at hfo
abbrev s_is_kind : Stmt := top 20
abbrev N_is_kind : List Str := ["stock", "value"]
abbrev P_is_kind : List Str := ["stock", "value"]
theorem sc_is_kind : FnScope N_is_kind P_is_kind (defScope s_is_kind) := ⟨rfl, rfl, rfl, by decide +kernel, rfl, by decide +kernel, by decide +kernel⟩
def isKindD (ss : List (Str × Str)) (d : D) : Bool := isFormD d && !hasLetD d && fitsD ss d
def F_is_kind (C : Addr) (n : Nat) : FSpec := fun ds W Q _ => ∃ (ss us : List (Str × Str)) (d : D), ds = [.obj C (stkC ss us), d] ∧ (∀ p ∈ ss, p.2.length ≤ 1000) ∧ fitD d = true ∧ dpD d < n ∧ Q (.bl (isKindD ss d)) W
theorem ok_is_kind (F : Fz K mg "is_kind" s_is_kind P_is_kind) (T : Txt K mg) {n : Nat} (G_is_form : Fx P w K mg base (L2.CX P w) "is_form" (n + 2) P_is_form (lift K (F_is_form n))) (G_has_letters : Fx P w K mg base (L2.CX P w) "has_letters" (n + 2) P_has_letters (lift K (F_has_letters n))) (G_fits_shapes : Fx P w K mg base (L2.CX P w) "fits_shapes" (n + 2) P_fits_shapes (lift K (F_fits n))) : Fx P w K mg base (L2.CX P w) "is_kind" (n + 3) P_is_kind (lift K (F_is_kind (clsA mg "Stock") n)) := by
  refine F.okD sc_is_kind (fun ds W Q E h => ?_) (fun f cdv A outer s H E e ds Qd Ed hr lk h => ?_)
  · obtain ⟨ss, us, d, rfl, _⟩ := h
    rfl
  · obtain ⟨ss, us, d, rfl, hss, hf, hd, k⟩ := h
    refine ⟨_, _, (pss_one (ps_ret (pe_and (fcallX (takes_of rfl rfl rfl rfl) G_is_form (hr.mono (by first | decide | omega)) (by rfl) (pa_cons (pv 1) pa_nil)) (pe_and (pe_not (fcallX (takes_of rfl rfl rfl rfl) G_has_letters (hr.mono (by first | decide | omega)) (by rfl) (pa_cons (pv 1) pa_nil))) (pe_one (fcallX (takes_of rfl rfl rfl rfl) G_fits_shapes (hr.mono (by first | decide | omega)) (by rfl) (pa_cons (fldX T.f_Stock_shapes (pv 0)) (pa_cons (pv 1) pa_nil)))))))), inferInstance, ?_⟩
    unfold isKindD at k
    unfold stkC
    walk_at "d"
    refine ⟨d, rfl, hf, hd, ?_⟩
    cases h1 : isFormD d with
    | false =>
      rw [h1] at k
      walk_at "d"
      exact k
    | true =>
      rw [h1] at k
      walk_at "d"
      refine ⟨d, rfl, h1, hf, hd, ?_⟩
      cases h2 : hasLetD d with
      | true =>
        rw [h2] at k
        walk_at "d"
        exact k
      | false =>
        rw [h2] at k
        walk_at "d"
        exact ⟨ss, d, rfl, hss, h1, hf, hd, k⟩
abbrev s_rule_fits : Stmt := top 30
abbrev N_rule_fits : List Str := ["stock", "given", "places", "whole", "bound", "pattern"]
abbrev P_rule_fits : List Str := ["stock", "given"]
theorem sc_rule_fits : FnScope N_rule_fits P_rule_fits (defScope s_rule_fits) := ⟨rfl, rfl, rfl, by decide +kernel, rfl, by decide +kernel, by decide +kernel⟩
def isNon : D → Bool
  | .non => true
  | _ => false
def frm (n : Nat) (d : D) : Prop := isFormD d = true ∧ fitD d = true ∧ dpD d < n
def plF (ss : List (Str × Str)) (b d : D) : Bool := (isNon b || fitsD ss b) && fitsD ss d
structure RuleD (n : Nat) (ps : List (D × D)) (wd : D) : Prop where
  pl : ∀ p ∈ ps, (p.1 = .non ∨ frm n p.1) ∧ frm n p.2
  wh : frm n wd
  len : ps.length ≤ 100
def ruleD (ps : List (D × D)) (wd : D) : D := .tup [.tup (ps.map fun p => .tup [p.1, p.2]), wd]
def rulF (ss : List (Str × Str)) (ps : List (D × D)) (wd : D) : Bool := ps.all (fun p => plF ss p.1 p.2) && fitsD ss wd
def F_rule_fits (C : Addr) (n : Nat) : FSpec := fun ds W Q _ => ∃ (ss us : List (Str × Str)) (ps : List (D × D)) (wd : D), ds = [.obj C (stkC ss us), ruleD ps wd] ∧ RuleD n ps wd ∧ (∀ p ∈ ss, p.2.length ≤ 1000) ∧ Q (.bl (rulF ss ps wd)) W
theorem ok_rule_fits (F : Fz K mg "rule_fits" s_rule_fits P_rule_fits) (T : Txt K mg) {n : Nat} (G_fits_shapes : Fx P w K mg base (L2.CX P w) "fits_shapes" (n + 2) P_fits_shapes (lift K (F_fits n))) : Fx P w K mg base (L2.CX P w) "rule_fits" (n + 3) P_rule_fits (lift K (F_rule_fits (clsA mg "Stock") n)) := by
  refine F.okD sc_rule_fits (fun ds W Q E h => ?_) (fun f cdv A outer s H E e ds Qd Ed hr lk h => ?_)
  · obtain ⟨ss, us, ps, wd, rfl, _⟩ := h
    rfl
  · obtain ⟨ss, us, ps, wd, rfl, hR, hss, k⟩ := h
    refine ⟨_, _, (pss_cons (ps_asg (pv 1) (pg_tupK K 2 rfl (pgs_cons (pg_name (i := 2) sc_rule_fits.nd rfl (Or.inl rfl)) (pgs_cons (pg_name (i := 3) sc_rule_fits.nd rfl (Or.inl rfl)) pgs_nil))))
      (pss_cons (ps_for (passes_of rfl) rfl (pi_any K (pv 2)) (pg_tupK K 2 rfl (pgs_cons (pg_name (i := 4) sc_rule_fits.nd rfl (Or.inl rfl)) (pgs_cons (pg_name (i := 5) sc_rule_fits.nd rfl (Or.inl rfl)) pgs_nil))) (pss_cons (ps_if (PW.pt (pw_and (pt_cmpR op_notNU (pv 4) pe_non (nomark _)) (pw_and1 (pt_not (pt_val (fcallX (takes_of rfl rfl rfl rfl) G_fits_shapes (hr.mono (by first | decide | omega)) (by rfl) (pa_cons (fldX T.f_Stock_shapes (pv 0)) (pa_cons (pv 4) pa_nil)))))))) (pss_one (ps_ret pe_bl)) pss_nil)
      (pss_one (ps_if (pt_not (pt_val (fcallX (takes_of rfl rfl rfl rfl) G_fits_shapes (hr.mono (by first | decide | omega)) (by rfl) (pa_cons (fldX T.f_Stock_shapes (pv 0)) (pa_cons (pv 5) pa_nil))))) (pss_one (ps_ret pe_bl)) pss_nil))))
      (pss_one (ps_ret (fcallX (takes_of rfl rfl rfl rfl) G_fits_shapes (hr.mono (by first | decide | omega)) (by rfl) (pa_cons (fldX T.f_Stock_shapes (pv 0)) (pa_cons (pv 3) pa_nil))))))), inferInstance, ?_⟩
    unfold stkC ruleD
    walk_at "d"
    refine for_map (fun p : D × D => D.tup [p.1, p.2]) ps (fun i S => ∃ v4 v5, S = ⟨[some (.val (.obj (clsA mg "Stock") [("shapes", .dct (dkS ss)), ("above", .dct (dkS us))])), some (.val (.tup [.tup (ps.map fun p => .tup [p.1, p.2]), wd])), some (.val (.tup (ps.map fun p => .tup [p.1, p.2]))), some (.val wd), v4, v5], e.W⟩ ∧ (ps.take i).all (fun p => plF ss p.1 p.2) = true) ⟨_, _, rfl, rfl⟩ ?_ ?_
    · rintro i p S hp ⟨v4, v5, rfl, ha⟩
      obtain ⟨hb, hd⟩ := hR.pl p (List.mem_of_getElem? hp)
      have bad : plF ss p.1 p.2 = false → Qd (.bl false) e.W := fun z => by
        have : (ps.all fun p => plF ss p.1 p.2) = false := by
          rw [← Bool.not_eq_true, List.all_eq_true]
          exact fun h => by rw [h p (List.mem_of_getElem? hp)] at z; cases z
        rw [rulF, this] at k
        exact k
      have good : plF ss p.1 p.2 = true → (ps.take (i + 1)).all (fun p => plF ss p.1 p.2) = true := fun z => by
        rw [take_succ_get hp, List.all_append, ha, List.all_cons, List.all_nil, z]; rfl
      obtain ⟨pb, pd⟩ := p
      have hd : frm n pd := hd
      rcases hb with hb | hb
      · have hb : pb = .non := hb
        subst hb
        walk_at "d"
        refine ⟨ss, pd, rfl, hss, hd.1, hd.2.1, hd.2.2, ?_⟩
        cases h1 : fitsD ss pd with
        | false =>
          walk_at "d"
          exact bad (by show (_ && fitsD ss pd) = false; rw [h1, Bool.and_false])
        | true =>
          walk_at "d"
          exact ⟨_, _, rfl, good (by show (true && fitsD ss pd) = true; rw [h1]; rfl)⟩
      · have hb : frm n pb := hb
        have nn : isNon pb = false := by
          cases pb with
          | non => have := hb.1; simp [isFormD] at this
          | _ => rfl
        walk_at "d"
        refine iteB_T (by cases pb <;> first | rfl | (cases nn)) ?_
        walk_at "d"
        refine ⟨ss, pb, rfl, hss, hb.1, hb.2.1, hb.2.2, ?_⟩
        cases h0 : fitsD ss pb with
        | false =>
          walk_at "d"
          exact bad (by show ((isNon pb || fitsD ss pb) && _) = false; rw [nn, h0]; rfl)
        | true =>
          walk_at "d"
          refine ⟨ss, pd, rfl, hss, hd.1, hd.2.1, hd.2.2, ?_⟩
          cases h1 : fitsD ss pd with
          | false =>
            walk_at "d"
            exact bad (by show (_ && fitsD ss pd) = false; rw [h1, Bool.and_false])
          | true =>
            walk_at "d"
            exact ⟨_, _, rfl, good (by show ((isNon pb || fitsD ss pb) && fitsD ss pd) = true; rw [nn, h0, h1]; rfl)⟩
    · rintro S ⟨v4, v5, rfl, ha⟩
      rw [List.take_length] at ha
      have hw := hR.wh
      walk_at "d"
      refine ⟨ss, wd, rfl, hss, hw.1, hw.2.1, hw.2.2, ?_⟩
      rw [rulF, ha] at k
      exact k
abbrev s_Table___init__ : Stmt := inClass (top 31) 0
abbrev N_Table___init__ : List Str := ["self", "stock"]
abbrev P_Table___init__ : List Str := ["self", "stock"]
theorem sc_Table___init__ : FnScope N_Table___init__ P_Table___init__ (defScope s_Table___init__) := ⟨rfl, rfl, rfl, by decide +kernel, rfl, by decide +kernel, by decide +kernel⟩
abbrev s_Table___setitem__ : Stmt := inClass (top 31) 2
abbrev N_Table___setitem__ : List Str := ["self", "sign", "given"]
abbrev P_Table___setitem__ : List Str := ["self", "sign", "given"]
theorem sc_Table___setitem__ : FnScope N_Table___setitem__ P_Table___setitem__ (defScope s_Table___setitem__) := ⟨rfl, rfl, rfl, by decide +kernel, rfl, by decide +kernel, by decide +kernel⟩
def tbC (st : D) (b : Addr) : List (Str × D) := [("stock", st), ("rules", .ref b)]
structure TbAt (C : Addr) (W : Wd) (a b : Addr) (st : D) (ks : List (Key × D)) : Prop where
  o : W.ω a = some (.ins C (tbC st b))
  k : W.ω b = some (.dct ks)
def F_tbNew (C : Addr) : FSpec := fun ds W Q _ => ∃ (a : Addr) (W0 : Wd) (C' : Addr) (fs : List (Str × D)), ds = [.ref a, .obj C' fs] ∧ W = W0.put a (.ins C []) ∧ W0.ω a = none ∧ ∀ b, W0.ω b = none → b ≠ a → Q .non ((W0.put b (.dct [])).put a (.ins C (tbC (.obj C' fs) b)))
theorem ok_tbNew (Z : Kz K (clsA mg "Table") "Table.__init__" s_Table___init__ P_Table___init__ []) (T : Txt K mg) : Kx P w K mg base (clsA mg "Table") 1 P_Table___init__ [] (lift K (F_tbNew (clsA mg "Table"))) := by
  refine Z.okD sc_Table___init__ (fun ds W Q E h => by obtain ⟨a, W0, C', fs, rfl, _⟩ := h; rfl) ?_
  intro f cdv A outer s H E e ds Qd Ed hr lk h
  obtain ⟨a, W0, C', fs, rfl, hW, ha, k⟩ := h
  refine ⟨_, _, (pss_cons (setX T.f_Table_stock (pv 0) (pv 1))
      (pss_one (setX T.f_Table_rules (pv 0) (share_of pe_dnewK)))), inferInstance, ?_⟩
  rw [hW]
  walk_at "d"
  refine ⟨by omega, fun b hb _ => ?_⟩
  have n : b ≠ a := put_ne hb
  refine insFB_at ((Wd.put_ne (Ne.symm n)).trans Wd.put_same) ?_
  walk_at "d"
  refine ⟨by omega, ?_⟩
  rw [put_comm (Ne.symm n), put_put]
  exact k b (put_none' hb) n
def okAdd (ss : List (Str × Str)) (ks : List (Key × D)) (x : Str) (ps : List (D × D)) (wd : D) : Bool := isWord x && !(look ks (.inr x)).isSome && decide (ks.length < 8) && rulF ss ps wd
def F_tbSet (C CS B : Addr) (n : Nat) : FSpec := fun ds W Q E => ∃ (a b : Addr) (ss us : List (Str × Str)) (ks : List (Key × D)) (x : Str) (ps : List (D × D)) (wd : D), ds = [.ref a, .str x, ruleD ps wd] ∧ TbAt C W a b (.obj CS (stkC ss us)) ks ∧ (∀ p ∈ ss, p.2.length ≤ 1000) ∧ x.length ≤ 1000 ∧ RuleD n ps wd ∧ ks.length ≤ 1000 ∧ (okAdd ss ks x ps wd = true → Q .non (W.put b (.dct (put ks (.inr x) (ruleD ps wd))))) ∧ (okAdd ss ks x ps wd = false → E ⟨B, []⟩ W)
theorem ok_tbSet (Z : Mz K (clsA mg "Table") "__setitem__" "Table.__setitem__" s_Table___setitem__ P_Table___setitem__ []) (T : Txt K mg) {n : Nat} (G_is_word : Fx P w K mg base (L2.CX P w) "is_word" 1 P_is_word (lift K F_is_word)) (G_rule_fits : Fx P w K mg base (L2.CX P w) "rule_fits" (n + 3) P_rule_fits (lift K (F_rule_fits (clsA mg "Stock") n))) : Ox P w K mg base (clsA mg "Table") "__setitem__" (n + 4) P_Table___setitem__ (lift K (F_tbSet (clsA mg "Table") (clsA mg "Stock") (clsA mg "BadRule") n)) := by
  refine Z.okOD T.s_Table sc_Table___setitem__ (fun ds W Q E h => by obtain ⟨a, b, ss, us, ks, x, ps, wd, rfl, _⟩ := h; rfl) ?_
  intro f cdv A outer s H E e ds Qd Ed hr lk h
  obtain ⟨a, b, ss, us, ks, x, ps, wd, rfl, hs, hss, hx, hR, hl, kq, ke⟩ := h
  refine ⟨_, _, (pss_cons (ps_if (PW.pt (pw_or (pt_not (pt_val (fcallX (takes_of rfl rfl rfl rfl) G_is_word (hr.mono (by first | decide | omega)) (by rfl) (pa_cons (pv 1) pa_nil)))) (pw_or (pt_cmpR (op_inU K (hu65_of hr)) (pv 1) (fldX T.f_Table_rules (pv 0)) (by rfl)) (pw_or1 (pt_cmpR op_geU (pe_callB (call_lenU K) (by rfl) T.b_len PySem.boot_len (pa_cons (fldX T.f_Table_rules (pv 0)) pa_nil)) (pglob rfl T.c_MOST_SIGNS) (nomark _)))))) (pss_one (ps_raiseU rfl (takes_of rfl rfl rfl rfl) (pmk_own PySem.F.excBase_ValueError T.e_BadRule.ex T.e_BadRule.g T.e_BadRule.k (raises_own T.e_BadRule.b T.e_BadRule.t) rfl))) pss_nil)
      (pss_cons (ps_if (pt_not (pt_val (fcallX (takes_of rfl rfl rfl rfl) G_rule_fits (hr.mono (by first | decide | omega)) (by rfl) (pa_cons (fldX T.f_Table_stock (pv 0)) (pa_cons (pv 2) pa_nil))))) (pss_one (ps_raiseU rfl (takes_of rfl rfl rfl rfl) (pmk_own PySem.F.excBase_ValueError T.e_BadRule.ex T.e_BadRule.g T.e_BadRule.k (raises_own T.e_BadRule.b T.e_BadRule.t) rfl))) pss_nil)
      (pss_one (ps_dput (hu_of hr) (fldX T.f_Table_rules (pv 0)) (pv 1) (pv 2) rfl)))), inferInstance, ?_⟩
  have vo : vD e.W (.ref a) = some (.obj (clsA mg "Table") (tbC (.obj (clsA mg "Stock") (stkC ss us)) b)) := vD_ins hs.o
  have vk : vD e.W (.ref b) = some (.dct ks) := vD_dct hs.k
  unfold tbC at vo
  unfold okAdd at kq ke
  walk_at "d"
  refine ⟨_, rfl, by rw [fitD]; exact decide_eq_true hx, ?_⟩
  rw [isWordD]
  cases h1 : isWord x with
  | false =>
    walk_at "d"
    exact ke (by rw [h1]; rfl)
  | true =>
    walk_at "d"
    refine dd1B_at vo ?_
    walk_at "d"
    refine dd1B_at vk ?_
    walk_at "d"
    cases h2 : (look ks (.inr x)).isSome with
    | true =>
      walk_at "d"
      exact ke (by rw [h1, h2]; rfl)
    | false =>
      walk_at "d"
      refine dd1B_at vo ?_
      walk_at "d"
      refine dd1B_at vk ?_
      walk_at "d"
      refine iteB_by (fun c => ?_) (fun c => ?_)
      · walk_at "d"
        exact ke (by rw [h1, h2, decide_eq_false (show ¬ ks.length < 8 by omega)]; rfl)
      · walk_at "d"
        refine dd1B_at vo ?_
        walk_at "d"
        refine ⟨ss, us, ps, wd, rfl, hR, hss, ?_⟩
        cases h3 : rulF ss ps wd with
        | false =>
          walk_at "d"
          exact ke (by rw [h1, h2, h3, Bool.and_false])
        | true =>
          walk_at "d"
          refine dd1B_at vo ?_
          walk_at "d"
          refine mutDB_at hs.k ?_
          walk_at "d"
          exact ⟨by omega, kq (by rw [h1, h2, h3, decide_eq_true (show ks.length < 8 by omega)]; rfl)⟩
theorem nd_inj {α : Type} {xs : List α} (h : xs.Nodup) {i j : Nat} (hi : i < xs.length) (hj : j < xs.length) (e : xs[i] = xs[j]) : i = j := by
  rcases Nat.lt_trichotomy i j with q | q | q
  · exact absurd e (List.pairwise_iff_getElem.mp h i j hi hj q)
  · exact q
  · exact absurd e.symm (List.pairwise_iff_getElem.mp h j i hj hi q)
theorem shp_of {flat : Bool} {menu ws mu : List Str} {b : Nat} {un : List (Nat × Nat)} (h : Stk flat menu ws b mu un) (hm : ∀ x ∈ menu, x.length ≤ 3) : Shp (shapesOf ws b mu) := by
  have hl := h.w.len
  have h2 := h.b2
  have h4 := h.b4
  have h3 := h.m3
  refine ⟨?_, ?_, ?_, ?_⟩
  · rw [shapes_keys hl h.m3, List.nodup_append]
    refine ⟨h.w.nodup.sublist (List.take_sublist _ _), h.w.nodup.sublist ((List.take_sublist _ _).trans (List.drop_sublist _ _)), fun a ha c hc => ?_⟩
    rintro rfl
    obtain ⟨i, hi, e⟩ := List.getElem_of_mem ha
    obtain ⟨j, hj, e'⟩ := List.getElem_of_mem hc
    rw [List.getElem_take] at e e'
    rw [List.getElem_drop] at e'
    rw [List.length_take] at hi hj
    rw [List.length_drop] at hj
    have := nd_inj h.w.nodup (show i < ws.length by omega) (show 4 + j < ws.length by omega) (e.trans e'.symm)
    omega
  · match ws, hl, b, h2 with
    | a :: c :: r, _, b + 2, _ => exact ⟨a, c, _, by simp [shapesOf]; rfl⟩
  · simp [shapesOf]; omega
  · intro p hp
    rcases List.mem_append.mp hp with hp | hp
    · obtain ⟨x, _, rfl⟩ := List.mem_map.mp hp
      exact Nat.zero_le _
    · exact hm _ (h.mm _ (List.of_mem_zip hp).2)
theorem count_mono {i j : Nat} (h : j ≤ i) : ∀ un : List (Nat × Nat), (un.countP fun p => decide (p.1 ≤ j)) ≤ un.countP fun p => decide (p.1 ≤ i) := fun un => List.countP_mono_left fun p _ hp => by
  have := of_decide_eq_true hp
  exact decide_eq_true (by omega)
theorem count_lt {i j : Nat} (h : j < i) : ∀ {un : List (Nat × Nat)}, (i, j) ∈ un → (un.countP fun p => decide (p.1 ≤ j)) + 1 ≤ un.countP fun p => decide (p.1 ≤ i)
  | p :: l, hm => by
    rw [List.countP_cons, List.countP_cons]
    rcases List.mem_cons.mp hm with rfl | hm
    · have := count_mono (Nat.le_of_lt h) l
      rw [if_neg (by simpa using h), if_pos (by simp)]
      omega
    · have := count_lt h hm
      have : (if decide (p.1 ≤ j) = true then 1 else 0) ≤ (if decide (p.1 ≤ i) = true then 1 else 0) := by
        by_cases c : p.1 ≤ j
        · rw [if_pos (by simpa using c), if_pos (by simp; omega)]; omega
        · rw [if_neg (by simpa using c)]; omega
      omega
theorem steps_le {flat : Bool} {menu ws mu : List Str} {b : Nat} {un : List (Nat × Nat)} (h : Stk flat menu ws b mu un) : ∀ (m i : Nat), i < 7 → stepsF (underOf ws un) m (ws.getD i "") ≤ un.countP fun p => decide (p.1 ≤ i)
  | 0, i, _ => Nat.zero_le _
  | m + 1, i, hi => by
    rw [stepsF]
    split
    · exact Nat.zero_le _
    · rename_i y hy
      obtain ⟨p, hp, e⟩ := List.mem_map.mp (lkS_in hy)
      have hu := h.u p hp
      have := h.b4
      have hl := h.w.len
      have e1 : ws.getD p.1 "" = ws.getD i "" := congrArg Prod.fst e
      have e2 : ws.getD p.2 "" = y := congrArg Prod.snd e
      have ei := ws_inj h.w.nodup (show p.1 < ws.length by omega) (show i < ws.length by omega) e1
      have := steps_le h m p.2 (by omega)
      rw [← e2]
      have hp2 : (i, p.2) ∈ un := by rw [← ei]; exact hp
      have := count_lt (show p.2 < i by omega) hp2
      omega
theorem leads_no {flat : Bool} {menu ws mu : List Str} {b : Nat} {un : List (Nat × Nat)} (h : Stk flat menu ws b mu un) : leadsB (underOf ws un) = false := by
  unfold leadsB
  rw [List.any_eq_false]
  intro p hp
  obtain ⟨q, hq, rfl⟩ := List.mem_map.mp hp
  have hu := h.u q hq
  have := h.b4
  have h1 := steps_le h ((underOf ws un).length + 1) q.1 (by omega)
  have h2 : (un.countP fun p => decide (p.1 ≤ q.1)) ≤ un.length := List.countP_le_length
  have h3 : (underOf ws un).length = un.length := by simp [underOf]
  simp only [decide_eq_true_eq]
  omega
theorem shape_base {flat : Bool} {menu ws mu : List Str} {b : Nat} {un : List (Nat × Nat)} (h : Stk flat menu ws b mu un) (hs : Shp (shapesOf ws b mu)) {i : Nat} (hi : i < b) : lkS (shapesOf ws b mu) (ws.getD i "") = some NOMK := by
  refine lkS_mem hs.nd ?_
  unfold shapesOf
  refine List.mem_append_left _ (List.mem_map.mpr ⟨ws.getD i "", ?_, rfl⟩)
  have hl := h.w.len
  have := h.b4
  refine List.mem_of_getElem? (i := i) ?_
  rw [List.getElem?_take_of_lt hi]
  exact ws_ix rfl (by omega)
theorem shape_word {flat : Bool} {menu ws mu : List Str} {b : Nat} {un : List (Nat × Nat)} (h : Stk flat menu ws b mu un) {p : Str × Str} (hp : p ∈ shapesOf ws b mu) : p.1 ∈ ws ∧ (p.2 = NOMK ∨ p.2 ∈ menu) := by
  rcases List.mem_append.mp hp with hp | hp
  · obtain ⟨x, hx, rfl⟩ := List.mem_map.mp hp
    exact ⟨List.mem_of_mem_take hx, .inl rfl⟩
  · have := List.of_mem_zip hp
    exact ⟨List.mem_of_mem_drop (List.mem_of_mem_take this.1), .inr (h.mm _ this.2)⟩
def okMark (x : Str) : Bool := decide (x.length ≤ 3) && x.cps.toList.all fun c => decide (c ∈ MARKSc)
theorem soundS_of {ss : List (Str × Str)} (h2 : 2 ≤ ss.length) (h12 : ss.length ≤ 12) (hw : ∀ p ∈ ss, isWord p.1 = true ∧ okMark p.2 = true) (two : ∃ (a b : Str) (r : List (Str × Str)), ss = (a, ("" : Str)) :: (b, ("" : Str)) :: r) : soundS ss = true := by
  unfold soundS
  rw [decide_eq_true h2, decide_eq_true h12, Bool.true_and, Bool.true_and, Bool.and_eq_true, List.all_eq_true]
  refine ⟨fun p hp => ?_, ?_⟩
  · have := hw p hp
    unfold okMark at this
    rw [this.1, Bool.true_and]
    exact this.2
  · obtain ⟨a, b, r, rfl⟩ := two
    rw [List.filter_cons_of_pos (by exact decide_eq_true rfl), List.filter_cons_of_pos (by exact decide_eq_true rfl)]
    simp
theorem soundO_of {flat : Bool} {menu ws mu : List Str} {b : Nat} {un : List (Nat × Nat)} (h : Stk flat menu ws b mu un) {ss : List (Str × Str)} (hs : ∀ i, i < b → lkS ss (ws.getD i "") = some NOMK) : soundO ss (underOf ws un) = true := by
  unfold soundO
  rw [leads_no h, Bool.and_eq_true, List.all_eq_true]
  refine ⟨fun p hp => ?_, rfl⟩
  obtain ⟨q, hq, rfl⟩ := List.mem_map.mp hp
  have hu := h.u q hq
  have := h.b4
  rw [show lkS ss (ws.getD q.1 "") = some NOMK from hs _ (by omega), show lkS ss (ws.getD q.2 "") = some NOMK from hs _ (by omega)]
  simp
theorem under_nd {flat : Bool} {menu ws mu : List Str} {b : Nat} {un : List (Nat × Nat)} (h : Stk flat menu ws b mu un) : ((underOf ws un).map (·.1)).Nodup := by
  unfold underOf
  rw [List.map_map]
  have ha := h.asc
  rw [List.pairwise_map] at ha
  refine List.Pairwise.map _ (fun p q hpq => ?_) (List.Pairwise.and_mem.mp ha)
  obtain ⟨hp, hq, hlt⟩ := hpq
  have := h.u p hp
  have := h.u q hq
  have := h.b4
  have hl := h.w.len
  exact fun e => by
    have := ws_inj h.w.nodup (show p.1 < ws.length by omega) (show q.1 < ws.length by omega) e
    omega
theorem dp_str (x : Str) : dpD (.str x) = 0 := by simp [dpD]
theorem form_fits {ss : List (Str × Str)} (hs : Shp ss) (hw : ∀ p ∈ ss, isWord p.1 = true) {L : Str} (hL : ∀ c ∈ L.cps.toList, c ∈ LARGEc) : ∀ (n : Nat) (d : D), FormOf ss L n d → isFormD d = true ∧ fitsD ss d = true ∧ fitD d = true ∧ dpD d ≤ n + 1 := fun n d h => by
  induction h with
  | letter h =>
    rename_i n c
    refine ⟨?_, by rw [fitsD], by rw [fitD]; rfl, by rw [dp_str]; omega⟩
    rw [isFormD, isLetter]
    have : (⟨#[c]⟩ : Str).cps.toList = [c] := rfl
    rw [this, List.all_cons, List.all_nil, decide_eq_true (hL c h)]
    rfl
  | node h hl h0 hd ih =>
    rename_i n w m ds
    have hm := lkS_in h
    have h3 := hs.small _ hm
    have hwl := hw _ hm
    have hwl2 : w.length ≤ 12 := by
      unfold isWord at hwl
      rw [Bool.and_eq_true, Bool.and_eq_true] at hwl
      exact of_decide_eq_true hwl.1.2
    have h3 : m.length ≤ 3 := h3
    refine ⟨?_, ?_, ?_, ?_⟩
    · rw [isFormD, isFormsD_all, decide_eq_true (show ds.length ≤ 3 by omega), isWordD, show isWord w = true from hwl, Bool.true_and, Bool.true_and, List.all_eq_true]
      exact fun d hd => (ih d hd).1
    · rw [fitsD, fits0, h, fitsL_all]
      show (decide (m.length = ds.length) && _) = true
      rw [decide_eq_true hl.symm, Bool.true_and, List.all_eq_true]
      exact fun d hd => (ih d hd).2.1
    · rw [fitD, decide_eq_true (show (D.str w :: ds).length ≤ 1000 by simp; omega), Bool.true_and, fitL, fitD, decide_eq_true (show w.length ≤ 1000 by omega), Bool.true_and]
      exact fitL_of fun d hd => (ih d hd).2.2.1
    · rw [dpD, dpL, dp_str]
      have : dpL ds ≤ n := by
        cases ds with
        | nil => rw [dpL]; omega
        | cons d l =>
          have : 0 < n := h0 (by rw [← hl]; simp)
          exact dpL_le fun e he => by have := (ih e he).2.2.2; omega
      omega
theorem asc_len : ∀ (l : List Nat) (lo hi : Nat), l.Pairwise (· < ·) → (∀ x ∈ l, lo ≤ x ∧ x < hi) → l.length ≤ hi - lo
  | [], _, _, _, _ => Nat.zero_le _
  | x :: l, lo, hi, h, k => by
    rw [List.pairwise_cons] at h
    have h1 := k x List.mem_cons_self
    have := asc_len l (x + 1) hi h.2 fun y hy => ⟨h.1 y hy, (k y (List.mem_cons_of_mem _ hy)).2⟩
    rw [List.length_cons]
    omega
structure Law3 (ss us : List (Str × Str)) (f s : Str) : Prop where
  shp : Shp ss
  two : ∃ r, ss = (f, ("" : Str)) :: (s, ("" : Str)) :: r
  ne : f ≠ s
  len : ss.length ≤ 7
  word : ∀ p ∈ ss, isWord p.1 = true ∧ p.1.length ≤ 10 ∧ okMark p.2 = true
  ulen : us.length ≤ 4
  und : (us.map (·.1)).Nodup
  ord : ∀ ss' : List (Str × Str), (∀ x, lkS ss x = some NOMK → lkS ss' x = some NOMK) → soundO ss' us = true
theorem law3_of {flat : Bool} {menu ws mu : List Str} {b : Nat} {un : List (Nat × Nat)} (h : Stk flat menu ws b mu un) (hm : ∀ x ∈ menu, okMark x = true) : ∃ f s, Law3 (shapesOf ws b mu) (underOf ws un) f s := by
  have hsh := shp_of h fun x hx => by have := hm x hx; rw [okMark, Bool.and_eq_true] at this; exact of_decide_eq_true this.1
  obtain ⟨f, s, r, e⟩ := hsh.two
  have hl := h.w.len
  have h4 := h.b4
  have h3 := h.m3
  refine ⟨f, s, hsh, ⟨r, e⟩, ?_, ?_, fun p hp => ?_, ?_, under_nd h, fun ss' hs' => soundO_of h fun i hi => hs' _ (shape_base h hsh hi)⟩
  · have := hsh.nd
    rw [e] at this
    intro z
    subst z
    simp at this
  · simp [shapesOf]; omega
  · have := shape_word h hp
    refine ⟨h.w.word _ this.1, h.w.short _ this.1, ?_⟩
    rcases this.2 with z | z
    · rw [z]; decide +kernel
    · exact hm _ z
  · have := asc_len (un.map (·.1)) 1 4 h.asc fun x hx => by
      obtain ⟨p, hp, rfl⟩ := List.mem_map.mp hx
      have := h.u p hp
      omega
    simp [underOf] at this ⊢
    omega
theorem Law3.sound {ss us : List (Str × Str)} {f s : Str} (h : Law3 ss us f s) : soundB ss us = true := by
  rw [soundB, Bool.and_eq_true]
  have hl := h.len
  obtain ⟨r, e⟩ := h.two
  have h2 : 2 ≤ ss.length := by rw [e]; simp
  exact ⟨soundS_of h2 (by omega) (fun p hp => ⟨(h.word p hp).1, (h.word p hp).2.2⟩) h.shp.two, h.ord ss fun _ z => z⟩
theorem okL_all (b : Bool) : ∀ ds : List D, okL b ds = ds.all (okD b)
  | [] => by rw [okL]; rfl
  | d :: ds => by rw [okL, okL_all b ds]; rfl
theorem strOk_of {x : Str} {l : List Nat} (h : x.cps.toList.all (fun c => decide (c ∈ l)) = true) (hl : ∀ c ∈ l, c < 0x110000) : PyData.strOk x = true := by
  unfold PyData.strOk
  rw [Array.all_eq_true_iff_forall_mem]
  intro c hc
  rw [List.all_eq_true] at h
  exact decide_eq_true (hl c (of_decide_eq_true (h c (Array.mem_toList_iff.mpr hc))))
theorem word_ok {x : Str} (h : isWord x = true) : PyData.strOk x = true := by
  unfold isWord at h
  rw [Bool.and_eq_true] at h
  exact strOk_of h.2 (by decide)
theorem letter_ok {x : Str} (h : isLetter x = true) : PyData.strOk x = true := by
  unfold isLetter at h
  rw [Bool.and_eq_true] at h
  exact strOk_of h.2 (by decide)
theorem form_ok : ∀ (n : Nat) (d : D), dpD d < n → isFormD d = true → okD false d = true
  | 0, d, h, _ => by omega
  | n + 1, d, h, hf => by
    cases d with
    | str x => rw [isFormD] at hf; rw [okD]; exact letter_ok hf
    | tup ds =>
      cases ds with
      | nil => rw [isFormD] at hf; cases hf
      | cons d0 ds =>
        rw [isFormD, Bool.and_eq_true, Bool.and_eq_true, isFormsD_all] at hf
        rw [dpD] at h
        rw [okD, okL, okL_all, Bool.and_eq_true, List.all_eq_true]
        refine ⟨?_, fun d hd => form_ok n d ?_ (List.all_eq_true.mp hf.2 d hd)⟩
        · cases d0 with
          | str w0 => rw [okD]; exact word_ok hf.1.2
          | _ => cases hf.1.2
        · have := dpL_mem (List.mem_cons_of_mem d0 hd)
          omega
    | _ => simp [isFormD] at hf
theorem places_of {ss : List (Str × Str)} {L : Str} {n : Nat} : ∀ {ps : List D}, (∀ p ∈ ps, PlaceOf ss L n p) → ∃ qs : List (D × D), ps = qs.map (fun p => D.tup [p.1, p.2]) ∧ ∀ q ∈ qs, (q.1 = .non ∨ FormOf ss L n q.1) ∧ FormOf ss L n q.2
  | [], _ => ⟨[], rfl, by simp⟩
  | p :: ps, h => by
    obtain ⟨qs, e, hq⟩ := places_of (ps := ps) fun p hp => h p (List.mem_cons_of_mem _ hp)
    cases h p List.mem_cons_self with
    | @bare d hd =>
      refine ⟨(.non, d) :: qs, by rw [e]; rfl, fun q hq' => ?_⟩
      rcases List.mem_cons.mp hq' with rfl | hq'
      · exact ⟨.inl rfl, hd⟩
      · exact hq q hq'
    | @bound b d hb hd =>
      refine ⟨(b, d) :: qs, by rw [e]; rfl, fun q hq' => ?_⟩
      rcases List.mem_cons.mp hq' with rfl | hq'
      · exact ⟨.inr hb, hd⟩
      · exact hq q hq'
structure GF (d : D) : Prop where
  f : isFormD d = true
  p : fitD d = true
  d : dpD d ≤ 3
def GP (q : D × D) : Prop := (q.1 = .non ∨ GF q.1) ∧ GF q.2
theorem GF.ok {d : D} (h : GF d) : okD false d = true := form_ok 4 d (by have := h.d; omega) h.f
structure GR (qs : List (D × D)) (wd : D) : Prop where
  pl : ∀ q ∈ qs, GP q
  wh : GF wd
  len : qs.length ≤ 10
theorem GR.rule {qs : List (D × D)} {wd : D} (h : GR qs wd) : RuleD 6 qs wd := by
  have f : ∀ {d : D}, GF d → frm 6 d := fun g => ⟨g.f, g.p, by have := g.d; omega⟩
  refine ⟨fun p hp => ?_, f h.wh, by have := h.len; omega⟩
  obtain ⟨h1, h2⟩ := h.pl p hp
  exact ⟨h1.imp id f, f h2⟩
theorem GR.ok {qs : List (D × D)} {wd : D} (h : GR qs wd) : okD false (ruleD qs wd) = true := by
  rw [ruleD, okD, okL, okL, okL, okD, h.wh.ok, okL_all, Bool.and_true, Bool.and_true, List.all_eq_true]
  intro d hd
  obtain ⟨q, hq, rfl⟩ := List.mem_map.mp hd
  obtain ⟨h1, h2⟩ := h.pl q hq
  rw [okD, okL, okL, okL, h2.ok, Bool.and_true, Bool.and_true]
  rcases h1 with h1 | h1
  · rw [h1, okD]
  · exact h1.ok
theorem GR.dp {qs : List (D × D)} {wd : D} (h : GR qs wd) : dpD (ruleD qs wd) ≤ 60 := by
  have : dpL (qs.map fun p => D.tup [p.1, p.2]) ≤ 4 := dpL_le fun d hd => by
    obtain ⟨q, hq, rfl⟩ := List.mem_map.mp hd
    obtain ⟨h1, h2⟩ := h.pl q hq
    have h3 : dpD q.1 ≤ 3 := by
      rcases h1 with h1 | h1
      · rw [h1]; simp [dpD]
      · exact h1.d
    have := h2.d
    simp only [dpD, dpL]
    omega
  have := h.wh.d
  simp only [ruleD, dpD, dpL]
  omega
def FR (ss : List (Str × Str)) (qs : List (D × D)) (wd : D) : Prop := (∀ q ∈ qs, (q.1 = .non ∨ fitsD ss q.1 = true) ∧ fitsD ss q.2 = true) ∧ fitsD ss wd = true
theorem FR.rul {ss : List (Str × Str)} {qs : List (D × D)} {wd : D} (h : FR ss qs wd) : rulF ss qs wd = true := by
  rw [rulF, h.2, Bool.and_true, List.all_eq_true]
  intro q hq
  obtain ⟨h1, h2⟩ := h.1 q hq
  rw [plF, h2, Bool.and_true]
  rcases h1 with h1 | h1
  · rw [h1]; rfl
  · rw [h1, Bool.or_true]
theorem rule_of_drawn {ss us : List (Str × Str)} {f s : Str} (h3 : Law3 ss us f s) {L : Str} (hL : ∀ c ∈ L.cps.toList, c ∈ LARGEc) {n : Nat} (hn : n ≤ 2) {ps : List D} {wd : D} (hp : ∀ p ∈ ps, PlaceOf ss L n p) (hl : ps.length ≤ 10) (hw : FormOf ss L n wd) : ∃ qs : List (D × D), D.tup [.tup ps, wd] = ruleD qs wd ∧ qs.length = ps.length ∧ GR qs wd ∧ FR ss qs wd := by
  obtain ⟨qs, e, hq⟩ := places_of hp
  have ff := form_fits h3.shp (fun p hp => (h3.word p hp).1) hL n
  have g : ∀ {d : D}, FormOf ss L n d → GF d := fun h => by
    obtain ⟨a, b, c, d⟩ := ff _ h
    exact ⟨a, c, by omega⟩
  have el : qs.length = ps.length := by rw [e, List.length_map]
  refine ⟨qs, by rw [e, ruleD], el, ⟨fun q h => ⟨(hq q h).1.imp id g, g (hq q h).2⟩, g hw, by omega⟩, fun q h => ⟨(hq q h).1.imp id fun z => (ff _ z).2.1, (ff _ (hq q h).2).2.1⟩, (ff _ hw).2.1⟩
structure Wy where
  wh : Str
  st : List (Int × Str)
  nt : List Int
def stpD (p : Int × Str) : D := .tup [.int p.1, .str p.2]
def wayD (y : Wy) : D := .tup [.str y.wh, .tup (y.st.map stpD), .tup (y.nt.map D.int)]
theorem ints_ok : ∀ ns : List Int, okL false (ns.map D.int) = true
  | [] => by rw [List.map_nil, okL]
  | n :: ns => by rw [List.map_cons, okL, okD, ints_ok ns]; rfl
theorem ints_dp : ∀ ns : List Int, dpL (ns.map D.int) = 0
  | [] => by rw [List.map_nil, dpL]
  | n :: ns => by
    have h : dpD (D.int n) = 0 := by simp [dpD]
    rw [List.map_cons, dpL, h, ints_dp ns]; rfl
abbrev s_are_integers : Stmt := top 33
abbrev N_are_integers : List Str := ["numbers", "number"]
abbrev P_are_integers : List Str := ["numbers"]
theorem sc_are_integers : FnScope N_are_integers P_are_integers (defScope s_are_integers) := ⟨rfl, rfl, rfl, by decide +kernel, rfl, by decide +kernel, by decide +kernel⟩
def F_ints : FSpec := fun ds W Q _ => ∃ ns : List Int, ds = [.tup (ns.map D.int)] ∧ ns.length ≤ 1000 ∧ Q (.bl true) W
theorem ok_are_integers (F : Fz K mg "are_integers" s_are_integers P_are_integers) (T : Txt K mg) : Fx P w K mg base (L2.CX P w) "are_integers" 1 P_are_integers (lift K F_ints) := by
  refine F.okD sc_are_integers (fun ds W Q E h => ?_) (fun f cdv A outer s H E e ds Qd Ed hr lk h => ?_)
  · obtain ⟨ns, rfl, _⟩ := h
    rfl
  · obtain ⟨ns, rfl, hl, k⟩ := h
    refine ⟨_, _, (pss_one (ps_ret (pe_callB (cr_allK K rfl) (by rfl) T.b_all (by decide +kernel) (pa_cons (pe_lc (own := [("number", 1)]) (g := (gName 1)) (tt := tYes) rfl sc_are_integers.nd (pi_any K (pv 0)) (blkOk_by (own := [("number", 1)]) (N := N_are_integers) (sc := defScope s_are_integers) (by decide +kernel)) (fun _ _ _ _ _ => (pg_name (i := 1) sc_are_integers.nd rfl (by first | exact Or.inl rfl | exact Or.inr rfl))) (fun _ _ _ _ _ => pts_nil) (fun _ _ _ _ _ => (pe_and (pe_callB (call_isi1K K) (by rfl) T.b_isinstance (by decide +kernel) (pa_cons (pv 1) (pa_cons (pe_bltn (v := .ty "int") (by rfl) T.b_int (by decide +kernel) rfl) pa_nil))) (pe_one (pe_not (pe_callB (call_isi1K K) (by rfl) T.b_isinstance (by decide +kernel) (pa_cons (pv 1) (pa_cons (pe_bltn (v := .ty "bool") (by rfl) T.b_bool (by decide +kernel) rfl) pa_nil)))))))) pa_nil)))), inferInstance, ?_⟩
    walk_at "d"
    refine comp_map D.int (fun _ => .bl true) ns (by simp; omega) (fun n hn N M h => ?_) ?_
    · walk_at "d"
      exact h
    · walk_at "d"
      rw [show bls (ns.map fun _ : Int => D.bl true) = some (ns.map fun _ => true) from bls_mapF _ ns]
      walk_at "d"
      rw [show ((ns.map fun _ : Int => true).all id) = true by simp]
      exact k
abbrev s_are_steps : Stmt := top 32
abbrev N_are_steps : List Str := ["steps", "step"]
abbrev P_are_steps : List Str := ["steps"]
theorem sc_are_steps : FnScope N_are_steps P_are_steps (defScope s_are_steps) := ⟨rfl, rfl, rfl, by decide +kernel, rfl, by decide +kernel, by decide +kernel⟩
def F_steps : FSpec := fun ds W Q _ => ∃ st : List (Int × Str), ds = [.tup (st.map stpD)] ∧ st.length ≤ 1000 ∧ Q (.bl true) W
theorem ok_are_steps (F : Fz K mg "are_steps" s_are_steps P_are_steps) (T : Txt K mg) (G_are_integers : Fx P w K mg base (L2.CX P w) "are_integers" 1 P_are_integers (lift K F_ints)) : Fx P w K mg base (L2.CX P w) "are_steps" 2 P_are_steps (lift K F_steps) := by
  refine F.okD sc_are_steps (fun ds W Q E h => ?_) (fun f cdv A outer s H E e ds Qd Ed hr lk h => ?_)
  · obtain ⟨st, rfl, _⟩ := h
    rfl
  · obtain ⟨st, rfl, hl, k⟩ := h
    refine ⟨_, _, (pss_cons (ps_for (passes_of rfl) rfl (pi_any K (pv 0)) (pg_name (i := 1) sc_are_steps.nd rfl (Or.inl rfl)) (pss_one (ps_if (PW.pt (pw_or (pt_not (pt_val (pe_callB (call_isiTK K) (by rfl) T.b_isinstance (by decide +kernel) (pa_cons (pv 1) (pa_cons (pe_tup (pa_cons (pe_bltn (v := .ty "tuple") (by rfl) T.b_tuple (by decide +kernel) rfl) (pa_cons (pe_bltn (v := .ty "list") (by rfl) T.b_list (by decide +kernel) rfl) pa_nil))) pa_nil))))) (pw_or (pt_cmpR (op_neU K hr.units) (pe_callB (call_lenU K) (by rfl) T.b_len PySem.boot_len (pa_cons (pv 1) pa_nil)) pe_int (nomark _)) (pw_or1 (pt_not (pt_val (fcallX (takes_of rfl rfl rfl rfl) G_are_integers (hr.mono (by first | decide | omega)) (by rfl) (pa_cons (pe_slice (sl_U K) (pv 1) po_none (po_some pe_int)) pa_nil)))))))) (pss_one (ps_ret pe_bl)) pss_nil)))
      (pss_one (ps_ret pe_bl))), inferInstance, ?_⟩
    walk_at "d"
    refine for_map stpD st (fun i S => ∃ v1, S = ⟨[some (.val (.tup (st.map stpD))), v1], e.W⟩) ⟨_, rfl⟩ ?_ ?_
    · rintro i p S hp ⟨v1, rfl⟩
      unfold stpD
      walk_at "d"
      refine iteB_F (by decide) ?_
      walk_at "d"
      rw [show cut [D.int p.1, D.str p.2] none (some 1) = [D.int p.1] from rfl]
      refine ⟨[p.1], rfl, by simp, ?_⟩
      walk_at "d"
      exact ⟨_, rfl⟩
    · rintro S ⟨v1, rfl⟩
      walk_at "d"
      exact k
abbrev s_ascending : Stmt := top 34
abbrev N_ascending : List Str := ["numbers", "number"]
abbrev P_ascending : List Str := ["numbers"]
theorem sc_ascending : FnScope N_ascending P_ascending (defScope s_ascending) := ⟨rfl, rfl, rfl, by decide +kernel, rfl, by decide +kernel, by decide +kernel⟩
def F_asc : FSpec := fun ds W Q _ => ∃ ns : List Int, (ds = [.tup (ns.map D.int)] ∨ ds = [.lst (ns.map D.int)]) ∧ ns.length < 64 ∧ Q (.tup ((srt ns).map D.int)) W
theorem ok_ascending (F : Fz K mg "ascending" s_ascending P_ascending) (T : Txt K mg) : Fx P w K mg base (L2.CX P w) "ascending" 1 P_ascending (lift K F_asc) := by
  refine F.okD sc_ascending (fun ds W Q E h => ?_) (fun f cdv A outer s H E e ds Qd Ed hr lk h => ?_)
  · obtain ⟨ns, rfl | rfl, _⟩ := h
    · rfl
    · rfl
  · obtain ⟨ns, h, hl, k⟩ := h
    have fin : ∀ d : D, ds = [d] → (d = .tup (ns.map D.int) ∨ d = .lst (ns.map D.int)) → ∃ t td, PSs (cxOf (L2.CX P w) P w K mg base N_ascending "ascending" (defScope s_ascending) f cdv A outer s H E) (defBody s_ascending) t ∧ SimZ K e t td ∧ td ⟨fun S => Qd .non S.W, Qd, fun _ => False, fun _ => False, fun _ _ => False⟩ (S0 N_ascending ds e.W) := by
      intro d hd hc
      subst hd
      refine ⟨_, _, (pss_one (ps_ret (pe_callTy (call_tuple_ofK K) (by rfl) T.b_tuple (by decide +kernel) (pa_cons (pe_callB (cr_sortedK K) (by rfl) T.b_sorted (by decide +kernel) (pa_cons (pe_lc (own := [("number", 1)]) (g := (gName 1)) (tt := tYes) rfl sc_ascending.nd (pi_any K (pv 0)) (blkOk_by (own := [("number", 1)]) (N := N_ascending) (sc := defScope s_ascending) (by decide +kernel)) (fun _ _ _ _ _ => (pg_name (i := 1) sc_ascending.nd rfl (by first | exact Or.inl rfl | exact Or.inr rfl))) (fun _ _ _ _ _ => pts_nil) (fun _ _ _ _ _ => (pe_callTy call_intU (by rfl) T.b_int (by decide +kernel) (pa_cons (pv 1) pa_nil)))) pa_nil)) pa_nil)))), inferInstance, ?_⟩
      rcases hc with rfl | rfl
      all_goals
        walk_at "d"
        refine comp_map D.int D.int ns (by simp; omega) (fun n hn N M h => ?_) ?_
        · walk_at "d"
          exact h
        · walk_at "d"
          rw [nts_map]
          walk_at "d"
          exact ⟨hl, k⟩
    rcases h with h | h
    · exact fin _ h (.inl rfl)
    · exact fin _ h (.inr rfl)
abbrev s_is_way : Stmt := top 35
abbrev N_is_way : List Str := ["whole", "steps", "noted", "k", "place", "mode"]
abbrev P_is_way : List Str := ["whole", "steps", "noted"]
theorem sc_is_way : FnScope N_is_way P_is_way (defScope s_is_way) := ⟨rfl, rfl, rfl, by decide +kernel, rfl, by decide +kernel, by decide +kernel⟩
abbrev s_way_fits : Stmt := top 36
abbrev N_way_fits : List Str := ["given", "chosen", "whole", "steps", "noted", "place", "step"]
abbrev P_way_fits : List Str := ["given", "chosen"]
theorem sc_way_fits : FnScope N_way_fits P_way_fits (defScope s_way_fits) := ⟨rfl, rfl, rfl, by decide +kernel, rfl, by decide +kernel, by decide +kernel⟩
def isDir (x : Str) : Bool := decide (x = Str.ofString "told" ∨ x = Str.ofString "found")
def rgI (n : Nat) : List Int := (List.range n).map fun (i : Nat) => (i : Int)
def noteAt (n : Nat) (l : List Int) (i : Nat) : Bool := decide (0 ≤ l.getD i 0) && decide (l.getD i 0 < n) && !decide (l.getD i 0 ∈ l.take i)
def isWayB (y : Wy) : Bool := isDir y.wh && decide (y.st.length ≤ 3) && y.st.all (fun p => isDir p.2) && decide (srt (y.st.map (·.1)) = rgI y.st.length) && (List.range y.nt.length).all (noteAt y.st.length y.nt)
theorem rng_rgI (n : Nat) : rng 0 n = (rgI n).map D.int := by
  unfold rng rgI
  rw [List.map_map]
  refine List.map_congr_left fun i _ => ?_
  simp
theorem ints_inj {a b : List Int} : D.tup (a.map D.int) = D.tup (b.map D.int) ↔ a = b := by
  constructor
  · intro h
    injection h with h
    exact (List.map_inj_right (f := D.int) fun x y e => by injection e).mp h
  · intro h; rw [h]
def F_isWay : FSpec := fun ds W Q _ => ∃ y : Wy, ds = [.str y.wh, .tup (y.st.map stpD), .tup (y.nt.map D.int)] ∧ y.st.length ≤ 60 ∧ y.nt.length ≤ 60 ∧ Q (.bl (isWayB y)) W
theorem ok_is_way (F : Fz K mg "is_way" s_is_way P_is_way) (T : Txt K mg) (G_ascending : Fx P w K mg base (L2.CX P w) "ascending" 1 P_ascending (lift K F_asc)) : Fx P w K mg base (L2.CX P w) "is_way" 2 P_is_way (lift K F_isWay) := by
  refine F.okD sc_is_way (fun ds W Q E h => ?_) (fun f cdv A outer s H E e ds Qd Ed hr lk h => ?_)
  · obtain ⟨y, rfl, _⟩ := h
    rfl
  · obtain ⟨⟨wh, st, nt⟩, rfl, hs, hn, k⟩ := h
    have hs : st.length ≤ 60 := hs
    have hn : nt.length ≤ 60 := hn
    have k : Qd (.bl (isDir wh && decide (st.length ≤ 3) && st.all (fun p => isDir p.2) && decide (srt (st.map (·.1)) = rgI st.length) && (List.range nt.length).all (noteAt st.length nt))) e.W := k
    refine ⟨_, _, (pss_cons (ps_if (PW.pt (pw_or (pt_cmpR (op_notInU K (hu65_of hr)) (pv 0) (pe_tup (pa_cons (pglob rfl T.c_TOLD) (pa_cons (pglob rfl T.c_FOUND) pa_nil))) (by rfl)) (pw_or1 (pt_cmpR op_gtU (pe_callB (call_lenU K) (by rfl) T.b_len PySem.boot_len (pa_cons (pv 1) pa_nil)) (pglob rfl T.c_MOST_PLACES) (nomark _))))) (pss_one (ps_ret pe_bl)) pss_nil)
      (pss_cons (ps_if (pt_not (pt_val (pe_callB (cr_allK K rfl) (by rfl) T.b_all (by decide +kernel) (pa_cons (pe_lc (own := [("place", 4), ("mode", 5)]) (g := (gTup K 2 (gCons (gName 4) (gCons (gName 5) gNil)))) (tt := tYes) rfl sc_is_way.nd (pi_any K (pv 1)) (blkOk_by (own := [("place", 4), ("mode", 5)]) (N := N_is_way) (sc := defScope s_is_way) (by decide +kernel)) (fun _ _ _ _ _ => (pg_tupK K 2 rfl (pgs_cons (pg_name (i := 4) sc_is_way.nd rfl (by first | exact Or.inl rfl | exact Or.inr rfl)) (pgs_cons (pg_name (i := 5) sc_is_way.nd rfl (by first | exact Or.inl rfl | exact Or.inr rfl)) pgs_nil)))) (fun _ _ _ _ _ => pts_nil) (fun _ _ _ _ _ => (pe_cmpR (op_inU K (hu65_of hr)) (pv 5) (pe_tup (pa_cons (pglob rfl T.c_TOLD) (pa_cons (pglob rfl T.c_FOUND) pa_nil))) (by rfl)))) pa_nil)))) (pss_one (ps_ret pe_bl)) pss_nil)
      (pss_cons (ps_if (pt_cmpR (op_neU K hr.units) (fcallX (takes_of rfl rfl rfl rfl) G_ascending (hr.mono (by first | decide | omega)) (by rfl) (pa_cons (pe_lc (own := [("place", 4), ("mode", 5)]) (g := (gTup K 2 (gCons (gName 4) (gCons (gName 5) gNil)))) (tt := tYes) rfl sc_is_way.nd (pi_any K (pv 1)) (blkOk_by (own := [("place", 4), ("mode", 5)]) (N := N_is_way) (sc := defScope s_is_way) (by decide +kernel)) (fun _ _ _ _ _ => (pg_tupK K 2 rfl (pgs_cons (pg_name (i := 4) sc_is_way.nd rfl (by first | exact Or.inl rfl | exact Or.inr rfl)) (pgs_cons (pg_name (i := 5) sc_is_way.nd rfl (by first | exact Or.inl rfl | exact Or.inr rfl)) pgs_nil)))) (fun _ _ _ _ _ => pts_nil) (fun _ _ _ _ _ => (pv 4))) pa_nil)) (pe_tupRg rfl (by rfl) T.b_tuple (prg_1 (by rfl) T.b_range (pe_callB (call_lenU K) (by rfl) T.b_len PySem.boot_len (pa_cons (pv 1) pa_nil)))) (nomark _)) (pss_one (ps_ret pe_bl)) pss_nil)
      (pss_cons (ps_for (passes_of rfl) rfl (pi_range1 (by rfl) T.b_range (pa_cons (pe_callB (call_lenU K) (by rfl) T.b_len PySem.boot_len (pa_cons (pv 2) pa_nil)) pa_nil)) (pg_name (i := 3) sc_is_way.nd rfl (Or.inl rfl)) (pss_one (ps_if (PW.pt (pw_or (pt_cmpR op_ltU (pe_ix (ix_U K (hu_of hr)) (pv 2) (pv 3) (fun _ _ => rfl)) pe_int (nomark _)) (pw_or (pt_cmpR op_geU (pe_ix (ix_U K (hu_of hr)) (pv 2) (pv 3) (fun _ _ => rfl)) (pe_callB (call_lenU K) (by rfl) T.b_len PySem.boot_len (pa_cons (pv 1) pa_nil)) (nomark _)) (pw_or1 (pt_cmpR (op_inU K (hu65_of hr)) (pe_ix (ix_U K (hu_of hr)) (pv 2) (pv 3) (fun _ _ => rfl)) (pe_slice (sl_U K) (pv 2) po_none (po_some (pv 3))) (by rfl)))))) (pss_one (ps_ret pe_bl)) pss_nil)))
      (pss_one (ps_ret pe_bl)))))), inferInstance, ?_⟩
    walk_at "d"
    refine ⟨⟨false, rfl, rfl⟩, ?_⟩
    refine iteB_by (fun c1 => ?_) (fun c1 => ?_)
    · walk_at "d"
      rw [show isDir wh = false from decide_eq_false c1] at k
      exact k
    · have c1 : isDir wh = true := decide_eq_true (Decidable.not_not.mp c1)
      rw [c1, Bool.true_and] at k
      walk_at "d"
      refine iteB_by (fun c2 => ?_) (fun c2 => ?_)
      · rw [List.length_map] at c2
        walk_at "d"
        rw [decide_eq_false (show ¬ st.length ≤ 3 by omega)] at k
        exact k
      · rw [List.length_map] at c2
        rw [decide_eq_true (show st.length ≤ 3 by omega), Bool.true_and] at k
        walk_at "d"
        refine comp_map stpD (fun p => .bl (isDir p.2)) st (by simp; omega) (fun p hp N M h => ?_) ?_
        · unfold stpD
          walk_at "d"
          refine ⟨⟨false, rfl, rfl⟩, ?_⟩
          exact h
        · walk_at "d"
          rw [bls_mapF]
          walk_at "d"
          rw [List.all_map]
          rw [show (st.all (id ∘ fun p => isDir p.2)) = st.all (fun p => isDir p.2) from rfl]
          refine iteB_by (fun c3 => ?_) (fun c3 => ?_)
          · walk_at "d"
            rw [c3] at k
            exact k
          · rw [Bool.not_eq_false] at c3
            rw [c3, Bool.true_and] at k
            walk_at "d"
            refine comp_map stpD (fun p => .int p.1) st (by simp; omega) (fun p hp N M h => ?_) ?_
            · unfold stpD
              walk_at "d"
              exact h
            · walk_at "d"
              refine ⟨st.map (·.1), .inr (by rw [List.map_map]; rfl), by rw [List.length_map]; omega, ?_⟩
              walk_at "d"
              rw [List.length_map, show ((st.length : Int) - 0).toNat = st.length by omega, rng_rgI]
              refine ⟨⟨by omega, by omega, by omega, by omega⟩, .inr ⟨false, by rw [okD]; exact ints_ok _, by rw [okD]; exact ints_ok _, by rw [dpD, ints_dp]; omega, by rw [dpD, ints_dp]; omega⟩, ?_⟩
              refine iteB_by (fun c4 => ?_) (fun c4 => ?_)
              · rw [ints_inj] at c4
                walk_at "d"
                rw [decide_eq_false c4] at k
                exact k
              · rw [ints_inj] at c4
                rw [decide_eq_true (Decidable.not_not.mp c4), Bool.true_and] at k
                walk_at "d"
                rw [List.length_map]
                refine ⟨by omega, by omega, ?_⟩
                rw [show ((nt.length : Int)).toNat = nt.length by omega]
                refine for_rng (fun i S => ∃ v3, S = ⟨[some (.val (.str wh)), some (.val (.tup (st.map stpD))), some (.val (.tup (nt.map D.int))), v3, none, none], e.W⟩ ∧ (List.range i).all (noteAt st.length nt) = true) ⟨_, rfl, rfl⟩ ?_ ?_
                · rintro i S hi ⟨v3, rfl, ha⟩
                  have ei : nt[i]? = some (nt.getD i 0) := by rw [List.getD_eq_getElem?_getD, List.getElem?_eq_getElem hi]; rfl
                  have ix : ∀ {z : Int}, z = (i : Int) → atI (nt.map D.int) z = some (.int (nt.getD i 0)) := fun hz => at_get hz (by rw [List.getElem?_map, ei]; rfl)
                  have bad : noteAt st.length nt i = false → Qd (.bl false) e.W := fun z => by
                    have : (List.range nt.length).all (noteAt st.length nt) = false := by
                      rw [← Bool.not_eq_true, List.all_eq_true]
                      exact fun h => by rw [h i (List.mem_range.mpr hi)] at z; cases z
                    rw [this] at k
                    exact k
                  have good : noteAt st.length nt i = true → (List.range (i + 1)).all (noteAt st.length nt) = true := fun z => by
                    rw [List.range_succ, List.all_append, ha, List.all_cons, List.all_nil, z]; rfl
                  unfold noteAt at bad good
                  generalize nt.getD i 0 = z at *
                  walk_at "d"
                  rw [ix (by omega)]
                  walk_at "d"
                  refine iteB_by (fun d1 => ?_) (fun d1 => ?_)
                  · walk_at "d"
                    exact bad (by rw [decide_eq_false (show ¬ 0 ≤ z by omega)]; rfl)
                  · walk_at "d"
                    rw [ix (by omega)]
                    walk_at "d"
                    rw [List.length_map]
                    refine iteB_by (fun d2 => ?_) (fun d2 => ?_)
                    · walk_at "d"
                      exact bad (by rw [decide_eq_false (show ¬ z < st.length by omega)]; simp)
                    · walk_at "d"
                      rw [ix (by omega)]
                      walk_at "d"
                      rw [cut_to (i := i) (by omega) (by rw [List.length_map]; omega), ← List.map_take]
                      have em : D.int z ∈ (nt.take i).map D.int ↔ z ∈ nt.take i := ⟨fun h => by obtain ⟨x, hx, e⟩ := List.mem_map.mp h; cases e; exact hx, fun h => List.mem_map.mpr ⟨z, h, rfl⟩⟩
                      refine ⟨⟨false, rfl, by rw [List.all_eq_true]; intro d hd; obtain ⟨x, _, rfl⟩ := List.mem_map.mp hd; rfl⟩, ?_⟩
                      refine iteB_by (fun d3 => ?_) (fun d3 => ?_)
                      · walk_at "d"
                        exact bad (by rw [decide_eq_true (em.mp d3)]; simp)
                      · walk_at "d"
                        exact ⟨_, rfl, good (by rw [decide_eq_false (fun h => d3 (em.mpr h)), decide_eq_true (show 0 ≤ z by omega), decide_eq_true (show z < st.length by omega)]; rfl)⟩
                · rintro S ⟨v3, rfl, ha⟩
                  walk_at "d"
                  rw [ha] at k
                  exact k
def bndAt (ps : List (D × D)) (k : Int) : Bool := !isNon (ps.getD k.toNat (.non, .non)).1
def wayFits (ps : List (D × D)) (y : Wy) : Bool := isWayB y && decide (y.nt = srt y.nt) && decide (y.st.length = ps.length) && y.nt.all (bndAt ps)
structure WayOf (ps : List (D × D)) (y : Wy) : Prop where
  wh : isDir y.wh = true
  md : ∀ p ∈ y.st, isDir p.2 = true
  pm : (y.st.map (·.1)).Perm (rgI ps.length)
  nt : y.nt.Pairwise (· < ·)
  nb : ∀ k ∈ y.nt, 0 ≤ k ∧ k < ps.length ∧ bndAt ps k = true
theorem rgI_len (n : Nat) : (rgI n).length = n := by simp [rgI]
theorem rgI_sorted (n : Nat) : (rgI n).Pairwise (· ≤ ·) := by
  unfold rgI
  rw [List.pairwise_map]
  exact List.pairwise_lt_range.imp fun h => by omega
theorem srt_eq {a b : List Int} (h : a.Perm b) (hb : b.Pairwise (· ≤ ·)) : srt a = b :=
  List.Perm.eq_of_pairwise (le := (· ≤ ·)) (fun x y _ _ h1 h2 => by omega) (srt_sorted a) hb ((srt_perm a).trans h)
theorem lt_len : ∀ (l : List Int) (a b : Int), l.Pairwise (· < ·) → (∀ k ∈ l, a ≤ k ∧ k < b) → l.length ≤ (b - a).toNat
  | [], _, _, _, _ => Nat.zero_le _
  | x :: l, a, b, h, hk => by
    rw [List.pairwise_cons] at h
    have h1 := hk x List.mem_cons_self
    have := lt_len l (x + 1) b h.2 fun k hk' => ⟨by have := h.1 k hk'; omega, (hk k (List.mem_cons_of_mem _ hk')).2⟩
    rw [List.length_cons]
    omega
theorem WayOf.stl {ps : List (D × D)} {y : Wy} (h : WayOf ps y) : y.st.length = ps.length := by
  have := h.pm.length_eq
  rwa [List.length_map, rgI_len] at this
theorem WayOf.ntl {ps : List (D × D)} {y : Wy} (h : WayOf ps y) : y.nt.length ≤ ps.length := by
  have := lt_len y.nt 0 ps.length h.nt fun k hk => ⟨(h.nb k hk).1, (h.nb k hk).2.1⟩
  omega
theorem lt_take {l : List Int} (h : l.Pairwise (· < ·)) {i : Nat} (hi : i < l.length) : l[i] ∉ l.take i := fun z => by
  obtain ⟨j, hj, e⟩ := List.mem_iff_getElem.mp z
  rw [List.length_take] at hj
  rw [List.getElem_take] at e
  have := List.pairwise_iff_getElem.mp h j i (by omega) hi (by omega)
  omega
theorem WayOf.fits {ps : List (D × D)} {y : Wy} (h : WayOf ps y) (hl : ps.length ≤ 3) : wayFits ps y = true := by
  have e1 := h.stl
  unfold wayFits isWayB
  rw [h.wh, decide_eq_true (show y.st.length ≤ 3 by omega), decide_eq_true e1, e1, decide_eq_true (srt_eq h.pm (rgI_sorted _)), decide_eq_true (srt_eq (List.Perm.refl y.nt) (h.nt.imp fun h => by omega)).symm]
  rw [show (y.st.all fun p => isDir p.2) = true from List.all_eq_true.mpr h.md, show y.nt.all (bndAt ps) = true from List.all_eq_true.mpr fun k hk => (h.nb k hk).2.2]
  rw [show ((List.range y.nt.length).all (noteAt ps.length y.nt)) = true from List.all_eq_true.mpr fun i hi => ?_]
  · rfl
  · have hi := List.mem_range.mp hi
    have ei : y.nt.getD i 0 = y.nt[i] := by rw [List.getD_eq_getElem?_getD, List.getElem?_eq_getElem hi]; rfl
    obtain ⟨b1, b2, _⟩ := h.nb _ (List.getElem_mem hi)
    rw [noteAt, ei, decide_eq_true b1, decide_eq_true b2, decide_eq_false (lt_take h.nt hi)]; rfl
section
variable {ps : List (D × D)} {y : Wy}
end
def F_wayFits : FSpec := fun ds W Q _ => ∃ (ps : List (D × D)) (wd : D) (y : Wy), ds = [ruleD ps wd, wayD y] ∧ y.st.length ≤ 60 ∧ y.nt.length ≤ 60 ∧ ps.length ≤ 60 ∧ (∀ p ∈ ps, okD false p.1 = true) ∧ Q (.bl (wayFits ps y)) W
theorem ok_way_fits (F : Fz K mg "way_fits" s_way_fits P_way_fits) (T : Txt K mg) (G_are_integers : Fx P w K mg base (L2.CX P w) "are_integers" 1 P_are_integers (lift K F_ints)) (G_are_steps : Fx P w K mg base (L2.CX P w) "are_steps" 2 P_are_steps (lift K F_steps)) (G_ascending : Fx P w K mg base (L2.CX P w) "ascending" 1 P_ascending (lift K F_asc)) (G_is_way : Fx P w K mg base (L2.CX P w) "is_way" 2 P_is_way (lift K F_isWay)) : Fx P w K mg base (L2.CX P w) "way_fits" 3 P_way_fits (lift K F_wayFits) := by
  refine F.okD sc_way_fits (fun ds W Q E h => ?_) (fun f cdv A outer s H E e ds Qd Ed hr lk h => ?_)
  · obtain ⟨ps, wd, y, rfl, _⟩ := h
    rfl
  · obtain ⟨ps, wd, ⟨wh, st, nt⟩, rfl, hs, hn, hp, hb, k⟩ := h
    have hs : st.length ≤ 60 := hs
    have hn : nt.length ≤ 60 := hn
    have k : Qd (.bl (isWayB ⟨wh, st, nt⟩ && decide (nt = srt nt) && decide (st.length = ps.length) && nt.all (bndAt ps))) e.W := k
    refine ⟨_, _, (pss_cons (ps_if (PW.pt (pw_or (pt_not (pt_val (pe_callB (call_isi1K K) (by rfl) T.b_isinstance (by decide +kernel) (pa_cons (pv 1) (pa_cons (pe_bltn (v := .ty "tuple") (by rfl) T.b_tuple (by decide +kernel) rfl) pa_nil))))) (pw_or1 (pt_cmpR (op_neU K hr.units) (pe_callB (call_lenU K) (by rfl) T.b_len PySem.boot_len (pa_cons (pv 1) pa_nil)) pe_int (nomark _))))) (pss_one (ps_ret pe_bl)) pss_nil)
      (pss_cons (ps_asg (pv 1) (pg_tupK K 3 rfl (pgs_cons (pg_name (i := 2) sc_way_fits.nd rfl (Or.inl rfl)) (pgs_cons (pg_name (i := 3) sc_way_fits.nd rfl (Or.inl rfl)) (pgs_cons (pg_name (i := 4) sc_way_fits.nd rfl (Or.inl rfl)) pgs_nil)))))
      (pss_cons (ps_if (PW.pt (pw_or (pt_not (pt_val (pe_callB (call_isi1K K) (by rfl) T.b_isinstance (by decide +kernel) (pa_cons (pv 3) (pa_cons (pe_bltn (v := .ty "tuple") (by rfl) T.b_tuple (by decide +kernel) rfl) pa_nil))))) (pw_or (pt_not (pt_val (pe_callB (call_isi1K K) (by rfl) T.b_isinstance (by decide +kernel) (pa_cons (pv 4) (pa_cons (pe_bltn (v := .ty "tuple") (by rfl) T.b_tuple (by decide +kernel) rfl) pa_nil))))) (pw_or (pt_not (pt_val (fcallX (takes_of rfl rfl rfl rfl) G_are_steps (hr.mono (by first | decide | omega)) (by rfl) (pa_cons (pv 3) pa_nil)))) (pw_or1 (pt_not (pt_val (fcallX (takes_of rfl rfl rfl rfl) G_are_integers (hr.mono (by first | decide | omega)) (by rfl) (pa_cons (pv 4) pa_nil))))))))) (pss_one (ps_ret pe_bl)) pss_nil)
      (pss_cons (ps_if (pt_not (pt_val (pe_callB (cr_allK K rfl) (by rfl) T.b_all (by decide +kernel) (pa_cons (pe_lc (own := [("step", 6)]) (g := (gName 6)) (tt := tYes) rfl sc_way_fits.nd (pi_any K (pv 3)) (blkOk_by (own := [("step", 6)]) (N := N_way_fits) (sc := defScope s_way_fits) (by decide +kernel)) (fun _ _ _ _ _ => (pg_name (i := 6) sc_way_fits.nd rfl (by first | exact Or.inl rfl | exact Or.inr rfl))) (fun _ _ _ _ _ => pts_nil) (fun _ _ _ _ _ => (pe_callB (call_isi1K K) (by rfl) T.b_isinstance (by decide +kernel) (pa_cons (pv 6) (pa_cons (pe_bltn (v := .ty "tuple") (by rfl) T.b_tuple (by decide +kernel) rfl) pa_nil))))) pa_nil)))) (pss_one (ps_ret pe_bl)) pss_nil)
      (pss_cons (ps_if (PW.pt (pw_or (pt_not (pt_val (fcallX (takes_of rfl rfl rfl rfl) G_is_way (hr.mono (by first | decide | omega)) (by rfl) (pa_cons (pv 2) (pa_cons (pv 3) (pa_cons (pv 4) pa_nil)))))) (pw_or (pt_cmpR (op_neU K hr.units) (pv 4) (fcallX (takes_of rfl rfl rfl rfl) G_ascending (hr.mono (by first | decide | omega)) (by rfl) (pa_cons (pv 4) pa_nil)) (nomark _)) (pw_or1 (pt_cmpR (op_neU K hr.units) (pe_callB (call_lenU K) (by rfl) T.b_len PySem.boot_len (pa_cons (pv 3) pa_nil)) (pe_callB (call_lenU K) (by rfl) T.b_len PySem.boot_len (pa_cons (pe_ix (ix_U K (hu_of hr)) (pv 0) pe_int (fun _ _ => rfl)) pa_nil)) (nomark _)))))) (pss_one (ps_ret pe_bl)) pss_nil)
      (pss_one (ps_ret (pe_callB (cr_allK K rfl) (by rfl) T.b_all (by decide +kernel) (pa_cons (pe_lc (own := [("place", 5)]) (g := (gName 5)) (tt := tYes) rfl sc_way_fits.nd (pi_any K (pv 4)) (blkOk_by (own := [("place", 5)]) (N := N_way_fits) (sc := defScope s_way_fits) (by decide +kernel)) (fun _ _ _ _ _ => (pg_name (i := 5) sc_way_fits.nd rfl (by first | exact Or.inl rfl | exact Or.inr rfl))) (fun _ _ _ _ _ => pts_nil) (fun _ _ _ _ _ => (pe_cmpR op_notNU (pe_ix (ix_U K (hu_of hr)) (pe_ix (ix_U K (hu_of hr)) (pe_ix (ix_U K (hu_of hr)) (pv 0) pe_int (fun _ _ => rfl)) (pv 5) (fun _ _ => rfl)) pe_int (fun _ _ => rfl)) pe_non (nomark _)))) pa_nil))))))))), inferInstance, ?_⟩
    show _
    unfold wayD ruleD
    walk_at "d"
    refine iteB_F (by decide) ?_
    walk_at "d"
    refine ⟨st, rfl, by omega, ?_⟩
    walk_at "d"
    refine ⟨nt, rfl, by omega, ?_⟩
    walk_at "d"
    refine comp_map stpD (fun _ => .bl true) st (by simp; omega) (fun p hp N M h => ?_) ?_
    · unfold stpD
      walk_at "d"
      exact h
    walk_at "d"
    rw [show bls (st.map fun _ : Int × Str => D.bl true) = some (st.map fun _ => true) from bls_mapF _ st]
    walk_at "d"
    rw [show ((st.map fun _ : Int × Str => true).all id) = true by simp]
    walk_at "d"
    refine ⟨⟨wh, st, nt⟩, rfl, hs, hn, ?_⟩
    cases c1 : isWayB ⟨wh, st, nt⟩ with
    | false =>
      rw [c1] at k
      walk_at "d"
      exact k
    | true =>
      rw [c1, Bool.true_and] at k
      walk_at "d"
      refine ⟨nt, .inl rfl, by omega, ?_⟩
      walk_at "d"
      refine ⟨.inr ⟨false, by rw [okD]; exact ints_ok _, by rw [okD]; exact ints_ok _, by rw [dpD, ints_dp]; omega, by rw [dpD, ints_dp]; omega⟩, ?_⟩
      refine iteB_by (fun c2 => ?_) (fun c2 => ?_)
      · rw [ints_inj] at c2
        rw [decide_eq_false c2] at k
        walk_at "d"
        exact k
      · rw [ints_inj] at c2
        rw [decide_eq_true (Decidable.not_not.mp c2), Bool.true_and] at k
        walk_at "d"
        rw [List.length_map, List.length_map]
        refine iteB_by (fun c3 => ?_) (fun c3 => ?_)
        · rw [decide_eq_false (show ¬ st.length = ps.length by omega)] at k
          walk_at "d"
          exact k
        · have c3 : st.length = ps.length := by omega
          rw [decide_eq_true c3, Bool.true_and] at k
          have hin : ∀ x ∈ nt, 0 ≤ x ∧ x < ps.length := fun x hx => by
            unfold isWayB at c1
            rw [Bool.and_eq_true, List.all_eq_true] at c1
            obtain ⟨i, hi, e⟩ := List.mem_iff_getElem.mp hx
            have h := c1.2 i (List.mem_range.mpr hi)
            rw [noteAt, Bool.and_eq_true, Bool.and_eq_true] at h
            have ei : nt.getD i 0 = x := by rw [List.getD_eq_getElem?_getD, List.getElem?_eq_getElem hi, e]; rfl
            have h1 := of_decide_eq_true h.1.1
            have h2 := of_decide_eq_true h.1.2
            have h1 : 0 ≤ nt.getD i 0 := h1
            have h2 : nt.getD i 0 < st.length := h2
            rw [ei] at h1 h2
            omega
          walk_at "d"
          refine comp_map D.int (fun x => .bl (bndAt ps x)) nt (by simp; omega) (fun x hx N M h => ?_) ?_
          · obtain ⟨x0, x1⟩ := hin x hx
            have hx' : x.toNat < ps.length := by omega
            have ep : ps[x.toNat]? = some (ps.getD x.toNat (.non, .non)) := by rw [List.getD_eq_getElem?_getD, List.getElem?_eq_getElem hx']; rfl
            walk_at "d"
            rw [at_get (j := x.toNat) (by omega) (show (ps.map fun p : D × D => D.tup [p.1, p.2])[x.toNat]? = some (D.tup [(ps.getD x.toNat (.non, .non)).1, (ps.getD x.toNat (.non, .non)).2]) by rw [List.getElem?_map, ep]; rfl)]
            walk_at "d"
            have h : N (.bl (!isNon (ps.getD x.toNat (.non, .non)).1)) _ := h
            generalize (ps.getD x.toNat (.non, .non)).1 = b at h ⊢
            cases b <;> exact h
          · walk_at "d"
            rw [bls_mapF]
            walk_at "d"
            rw [List.all_map]
            exact k
abbrev s__law_way : Stmt := top 68
abbrev N__law_way : List Str := ["_law_tape_here", "_law_one", "_law_left", "_law_steps", "_law_marked", "_law_k", "_law_place"]
abbrev P__law_way : List Str := ["_law_tape_here", "_law_one"]
theorem sc__law_way : FnScope N__law_way P__law_way (defScope s__law_way) := ⟨rfl, rfl, rfl, by decide +kernel, rfl, by decide +kernel, by decide +kernel⟩
def F_way : FSpec := fun ds W Q _ => ∃ (ps : List (D × D)) (wd : D), ds = [.tape, ruleD ps wd] ∧ ps.length ≤ 60 ∧ (∀ p ∈ ps, okD false p.1 = true) ∧ ∀ y, WayOf ps y → Q (wayD y) W
theorem perm_erase {l : List Int} {j : Nat} {x : Int} (h : l[j]? = some x) : (x :: l.eraseIdx j).Perm l := by
  obtain ⟨hj, e⟩ := List.getElem?_eq_some_iff.mp h
  subst e
  rw [List.eraseIdx_eq_take_drop_succ]
  refine (List.perm_middle (a := l[j])).symm.trans ?_
  rw [← List.drop_eq_getElem_cons hj, List.take_append_drop]
theorem map_erase {α β : Type} (f : α → β) (l : List α) (i : Nat) : (l.map f).eraseIdx i = (l.eraseIdx i).map f := by
  rw [List.eraseIdx_eq_take_drop_succ, List.eraseIdx_eq_take_drop_succ, List.map_append, List.map_take, List.map_drop]
structure WayAt (ps : List (D × D)) (i : Nat) (lf : List Int) (st : List (Int × Str)) (mk : List Int) : Prop where
  ll : lf.length + i = ps.length
  pm : (st.map (·.1) ++ lf).Perm (rgI ps.length)
  sl : st.length = i
  md : ∀ p ∈ st, isDir p.2 = true
  nt : mk.Pairwise (· < ·)
  nb : ∀ k ∈ mk, 0 ≤ k ∧ k < i ∧ bndAt ps k = true
theorem ok__law_way (F : Fz K mg "_law_way" s__law_way P__law_way) (T : Txt K mg) (G__law_take : Fx P w K mg base (L2.CX P w) "_law_take" 1 P__law_take (lift K F_take)) : Fx P w K mg base (L2.CX P w) "_law_way" 2 P__law_way (lift K F_way) := by
  refine F.okD sc__law_way (fun ds W Q E h => ?_) (fun f cdv A outer s H E e ds Qd Ed hr lk h => ?_)
  · obtain ⟨ps, wd, rfl, _⟩ := h
    rfl
  · obtain ⟨ps, wd, rfl, hp, hb, k⟩ := h
    refine ⟨_, _, (pss_cons (setO_of (ps_setLc (i := 2) (own := [("_law_k", 5)]) (g := (gName 5)) (tt := tYes) rfl sc__law_way.nd rfl rfl (sw_true rfl rfl rfl (by decide +kernel)) (pi_range1 (by rfl) T.b_range (pa_cons (pe_callB (call_lenU K) (by rfl) T.b_len PySem.boot_len (pa_cons (pe_ix (ix_U K (hu_of hr)) (pv 1) pe_int (fun _ _ => rfl)) pa_nil)) pa_nil)) (blkOk_by (own := [("_law_k", 5)]) (N := N__law_way) (sc := defScope s__law_way) (by decide +kernel)) (fun _ _ _ _ _ => (pg_name (i := 5) sc__law_way.nd rfl (by first | exact Or.inl rfl | exact Or.inr rfl))) (fun _ _ _ _ _ => pts_nil) (fun _ _ _ _ _ => (pv 5))))
      (pss_cons (setO_of (ps_set (i := 3) sc__law_way.nd rfl (Or.inl rfl) (pe_lst pa_nil)))
      (pss_cons (setO_of (ps_set (i := 4) sc__law_way.nd rfl (Or.inl rfl) (pe_lst pa_nil)))
      (pss_cons (ps_for (passes_of rfl) rfl (pi_range1 (by rfl) T.b_range (pa_cons (pe_callB (call_lenU K) (by rfl) T.b_len PySem.boot_len (pa_cons (pe_ix (ix_U K (hu_of hr)) (pv 1) pe_int (fun _ _ => rfl)) pa_nil)) pa_nil)) (pg_name (i := 5) sc__law_way.nd rfl (Or.inl rfl)) (pss_cons (ps_if (PW.pt (pw_and (pt_cmpR op_notNU (pe_ix (ix_U K (hu_of hr)) (pe_ix (ix_U K (hu_of hr)) (pe_ix (ix_U K (hu_of hr)) (pv 1) pe_int (fun _ _ => rfl)) (pv 5) (fun _ _ => rfl)) pe_int (fun _ _ => rfl)) pe_non (nomark _)) (pw_and1 (pt_cmpR (op_eqU K hr.units) (fcallX (takes_of rfl rfl rfl rfl) G__law_take (hr.mono (by first | decide | omega)) (by rfl) (pa_cons (pv 0) (pa_cons pe_int pa_nil))) pe_int (nomark _))))) (pss_one (ps_expr (pe_bmK K PySem.F.plainAttrs_list PySem.F.slot_list_append PySem.F.type_list_append mt_append (pv 4) (pa_cons (pv 5) pa_nil)))) pss_nil)
      (pss_cons (ps_set (i := 6) sc__law_way.nd rfl (Or.inl rfl) (pe_bmK K PySem.F.plainAttrs_list PySem.F.slot_list_pop PySem.F.type_list_pop mt_popAt (pv 2) (pa_cons (fcallX (takes_of rfl rfl rfl rfl) G__law_take (hr.mono (by first | decide | omega)) (by rfl) (pa_cons (pv 0) (pa_cons (pe_callB (call_lenU K) (by rfl) T.b_len PySem.boot_len (pa_cons (pv 2) pa_nil)) pa_nil))) pa_nil)))
      (pss_one (ps_expr (pe_bmK K PySem.F.plainAttrs_list PySem.F.slot_list_append PySem.F.type_list_append mt_append (pv 3) (pa_cons (pe_tup (pa_cons (pv 6) (pa_cons (pe_ix (ix_U K (hu_of hr)) (pe_lst (pa_cons pe_str (pa_cons pe_str pa_nil))) (fcallX (takes_of rfl rfl rfl rfl) G__law_take (hr.mono (by first | decide | omega)) (by rfl) (pa_cons (pv 0) (pa_cons pe_int pa_nil))) (fun _ _ => rfl)) pa_nil))) pa_nil)))))))
      (pss_one (ps_ret (pe_tup (pa_cons (pe_ix (ix_U K (hu_of hr)) (pe_lst (pa_cons pe_str (pa_cons pe_str pa_nil))) (fcallX (takes_of rfl rfl rfl rfl) G__law_take (hr.mono (by first | decide | omega)) (by rfl) (pa_cons (pv 0) (pa_cons pe_int pa_nil))) (fun _ _ => rfl)) (pa_cons (pe_callTy (call_tuple_ofK K) (by rfl) T.b_tuple (by decide +kernel) (pa_cons (pv 3) pa_nil)) (pa_cons (pe_callTy (call_tuple_ofK K) (by rfl) T.b_tuple (by decide +kernel) (pa_cons (pv 4) pa_nil)) pa_nil)))))))))), inferInstance, ?_⟩
    unfold ruleD
    walk_at "d"
    rw [List.length_map]
    refine ⟨by omega, by omega, ?_⟩
    rw [show (ps.length : Int).toNat = ps.length by omega]
    refine comp_map (fun i : Nat => D.int (0 + (i : Int))) (fun i : Nat => D.int (i : Int)) (List.range ps.length) (by simp; omega) (fun i hi N M h => ?_) ?_
    · walk_at "d"
      rw [Int.zero_add]
      exact h
    rw [show ([] ++ (List.range ps.length).map fun i : Nat => D.int (i : Int)) = (rgI ps.length).map D.int by rw [rgI, List.map_map]; rfl]
    walk_at "d"
    rw [List.length_map]
    refine ⟨by omega, by omega, ?_⟩
    rw [show (ps.length : Int).toNat = ps.length by omega]
    refine for_rng (fun i S => ∃ v5 v6 lf st mk, S = ⟨[some (.val .tape), some (.val (.tup [.tup (ps.map fun p => .tup [p.1, p.2]), wd])), some (.ownL (lf.map D.int)), some (.ownL (st.map stpD)), some (.ownL (mk.map D.int)), v5, v6], e.W⟩ ∧ WayAt ps i lf st mk) ?_ ?_ ?_
    · exact ⟨_, _, _, [], [], rfl, ⟨by rw [rgI_len]; rfl, by simp, rfl, by simp, .nil, by simp⟩⟩
    · rintro i S hi ⟨v5, v6, lf, st, mk, rfl, wa⟩
      have ep : ps[i]? = some (ps.getD i (.non, .non)) := by rw [List.getD_eq_getElem?_getD, List.getElem?_eq_getElem hi]; rfl
      have hb1 := hb _ (List.mem_of_getElem? ep)
      have ebn : bndAt ps (i : Int) = !isNon (ps.getD i (.non, .non)).1 := rfl
      generalize ps.getD i (.non, .non) = p at *
      obtain ⟨pb, pd⟩ := p
      have ebn : bndAt ps (i : Int) = !isNon pb := ebn
      have hll := wa.ll
      have hsl := wa.sl
      have mn : mk.Pairwise (· < ·) ∧ ∀ k ∈ mk, 0 ≤ k ∧ k < ((i + 1 : Nat) : Int) ∧ bndAt ps k = true := ⟨wa.nt, fun k hk => by obtain ⟨a, b, c⟩ := wa.nb k hk; exact ⟨a, by omega, c⟩⟩
      have ml : mk.length ≤ i := by
        have := lt_len mk 0 i wa.nt fun k hk => ⟨(wa.nb k hk).1, (wa.nb k hk).2.1⟩
        omega
      have mm : bndAt ps (i : Int) = true → (mk ++ [(i : Int)]).Pairwise (· < ·) ∧ ∀ k ∈ mk ++ [(i : Int)], 0 ≤ k ∧ k < ((i + 1 : Nat) : Int) ∧ bndAt ps k = true := fun hz => by
        refine ⟨List.pairwise_append.mpr ⟨wa.nt, List.pairwise_singleton _ _, fun a ha b hb => ?_⟩, fun k hk => ?_⟩
        · rw [List.mem_singleton.mp hb]; exact (wa.nb a ha).2.1
        · rcases List.mem_append.mp hk with hk | hk
          · exact mn.2 k hk
          · rw [List.mem_singleton.mp hk]; exact ⟨by omega, by omega, hz⟩
      have fin : ∀ (lf' : List Int) (x : Int) (j : Nat) (m : Str) (mk' : List Int), lf[j]? = some x → lf' = lf.eraseIdx j → isDir m = true → (mk'.Pairwise (· < ·) ∧ ∀ k ∈ mk', 0 ≤ k ∧ k < ((i + 1 : Nat) : Int) ∧ bndAt ps k = true) → WayAt ps (i + 1) lf' (st ++ [(x, m)]) mk' := fun lf' x j m mk' hj hl hm hk => by
        subst hl
        have hjl := (List.getElem?_eq_some_iff.mp hj).1
        refine ⟨by rw [List.length_eraseIdx, if_pos hjl]; omega, ?_, by simp; omega, fun p hp => ?_, hk.1, hk.2⟩
        · rw [List.map_append, List.append_assoc]
          exact ((perm_erase hj).append_left _).trans wa.pm
        · rcases List.mem_append.mp hp with hp | hp
          · exact wa.md p hp
          · rw [List.mem_singleton.mp hp]; exact hm
      have dir : ∀ z : Int, 0 ≤ z → z < 2 → ∃ m, atI [D.str (Str.ofString "told"), D.str (Str.ofString "found")] z = some (D.str m) ∧ isDir m = true := fun z z0 z1 => by
        by_cases z2 : z = 0
        · subst z2; exact ⟨_, atI_0 _ _, by decide +kernel⟩
        · have : z = 1 := by omega
          subst this; exact ⟨_, atI_1 _ _ _, by decide +kernel⟩
      walk_at "d"
      rw [at_get (j := i) (by omega) (show (ps.map fun p : D × D => D.tup [p.1, p.2])[i]? = some (D.tup [pb, pd]) by rw [List.getElem?_map, ep]; rfl)]
      walk_at "d"
      cases hpb : isNon pb with
      | true =>
        have : pb = .non := by cases pb <;> first | rfl | cases hpb
        subst this
        walk_at "d"
        refine ⟨_, rfl, by rw [List.length_map]; omega, fun r r0 r1 => ?_⟩
        rw [List.length_map] at r1
        have hj : lf[r.toNat]? = some lf[r.toNat] := List.getElem?_eq_getElem (by omega)
        generalize lf[r.toNat]'(by omega) = x at hj
        walk_at "d"
        rw [popI_at (j := r.toNat) (by omega) (show (lf.map D.int)[r.toNat]? = some (.int x) by rw [List.getElem?_map, hj]; rfl)]
        walk_at "d"
        refine ⟨⟨by omega, by omega⟩, 2, rfl, by decide, fun z z0 z1 => ?_⟩
        obtain ⟨m, em, hm⟩ := dir z z0 z1
        walk_at "d"
        rw [em]
        walk_at "d"
        rw [map_erase, show st.map stpD ++ [D.tup [.int x, .str m]] = (st ++ [(x, m)]).map stpD by simp [stpD]]
        refine ⟨by rw [List.length_map]; omega, _, _, lf.eraseIdx r.toNat, st ++ [(x, m)], mk, rfl, fin _ x _ m _ hj rfl hm mn⟩
      | false =>
        refine iteB_T (by cases pb <;> first | rfl | cases hpb) ?_
        walk_at "d"
        refine ⟨3, rfl, by decide, fun t t0 t1 => ?_⟩
        walk_at "d"
        refine iteB_by (fun c => ?_) (fun c => ?_)
        · walk_at "d"
          refine ⟨by rw [List.length_map]; omega, ?_⟩
          rw [show mk.map D.int ++ [D.int (0 + (i : Int))] = (mk ++ [(i : Int)]).map D.int by simp]
          refine ⟨_, rfl, by rw [List.length_map]; omega, fun r r0 r1 => ?_⟩
          rw [List.length_map] at r1
          have hj : lf[r.toNat]? = some lf[r.toNat] := List.getElem?_eq_getElem (by omega)
          generalize lf[r.toNat]'(by omega) = x at hj
          walk_at "d"
          rw [popI_at (j := r.toNat) (by omega) (show (lf.map D.int)[r.toNat]? = some (.int x) by rw [List.getElem?_map, hj]; rfl)]
          walk_at "d"
          refine ⟨⟨by omega, by omega⟩, 2, rfl, by decide, fun z z0 z1 => ?_⟩
          obtain ⟨m, em, hm⟩ := dir z z0 z1
          walk_at "d"
          rw [em]
          walk_at "d"
          rw [map_erase, show st.map stpD ++ [D.tup [.int x, .str m]] = (st ++ [(x, m)]).map stpD by simp [stpD]]
          refine ⟨by rw [List.length_map]; omega, _, _, lf.eraseIdx r.toNat, st ++ [(x, m)], mk ++ [(i : Int)], rfl, fin _ x _ m _ hj rfl hm (mm (by rw [ebn, hpb]; rfl))⟩
        · walk_at "d"
          refine ⟨_, rfl, by rw [List.length_map]; omega, fun r r0 r1 => ?_⟩
          rw [List.length_map] at r1
          have hj : lf[r.toNat]? = some lf[r.toNat] := List.getElem?_eq_getElem (by omega)
          generalize lf[r.toNat]'(by omega) = x at hj
          walk_at "d"
          rw [popI_at (j := r.toNat) (by omega) (show (lf.map D.int)[r.toNat]? = some (.int x) by rw [List.getElem?_map, hj]; rfl)]
          walk_at "d"
          refine ⟨⟨by omega, by omega⟩, 2, rfl, by decide, fun z z0 z1 => ?_⟩
          obtain ⟨m, em, hm⟩ := dir z z0 z1
          walk_at "d"
          rw [em]
          walk_at "d"
          rw [map_erase, show st.map stpD ++ [D.tup [.int x, .str m]] = (st ++ [(x, m)]).map stpD by simp [stpD]]
          refine ⟨by rw [List.length_map]; omega, _, _, lf.eraseIdx r.toNat, st ++ [(x, m)], mk, rfl, fin _ x _ m _ hj rfl hm mn⟩
    · rintro S ⟨v5, v6, lf, st, mk, rfl, wa⟩
      have dir : ∀ z : Int, 0 ≤ z → z < 2 → ∃ m, atI [D.str (Str.ofString "found"), D.str (Str.ofString "told")] z = some (D.str m) ∧ isDir m = true := fun z z0 z1 => by
        by_cases z2 : z = 0
        · subst z2; exact ⟨_, atI_0 _ _, by decide +kernel⟩
        · have : z = 1 := by omega
          subst this; exact ⟨_, atI_1 _ _ _, by decide +kernel⟩
      walk_at "d"
      refine ⟨2, rfl, by decide, fun z z0 z1 => ?_⟩
      obtain ⟨m, em, hm⟩ := dir z z0 z1
      walk_at "d"
      rw [em]
      walk_at "d"
      have hl0 : lf = [] := List.eq_nil_of_length_eq_zero (by have := wa.ll; omega)
      refine k ⟨m, st, mk⟩ ⟨hm, wa.md, ?_, wa.nt, wa.nb⟩
      have := wa.pm
      rw [hl0, List.append_nil] at this
      exact this
abbrev s_Book___init__ : Stmt := inClass (top 57) 0
abbrev N_Book___init__ : List Str := ["self", "table"]
abbrev P_Book___init__ : List Str := ["self", "table"]
theorem sc_Book___init__ : FnScope N_Book___init__ P_Book___init__ (defScope s_Book___init__) := ⟨rfl, rfl, rfl, by decide +kernel, rfl, by decide +kernel, by decide +kernel⟩
abbrev s_Book___getitem__ : Stmt := inClass (top 57) 1
abbrev N_Book___getitem__ : List Str := ["self", "sign"]
abbrev P_Book___getitem__ : List Str := ["self", "sign"]
theorem sc_Book___getitem__ : FnScope N_Book___getitem__ P_Book___getitem__ (defScope s_Book___getitem__) := ⟨rfl, rfl, rfl, by decide +kernel, rfl, by decide +kernel, by decide +kernel⟩
abbrev s_Book___setitem__ : Stmt := inClass (top 57) 2
abbrev N_Book___setitem__ : List Str := ["self", "sign", "ways", "chosen"]
abbrev P_Book___setitem__ : List Str := ["self", "sign", "ways"]
theorem sc_Book___setitem__ : FnScope N_Book___setitem__ P_Book___setitem__ (defScope s_Book___setitem__) := ⟨rfl, rfl, rfl, by decide +kernel, rfl, by decide +kernel, by decide +kernel⟩
def bkC (t b : Addr) : List (Str × D) := [("table", .ref t), ("ways", .ref b)]
structure BkAt (C : Addr) (W : Wd) (a t b : Addr) (ws : List (Key × D)) : Prop where
  o : W.ω a = some (.ins C (bkC t b))
  k : W.ω b = some (.dct ws)
def F_bkNew (C : Addr) : FSpec := fun ds W Q _ => ∃ (a t : Addr) (W0 : Wd), ds = [.ref a, .ref t] ∧ W = W0.put a (.ins C []) ∧ W0.ω a = none ∧ ∀ b, W0.ω b = none → b ≠ a → Q .non ((W0.put b (.dct [])).put a (.ins C (bkC t b)))
theorem ok_bkNew (Z : Kz K (clsA mg "Book") "Book.__init__" s_Book___init__ P_Book___init__ []) (T : Txt K mg) : Kx P w K mg base (clsA mg "Book") 1 P_Book___init__ [] (lift K (F_bkNew (clsA mg "Book"))) := by
  refine Z.okD sc_Book___init__ (fun ds W Q E h => by obtain ⟨a, t, W0, rfl, _⟩ := h; rfl) ?_
  intro f cdv A outer s H E e ds Qd Ed hr lk h
  obtain ⟨a, t, W0, rfl, hW, ha, k⟩ := h
  refine ⟨_, _, (pss_cons (setX T.f_Book_table (pv 0) (pv 1))
      (pss_one (setX T.f_Book_ways (pv 0) (share_of pe_dnewK)))), inferInstance, ?_⟩
  rw [hW]
  walk_at "d"
  refine ⟨by omega, fun b hb _ => ?_⟩
  have n : b ≠ a := put_ne hb
  refine insFB_at ((Wd.put_ne (Ne.symm n)).trans Wd.put_same) ?_
  walk_at "d"
  refine ⟨by omega, ?_⟩
  rw [put_comm (Ne.symm n), put_put]
  exact k b (put_none' hb) n
def F_bkSet (C CT U B : Addr) (isR : Bool) : FSpec := fun ds W Q E => ∃ (a t b r : Addr) (st v : D) (ks ws : List (Key × D)) (x : Str) (ys : List Wy), ds = [.ref a, .str x, v] ∧ BkAt C W a t b ws ∧ TbAt CT W t r st ks ∧ x.length ≤ 1000 ∧ ws.length ≤ 1000 ∧ ys.length ≤ 1000 ∧ (∀ y ∈ ys, y.st.length ≤ 60 ∧ y.nt.length ≤ 60) ∧
  (if isR then ∃ c, v = .ref c ∧ W.ω c = some (.lst (ys.map wayD)) else v = .lst (ys.map wayD) ∨ v = .tup (ys.map wayD)) ∧ (look ks (.inr x) = none → E ⟨U, [("sign", .str x)]⟩ W) ∧
  (∀ d, look ks (.inr x) = some d → ∃ (ps : List (D × D)) (wd : D), d = ruleD ps wd ∧ ps.length ≤ 60 ∧ (∀ p ∈ ps, okD false p.1 = true) ∧ (ys.all (wayFits ps) = true → Q .non (W.put b (.dct (put ws (.inr x) (.tup (ys.map wayD)))))) ∧ (ys.all (wayFits ps) = false → E ⟨B, []⟩ W))
theorem ok_bkSet (Z : Mz K (clsA mg "Book") "__setitem__" "Book.__setitem__" s_Book___setitem__ P_Book___setitem__ []) (T : Txt K mg) (R_UnknownSign : RaiseT P w K mg base "UnknownSign" ["sign"] false) (G_way_fits : Fx P w K mg base (L2.CX P w) "way_fits" 3 P_way_fits (lift K F_wayFits)) : Ox P w K mg base (clsA mg "Book") "__setitem__" 5 P_Book___setitem__ (lift K (F_bkSet (clsA mg "Book") (clsA mg "Table") (clsA mg "UnknownSign") (clsA mg "BadWay") false)) := by
  refine Z.okOD T.s_Book sc_Book___setitem__ (fun ds W Q E h => by obtain ⟨a, t, b, r, st, v, ks, ws, x, ys, rfl, _⟩ := h; rfl) ?_
  intro f cdv A outer s H E e ds Qd Ed hr lk h
  obtain ⟨a, t, b, r, st, v, ks, ws, x, ys, rfl, hs, ht, hx, hwl, hyl, hy, hv, ke, kq⟩ := h
  refine ⟨_, _, (pss_cons (ps_if (pt_cmpR (op_notInU K (hu65_of hr)) (pv 1) (fldX T.f_Table_rules (fldX T.f_Book_table (pv 0))) (by rfl)) (pss_one (ps_raiseF rfl (takes_of rfl rfl rfl rfl) (pmkS R_UnknownSign (hr.mono (by first | decide | omega)) (by decide) (by rfl) (pa_cons (pv 1) pa_nil)))) pss_nil)
      (pss_cons (ps_for (passes_of rfl) rfl (pi_any K (pv 2)) (pg_name (i := 3) sc_Book___setitem__.nd rfl (Or.inl rfl)) (pss_one (ps_if (pt_not (pt_val (fcallX (takes_of rfl rfl rfl rfl) G_way_fits (hr.mono (by first | decide | omega)) (by rfl) (pa_cons (pe_ix (ix_U K (hu_of hr)) (fldX T.f_Table_rules (fldX T.f_Book_table (pv 0))) (pv 1) (fun _ _ => rfl)) (pa_cons (pv 3) pa_nil))))) (pss_one (ps_raiseU rfl (takes_of rfl rfl rfl rfl) (pmk_own PySem.F.excBase_ValueError T.e_BadWay.ex T.e_BadWay.g T.e_BadWay.k (raises_own T.e_BadWay.b T.e_BadWay.t) rfl))) pss_nil)))
      (pss_one (ps_dput (hu_of hr) (fldX T.f_Book_ways (pv 0)) (pv 1) (pe_callTy (call_tuple_ofK K) (by rfl) T.b_tuple (by decide +kernel) (pa_cons (pv 2) pa_nil)) rfl)))), inferInstance, ?_⟩
  have vo : vD e.W (.ref a) = some (.obj (clsA mg "Book") (bkC t b)) := vD_ins hs.o
  have vt : vD e.W (.ref t) = some (.obj (clsA mg "Table") (tbC st r)) := vD_ins ht.o
  have vk : vD e.W (.ref r) = some (.dct ks) := vD_dct ht.k
  unfold bkC at vo
  unfold tbC at vt
  walk_at "d"
  refine dd1B_at vo ?_
  walk_at "d"
  refine dd1B_at vt ?_
  walk_at "d"
  refine dd1B_at vk ?_
  walk_at "d"
  cases hl : look ks (.inr x) with
  | none =>
    walk_at "d"
    exact ⟨fun z => (by cases z), ke hl⟩
  | some d =>
    obtain ⟨ps, wd, rfl, hpl, hpo, kt, kf⟩ := kq d hl
    walk_at "d"
    have hv : v = .lst (ys.map wayD) ∨ v = .tup (ys.map wayD) := hv
    rcases hv with rfl | rfl
    all_goals
      walk_at "d"
      refine for_map wayD ys (fun i S => ∃ v3, S = ⟨[some (.val (.ref a)), some (.val (.str x)), some (.val _), v3], e.W⟩ ∧ (ys.take i).all (wayFits ps) = true) ⟨_, rfl, rfl⟩ ?_ ?_
      · rintro i y S hy' ⟨v3, rfl, ha⟩
        have hym := List.mem_of_getElem? hy'
        walk_at "d"
        refine dd1B_at vo ?_
        walk_at "d"
        refine dd1B_at vt ?_
        walk_at "d"
        refine dd1B_at vk ?_
        walk_at "d"
        rw [hl]
        walk_at "d"
        refine ⟨ps, wd, y, rfl, (hy y hym).1, (hy y hym).2, hpl, hpo, ?_⟩
        cases hw : wayFits ps y with
        | false =>
          walk_at "d"
          refine kf ?_
          rw [← Bool.not_eq_true, List.all_eq_true]
          exact fun h => by rw [h y hym] at hw; cases hw
        | true =>
          walk_at "d"
          exact ⟨_, rfl, by rw [take_succ_get hy', List.all_append, ha, List.all_cons, List.all_nil, hw]; rfl⟩
      · rintro S ⟨v3, rfl, ha⟩
        rw [List.take_length] at ha
        walk_at "d"
        refine dd1B_at vo ?_
        walk_at "d"
        refine mutDB_at hs.k ?_
        walk_at "d"
        exact ⟨by omega, kt ha⟩
abbrev RowR := Str × List (D × D) × D
def rowR (p : RowR) : D := .tup [.str p.1, ruleD p.2.1 p.2.2]
def ksR (rs : List RowR) : List (Key × D) := rs.map fun p => (Sum.inr p.1, ruleD p.2.1 p.2.2)
structure RowsR (ss : List (Str × Str)) (m : Nat) (rs : List RowR) : Prop where
  nd : (rs.map (·.1)).Nodup
  wd : ∀ p ∈ rs, isWord p.1 = true
  gr : ∀ p ∈ rs, GR p.2.1 p.2.2 ∧ FR ss p.2.1 p.2.2 ∧ p.2.1.length ≤ m
  len : rs.length ≤ 8
theorem look_ksR_none {x : Str} : ∀ {rs : List RowR}, x ∉ rs.map (·.1) → look (ksR rs) (.inr x) = none
  | [], _ => rfl
  | p :: l, h => by
    rw [List.map_cons, List.mem_cons, not_or] at h
    show (if (Sum.inr p.1 : Key) = Sum.inr x then _ else look (ksR l) (.inr x)) = none
    rw [if_neg (fun z => h.1 (Sum.inr.inj z).symm), look_ksR_none h.2]
theorem look_ksR {p : RowR} : ∀ {rs : List RowR}, (rs.map (·.1)).Nodup → p ∈ rs → look (ksR rs) (.inr p.1) = some (ruleD p.2.1 p.2.2)
  | q :: l, hn, h => by
    rw [List.map_cons, List.nodup_cons] at hn
    show (if (Sum.inr q.1 : Key) = Sum.inr p.1 then some (ruleD q.2.1 q.2.2) else look (ksR l) (.inr p.1)) = _
    rcases List.mem_cons.mp h with rfl | h
    · rw [if_pos rfl]
    · rw [if_neg (fun z => hn.1 (List.mem_map.mpr ⟨p, h, (Sum.inr.inj z).symm⟩)), look_ksR hn.2 h]
theorem keys_ksR (rs : List RowR) : ((ksR rs).map fun p => keyV p.1) = rs.map fun p => D.str p.1 := by
  unfold ksR
  rw [List.map_map]; rfl
theorem fst_take {α β : Type} {rs : List (α × β)} {i : Nat} {p : α × β} (h : rs[i]? = some p) (hn : (rs.map (·.1)).Nodup) : p.1 ∉ (rs.take i).map (·.1) := fun z => by
  obtain ⟨hi, e⟩ := List.getElem?_eq_some_iff.mp h
  rw [List.map_take] at z
  obtain ⟨j, hj, e'⟩ := List.mem_iff_getElem.mp z
  rw [List.length_take, List.length_map] at hj
  rw [List.getElem_take] at e'
  have := List.pairwise_iff_getElem.mp hn j i (by simp; omega) (by simp; omega) (by omega)
  rw [List.getElem_map, List.getElem_map] at this
  rw [List.getElem_map] at e'
  exact this (by rw [e', e])
theorem word_len {x : Str} (h : isWord x = true) : x.length ≤ 12 := by
  unfold isWord at h
  rw [Bool.and_eq_true, Bool.and_eq_true] at h
  exact of_decide_eq_true h.1.2
abbrev s__law_table : Stmt := top 72
abbrev N__law_table : List Str := ["_law_shapes", "_law_under", "_law_rules", "_law_table_here", "_law_row"]
abbrev P__law_table : List Str := ["_law_shapes", "_law_under", "_law_rules"]
theorem sc__law_table : FnScope N__law_table P__law_table (defScope s__law_table) := ⟨rfl, rfl, rfl, by decide +kernel, rfl, by decide +kernel, by decide +kernel⟩
def F_table (C CS : Addr) : FSpec := fun ds W Q _ => ∃ (ss us : List (Str × Str)) (f s : Str) (m : Nat) (rs : List RowR), ds = [.dct (dkS ss), .dct (dkS us), .lst (rs.map rowR)] ∧ Law3 ss us f s ∧ RowsR ss m rs ∧ ∀ t r, W.ω t = none → W.ω r = none → r ≠ t → Q (.ref t) ((W.put r (.dct (ksR rs))).put t (.ins C (tbC (.obj CS (stkC ss us)) r)))
theorem ok__law_table (F : Fz K mg "_law_table" s__law_table P__law_table) (T : Txt K mg) (K_Stock2 : Kx P w K mg base (clsA mg "Stock") 4 P_Stock___init__ [] (lift K (F_mkStock (clsA mg "Stock") (clsA mg "BadKind")))) (K_Table1 : Kx P w K mg base (clsA mg "Table") 1 P_Table___init__ [] (lift K (F_tbNew (clsA mg "Table")))) (O_Table_set : Ox P w K mg base (clsA mg "Table") "__setitem__" 10 P_Table___setitem__ (lift K (F_tbSet (clsA mg "Table") (clsA mg "Stock") (clsA mg "BadRule") 6))) : Fx P w K mg base (L2.CX P w) "_law_table" 12 P__law_table (lift K (F_table (clsA mg "Table") (clsA mg "Stock"))) := by
  refine F.okD sc__law_table (fun ds W Q E h => ?_) (fun f cdv A outer s H E e ds Qd Ed hr lk h => ?_)
  · obtain ⟨ss, us, f, s, m, rs, rfl, _⟩ := h
    rfl
  · obtain ⟨ss, us, f1, f2, m, rs, rfl, L3, hrs, k⟩ := h
    refine ⟨_, _, (pss_cons (ps_set (i := 3) sc__law_table.nd rfl (Or.inl rfl) (makeX (takes_of rfl rfl rfl rfl) K_Table1 (hr.mono (by first | decide | omega)) (by rfl) T.g_Table (pa_cons (mkF_of (makeX (takes_of rfl rfl rfl rfl) K_Stock2 (hr.mono (by first | decide | omega)) (by rfl) T.g_Stock (pa_cons (pe_callTy (call_dictU K rfl) (by rfl) T.b_dict (by decide +kernel) (pa_cons (pv 0) pa_nil)) (pa_cons (pe_callTy (call_dictU K rfl) (by rfl) T.b_dict (by decide +kernel) (pa_cons (pv 1) pa_nil)) pa_nil)))) pa_nil)))
      (pss_cons (ps_for (passes_of rfl) rfl (pi_any K (pv 2)) (pg_name (i := 4) sc__law_table.nd rfl (Or.inl rfl)) (pss_one (osetX (takes_of rfl rfl rfl rfl) O_Table_set (hr.mono (by first | decide | omega)) (pv 3) (pe_ix (ix_U K (hu_of hr)) (pv 4) pe_int (fun _ _ => rfl)) (pe_ix (ix_U K (hu_of hr)) (pv 4) pe_int (fun _ _ => rfl)))))
      (pss_one (ps_ret (pv 3))))), inferInstance, ?_⟩
    have hsh := L3.shp
    have hlen := L3.len
    have hb : ∀ p ∈ ss, p.1.length ≤ 1000 ∧ p.2.length ≤ 1000 := fun p hp => by
      have h1 := (L3.word p hp).2.1
      have h2 := hsh.small p hp
      omega
    have hul := L3.ulen
    have hL := L3.sound
    walk_at "d"
    intro a3 ha3 _
    refine ⟨a3, _, .dct (dkS ss), .dct (dkS us), ss, us, rfl, rfl, ha3, rfl, .inr rfl, hsh.nd, L3.und, by omega, by omega, hb, fun _ => ?_, fun z => by rw [hL] at z; cases z⟩
    walk_at "d"
    rw [Wd.del_put ha3]
    intro t ht _
    refine ⟨t, _, _, _, rfl, rfl, ht, fun r hr n => ?_⟩
    walk_at "d"
    refine for_map rowR rs (fun i S => ∃ v4, S = ⟨[some (.val (.dct (dkS ss))), some (.val (.dct (dkS us))), some (.val (.lst (rs.map rowR))), some (.val (.ref t)), v4], (e.W.put r (.dct (ksR (rs.take i)))).put t (.ins (clsA mg "Table") (tbC (.obj (clsA mg "Stock") (stkC ss us)) r))⟩) ⟨_, rfl⟩ ?_ ?_
    · rintro i p S hp ⟨v4, rfl⟩
      have hpm := List.mem_of_getElem? hp
      have hil : i < rs.length := (List.getElem?_eq_some_iff.mp hp).1
      obtain ⟨g1, g2, _⟩ := hrs.gr p hpm
      have hw := hrs.wd p hpm
      have nx := fst_take hp hrs.nd
      have l8 := hrs.len
      have lr : (ksR (rs.take i)).length = i := by simp [ksR]; omega
      have oka : okAdd ss (ksR (rs.take i)) p.1 p.2.1 p.2.2 = true := by
        rw [okAdd, hw, look_ksR_none nx, lr, decide_eq_true (show i < 8 by omega), g2.rul]; rfl
      have ep : put (ksR (rs.take i)) (.inr p.1) (ruleD p.2.1 p.2.2) = ksR (rs.take (i + 1)) := by
        rw [put_none (look_ksR_none nx), take_succ_get hp]
        simp [ksR]
      unfold rowR
      walk_at "d"
      refine ⟨t, r, ss, us, _, p.1, p.2.1, p.2.2, rfl, ⟨Wd.put_same, (Wd.put_ne n).trans Wd.put_same⟩, fun p hp => (hb p hp).2, by have := word_len hw; omega, g1.rule, by omega, fun _ => ?_, fun z => by rw [oka] at z; cases z⟩
      rw [ep]
      dsimp only
      rw [put_comm n, put_put, put_comm (Ne.symm n)]
      try walk_at "d"
      exact ⟨_, rfl⟩
    · rintro S ⟨v4, rfl⟩
      rw [List.take_length]
      walk_at "d"
      exact k t r ht hr n
theorem strs_ok {α : Type} {f : α → Str} : ∀ {xs : List α}, (∀ x ∈ xs, PyData.strOk (f x) = true) → okL false (xs.map fun x => D.str (f x)) = true
  | [], _ => by rw [List.map_nil, okL]
  | x :: xs, h => by
    rw [List.map_cons, okL, okD, h x List.mem_cons_self, strs_ok fun y hy => h y (List.mem_cons_of_mem _ hy)]; rfl
theorem strs_dp {α : Type} {f : α → Str} : ∀ {xs : List α}, dpL (xs.map fun x => D.str (f x)) = 0
  | [] => by rw [List.map_nil, dpL]
  | x :: xs => by
    have h : dpD (D.str (f x)) = 0 := by simp [dpD]
    rw [List.map_cons, dpL, h, strs_dp]; rfl
theorem isDir_ok {x : Str} (h : isDir x = true) : PyData.strOk x = true := by
  rcases of_decide_eq_true h with rfl | rfl
  · decide +kernel
  · decide +kernel
theorem stp_ok : ∀ {st : List (Int × Str)}, (∀ p ∈ st, isDir p.2 = true) → okL false (st.map stpD) = true
  | [], _ => by rw [List.map_nil, okL]
  | p :: st, h => by
    rw [List.map_cons, okL, stp_ok fun q hq => h q (List.mem_cons_of_mem _ hq), stpD, okD, okL, okL, okL, okD, okD, isDir_ok (h p List.mem_cons_self)]; rfl
theorem WayOf.ok {ps : List (D × D)} {y : Wy} (h : WayOf ps y) : okD false (wayD y) = true := by
  rw [wayD, okD, okL, okL, okL, okL, okD, okD, okD, isDir_ok h.wh, stp_ok h.md, ints_ok]; rfl
theorem eq_refl_ok {d : D} (h : okD false d = true) (h2 : dpD d ≤ 60) : eqOk d d := .inr ⟨false, h, h, by omega, by omega⟩
theorem put_any {ks : List (Key × D)} {k : Key} {d : D} : look (put ks k d) k = some d := by
  unfold put
  by_cases c : (ks.any fun p => decide (p.1 = k)) = true
  · rw [if_pos c]
    induction ks with
    | nil => cases c
    | cons p l ih =>
      rw [List.map_cons]
      by_cases z : p.1 = k
      · rw [if_pos z, look, if_pos z]
      · rw [if_neg z, look, if_neg z]
        rw [List.any_cons, decide_eq_false z, Bool.false_or] at c
        exact ih c
  · rw [if_neg c]
    induction ks with
    | nil => rw [List.nil_append, look, if_pos rfl]
    | cons p l ih =>
      rw [List.any_cons, Bool.or_eq_true, not_or] at c
      rw [List.cons_append, look, if_neg (fun z => c.1 (decide_eq_true z))]
      exact ih c.2
theorem ways_of {ps : List (D × D)} : ∀ {is : List Nat} {as : List D}, All2 (fun _ d => ∃ y, d = wayD y ∧ WayOf ps y) is as → ∃ ys : List Wy, as = ys.map wayD ∧ ∀ y ∈ ys, WayOf ps y
  | _, _, .nil => ⟨[], rfl, by simp⟩
  | _, _, .cons h t => by
    obtain ⟨y, rfl, hy⟩ := h
    obtain ⟨ys, e1, e3⟩ := ways_of t
    refine ⟨y :: ys, by rw [e1]; rfl, fun p hp => ?_⟩
    rcases List.mem_cons.mp hp with rfl | hp
    · exact hy
    · exact e3 p hp
abbrev RowW := Str × List Wy
def ksW (zs : List RowW) : List (Key × D) := zs.map fun p => (Sum.inr p.1, .tup (p.2.map wayD))
def gW : List RowW → Str → List Wy
  | [], _ => []
  | q :: l, x => if q.1 = x then q.2 else gW l x
def setW (zs : List RowW) (x : Str) (ys : List Wy) : List RowW := zs.map fun p => if p.1 = x then (p.1, ys) else p
theorem setW_fst {zs : List RowW} {x : Str} {ys : List Wy} : (setW zs x ys).map (·.1) = zs.map (·.1) := by
  unfold setW
  rw [List.map_map]
  refine List.map_congr_left fun p _ => ?_
  show (if p.1 = x then (p.1, ys) else p).1 = p.1
  split <;> rfl
theorem look_gW {x : Str} : ∀ {zs : List RowW}, x ∈ zs.map (·.1) → look (ksW zs) (.inr x) = some (.tup ((gW zs x).map wayD))
  | q :: l, h => by
    show (if (Sum.inr q.1 : Key) = Sum.inr x then some (D.tup (q.2.map wayD)) else look (ksW l) (.inr x)) = _
    by_cases c : q.1 = x
    · rw [if_pos (by rw [c]), gW, if_pos c]
    · rw [if_neg (fun z => c (Sum.inr.inj z)), gW, if_neg c]
      rw [List.map_cons, List.mem_cons] at h
      exact look_gW (h.resolve_left fun z => c z.symm)
theorem any_key {α : Type} {x : Str} {f : α → Str} {h : α → D} : ∀ {zs : List α}, x ∈ zs.map f → ((zs.map fun p => ((Sum.inr (f p) : Key), h p)).any fun p => decide (p.1 = Sum.inr x)) = true := fun {zs} hx => by
  rw [List.any_eq_true]
  obtain ⟨p, hp, rfl⟩ := List.mem_map.mp hx
  exact ⟨_, List.mem_map.mpr ⟨p, hp, rfl⟩, decide_eq_true rfl⟩
theorem gW_at : ∀ {zs : List RowW} {k : Nat} {q : RowW}, (zs.map (·.1)).Nodup → zs[k]? = some q → gW zs q.1 = q.2
  | p :: l, 0, q, _, h => by
    cases h
    rw [gW, if_pos rfl]
  | p :: l, k + 1, q, hn, h => by
    rw [List.map_cons, List.nodup_cons] at hn
    have h : l[k]? = some q := by simpa using h
    rw [gW, if_neg (fun z => hn.1 (List.mem_map.mpr ⟨q, List.mem_of_getElem? h, z.symm⟩)), gW_at hn.2 h]
theorem gW_set {x y : Str} {ys : List Wy} : ∀ {zs : List RowW}, y ∈ zs.map (·.1) → gW (setW zs x ys) y = if y = x then ys else gW zs y
  | q :: l, h => by
    show gW ((if q.1 = x then (q.1, ys) else q) :: setW l x ys) y = _
    rw [List.map_cons, List.mem_cons] at h
    by_cases c : q.1 = x
    · rw [if_pos c, gW]
      dsimp only
      by_cases d : q.1 = y
      · rw [if_pos d, if_pos (d.symm.trans c)]
      · rw [if_neg d, gW, if_neg d]
        exact gW_set (h.resolve_left fun z => d z.symm)
    · rw [if_neg c, gW]
      by_cases d : q.1 = y
      · rw [if_pos d, if_neg (fun z => c (d.trans z)), gW, if_pos d]
      · rw [if_neg d, gW, if_neg d]
        exact gW_set (h.resolve_left fun z => d z.symm)
structure GdW (rs : List RowR) (zs : List RowW) : Prop where
  dom : ∀ p ∈ rs, p.1 ∈ zs.map (·.1)
  ne : ∀ p ∈ rs, gW zs p.1 ≠ []
  of : ∀ p ∈ rs, ∀ y ∈ gW zs p.1, WayOf p.2.1 y
  ln : ∀ p ∈ rs, (gW zs p.1).length ≤ 1000
structure GdA (m : Nat) (rs : List RowR) (i : Nat) (zs : List RowW) : Prop where
  fst : zs.map (·.1) = (rs.take i).map (·.1)
  at_ : ∀ (j : Nat) p z, rs[j]? = some p → zs[j]? = some z → z.2 ≠ [] ∧ z.2.length ≤ m ∧ ∀ y ∈ z.2, WayOf p.2.1 y
theorem GdA.nil {m : Nat} {rs : List RowR} : GdA m rs 0 [] := ⟨rfl, fun j p z _ h => by simp at h⟩
theorem GdA.len {m : Nat} {rs : List RowR} {i : Nat} {zs : List RowW} (h : GdA m rs i zs) : zs.length = min i rs.length := by
  have := congrArg List.length h.fst
  simpa using this
theorem GdA.snoc {m : Nat} {rs : List RowR} {i : Nat} {zs : List RowW} {p : RowR} {ys : List Wy} (h : GdA m rs i zs) (hp : rs[i]? = some p) (h0 : ys ≠ []) (hm : ys.length ≤ m) (hy : ∀ y ∈ ys, WayOf p.2.1 y) : GdA m rs (i + 1) (zs ++ [(p.1, ys)]) := by
  have hi := (List.getElem?_eq_some_iff.mp hp).1
  have hl := h.len
  refine ⟨by rw [take_succ_get hp, List.map_append, List.map_append, h.fst]; rfl, fun j q z hq hz => ?_⟩
  rw [List.getElem?_append] at hz
  split at hz
  · exact h.at_ j q z hq hz
  · rename_i c
    have hj : j - zs.length = 0 := by
      have := (List.getElem?_eq_some_iff.mp hz).1
      simp at this; omega
    rw [hj] at hz
    cases hz
    have : j = i := by omega
    subst this
    rw [hp] at hq
    cases hq
    exact ⟨h0, hm, hy⟩
theorem GdA.all {m : Nat} {rs : List RowR} {zs : List RowW} (h : GdA m rs rs.length zs) (hn : (rs.map (·.1)).Nodup) (hm : m ≤ 1000 := by decide) : GdW rs zs := by
  have e := h.fst
  rw [List.take_length] at e
  have key : ∀ p ∈ rs, ∃ z : RowW, z.1 = p.1 ∧ gW zs p.1 = z.2 ∧ z.2 ≠ [] ∧ (∀ y ∈ z.2, WayOf p.2.1 y) ∧ z.2.length ≤ m := fun p hp => by
    obtain ⟨j, hj, ej⟩ := List.mem_iff_getElem.mp hp
    have hl := h.len
    have ez : zs[j]? = some zs[j] := List.getElem?_eq_getElem (by omega)
    have e1 : (zs[j]).1 = p.1 := by
      have : (zs.map (·.1))[j]? = (rs.map (·.1))[j]? := by rw [e]
      rw [List.getElem?_map, List.getElem?_map, ez, List.getElem?_eq_getElem hj, ej] at this
      exact Option.some.inj this
    obtain ⟨a, ln, b⟩ := h.at_ j p _ (by rw [List.getElem?_eq_getElem hj, ej]) ez
    exact ⟨_, e1, by rw [← e1]; exact gW_at (by rw [e]; exact hn) ez, a, b, ln⟩
  refine ⟨fun p hp => by rw [e]; exact List.mem_map.mpr ⟨p, hp, rfl⟩, fun p hp => ?_, fun p hp => ?_, fun p hp => ?_⟩
  · obtain ⟨z, _, e2, e3, _⟩ := key p hp
    rw [e2]; exact e3
  · obtain ⟨z, _, e2, _, e3, _⟩ := key p hp
    rw [e2]; exact e3
  · obtain ⟨z, _, e2, _, _, e3⟩ := key p hp
    rw [e2]; omega
theorem GdW.set {rs : List RowR} {zs : List RowW} {x : Str} {ys : List Wy} (h : GdW rs zs) (h0 : ys ≠ []) (hl : ys.length ≤ 1000) (hy : ∀ p ∈ rs, p.1 = x → ∀ y ∈ ys, WayOf p.2.1 y) : GdW rs (setW zs x ys) := by
  refine ⟨fun p hp => by rw [setW_fst]; exact h.dom p hp, fun p hp => ?_, fun p hp => ?_, fun p hp => ?_⟩
  · rw [gW_set (h.dom p hp)]
    split
    · exact h0
    · exact h.ne p hp
  · rw [gW_set (h.dom p hp)]
    split
    · rename_i c; exact hy p hp c
    · exact h.of p hp
  · rw [gW_set (h.dom p hp)]
    split
    · exact hl
    · exact h.ln p hp
theorem cell_ne {a b C : Addr} {W : Wd} {fs : List (Str × D)} {ks : List (Key × D)} (h1 : W.ω a = some (.ins C fs)) (h2 : W.ω b = some (.dct ks)) : a ≠ b := fun z => by rw [z, h2] at h1; cases h1
def updN {α : Type} (f : Nat → α) (k : Nat) (z : α) : Nat → α := fun i => if i = k then z else f i
structure Wn (CT CB : Addr) (st : D) (W : Wd) (N M : Nat) (t r : Addr) (ks : List (Key × D)) (A B C : Nat → Addr) (zb zc : Nat → List (Key × D)) : Prop where
  tb : TbAt CT W t r st ks
  bk : ∀ i, i < N → BkAt CB W (A i) t (B i) (zb i)
  lw : ∀ i, i < M → W.ω (C i) = some (.dct (zc i))
  br : ∀ i, i < N → B i ≠ r
  cr : ∀ i, i < M → C i ≠ r
  bc : ∀ i j, i < N → j < M → B i ≠ C j
  bb : ∀ i j, i < N → j < N → i ≠ j → B i ≠ B j
  cc : ∀ i j, i < M → j < M → i ≠ j → C i ≠ C j
section
variable {CT CB : Addr} {st : D} {W : Wd} {N M : Nat} {t r : Addr} {ks : List (Key × D)} {A B C : Nat → Addr} {zb zc : Nat → List (Key × D)}
theorem Wn.tape (h : Wn CT CB st W N M t r ks A B C zb zc) (Tp : Addr → Prop) : Wn CT CB st ⟨Tp, W.ω⟩ N M t r ks A B C zb zc := ⟨⟨h.tb.o, h.tb.k⟩, fun i hi => ⟨(h.bk i hi).o, (h.bk i hi).k⟩, h.lw, h.br, h.cr, h.bc, h.bb, h.cc⟩
theorem Wn.new (h : Wn CT CB st W N M t r ks A B C zb zc) {c : Addr} {x : Cell} (hc : W.ω c = none) : Wn CT CB st (W.put c x) N M t r ks A B C zb zc := by
  have f : ∀ {d : Addr} {y : Cell}, W.ω d = some y → (W.put c x).ω d = some y := fun {d y} hd => (Wd.put_ne (fun z => by rw [z, hc] at hd; cases hd)).trans hd
  exact ⟨⟨f h.tb.o, f h.tb.k⟩, fun i hi => ⟨f (h.bk i hi).o, f (h.bk i hi).k⟩, fun i hi => f (h.lw i hi), h.br, h.cr, h.bc, h.bb, h.cc⟩
theorem Wn.start (h : TbAt CT W t r st ks) : Wn CT CB st W 0 0 t r ks A B C zb zc := ⟨h, fun i hi => by omega, fun i hi => by omega, fun i hi => by omega, fun i hi => by omega, fun i j hi => by omega, fun i j hi => by omega, fun i j hi => by omega⟩
theorem updN_lt {α : Type} {f : Nat → α} {k i : Nat} {z : α} (h : i < k) : updN f k z i = f i := if_neg (by omega)
theorem updN_same {α : Type} {f : Nat → α} {k : Nat} {z : α} : updN f k z k = z := if_pos rfl
theorem Wn.book (h : Wn CT CB st W N M t r ks A B C zb zc) {a b : Addr} (ha : W.ω a = none) (hb : W.ω b = none) (n : b ≠ a) : Wn CT CB st ((W.put b (.dct [])).put a (.ins CB (bkC t b))) (N + 1) M t r ks (updN A N a) (updN B N b) C (updN zb N []) zc := by
  have ne : ∀ {y : Addr} {c : Cell}, W.ω y = some c → b ≠ y := fun h z => by rw [z, h] at hb; cases hb
  have h2 := (h.new (x := .dct []) hb).new (x := .ins CB (bkC t b)) ((Wd.put_ne (Ne.symm n)).trans ha)
  have kb : ∀ i, i < N → b ≠ B i := fun i hi => ne (h.bk i hi).k
  have cases_ : ∀ {i}, i < N + 1 → i < N ∨ i = N := fun hi => by omega
  refine ⟨h2.tb, fun i hi => ?_, h2.lw, fun i hi => ?_, h2.cr, fun i j hi hj => ?_, fun i j hi hj hij => ?_, h2.cc⟩
  · rcases cases_ hi with c | rfl
    · rw [updN_lt c, updN_lt c, updN_lt c]; exact h2.bk i c
    · rw [updN_same, updN_same, updN_same]; exact ⟨Wd.put_same, (Wd.put_ne n).trans Wd.put_same⟩
  · rcases cases_ hi with c | rfl
    · rw [updN_lt c]; exact h.br i c
    · rw [updN_same]; exact ne h.tb.k
  · rcases cases_ hi with c | rfl
    · rw [updN_lt c]; exact h.bc i j c hj
    · rw [updN_same]; exact ne (h.lw j hj)
  · rcases cases_ hi with c | rfl
    · rcases cases_ hj with d | rfl
      · rw [updN_lt c, updN_lt d]; exact h.bb i j c d hij
      · rw [updN_lt c, updN_same]; exact Ne.symm (kb i c)
    · rcases cases_ hj with d | rfl
      · rw [updN_lt d, updN_same]; exact kb j d
      · exact absurd rfl hij
theorem Wn.dict (h : Wn CT CB st W N M t r ks A B C zb zc) {b : Addr} (hb : W.ω b = none) (z : List (Key × D)) : Wn CT CB st (W.put b (.dct z)) N (M + 1) t r ks A B (updN C M b) zb (updN zc M z) := by
  have ne : ∀ {y : Addr} {c : Cell}, W.ω y = some c → b ≠ y := fun h z => by rw [z, h] at hb; cases hb
  have h2 := h.new (x := .dct z) hb
  have cases_ : ∀ {i}, i < M + 1 → i < M ∨ i = M := fun hi => by omega
  refine ⟨h2.tb, h2.bk, fun i hi => ?_, h2.br, fun i hi => ?_, fun i j hi hj => ?_, h2.bb, fun i j hi hj hij => ?_⟩
  · rcases cases_ hi with c | rfl
    · rw [updN_lt c, updN_lt c]; exact h2.lw i c
    · rw [updN_same, updN_same]; exact Wd.put_same
  · rcases cases_ hi with c | rfl
    · rw [updN_lt c]; exact h.cr i c
    · rw [updN_same]; exact ne h.tb.k
  · rcases cases_ hj with c | rfl
    · rw [updN_lt c]; exact h.bc i j hi c
    · rw [updN_same]; exact Ne.symm (ne (h.bk i hi).k)
  · rcases cases_ hi with c | rfl
    · rcases cases_ hj with d | rfl
      · rw [updN_lt c, updN_lt d]; exact h.cc i j c d hij
      · rw [updN_lt c, updN_same]; exact Ne.symm (ne (h.lw i c))
    · rcases cases_ hj with d | rfl
      · rw [updN_lt d, updN_same]; exact ne (h.lw j d)
      · exact absurd rfl hij
end
def blk (t : D × D × D) : D := .tup [t.1, t.2.1, t.2.2]
def notedD : D → Bool
  | .tup [.str x, _, _] => decide (x = Str.ofString ":")
  | _ => false
structure KindOk (ss : List (Str × Str)) (kd : D) : Prop where
  k : isKindD ss kd = true
  f : fitD kd = true
  d : dpD kd < 6
  n : kd ≠ .non
def BlkG (Nm : Str → Prop) (Kp : D → Prop) (q : D × D) (t : D × D × D) : Prop := (q.1 = .non ∧ t.1 = .non ∧ t.2.1 = .non) ∨ (q.1 ≠ .non ∧ (∃ x, t.1 = .str x ∧ Nm x) ∧ (t.2.1 = .non ∨ Kp t.2.1))
def PartG (Nm : Str → Prop) (Kp : D → Prop) (rs : List RowR) : Nat → D → Prop
  | 0, _ => False
  | n + 1, d => (∃ x, d = .str x ∧ Nm x) ∨ (∃ (p : RowR) (ts : List (D × D × D)), p ∈ rs ∧ d = .tup (.str p.1 :: ts.map blk) ∧ ts.length = p.2.1.length ∧ (∀ (i : Nat) q t, p.2.1[i]? = some q → ts[i]? = some t → BlkG Nm Kp q t) ∧ ∀ t ∈ ts, PartG Nm Kp rs n t.2.2) ∨ ∃ d' k, d = .tup [.str (Str.ofString ":"), d', k] ∧ PartG Nm Kp rs n d' ∧ notedD d' = false ∧ Kp k
theorem BlkG.imp {Nm Nm' : Str → Prop} {Kp Kp' : D → Prop} (h1 : ∀ x, Nm x → Nm' x) (h2 : ∀ k, Kp k → Kp' k) {q : D × D} {t : D × D × D} : BlkG Nm Kp q t → BlkG Nm' Kp' q t
  | .inl h => .inl h
  | .inr ⟨a, ⟨x, b, c⟩, d⟩ => .inr ⟨a, ⟨x, b, h1 x c⟩, d.imp id (h2 _)⟩
theorem PartG.imp {Nm Nm' : Str → Prop} {Kp Kp' : D → Prop} {rs rs' : List RowR} (h1 : ∀ x, Nm x → Nm' x) (h2 : ∀ k, Kp k → Kp' k) (h3 : ∀ p ∈ rs, p ∈ rs') : ∀ {n m : Nat} {d : D}, PartG Nm Kp rs n d → n ≤ m → PartG Nm' Kp' rs' m d
  | n + 1, m + 1, _, .inl ⟨x, e, h⟩, _ => .inl ⟨x, e, h1 x h⟩
  | n + 1, m + 1, _, .inr (.inl ⟨p, ts, hp, e, hl, hb, ht⟩), h => .inr (.inl ⟨p, ts, h3 p hp, e, hl, fun i q t a b => (hb i q t a b).imp h1 h2, fun t h4 => (ht t h4).imp h1 h2 h3 (by omega)⟩)
  | n + 1, m + 1, _, .inr (.inr ⟨d', k, e, hp, hn, hk⟩), h => .inr (.inr ⟨d', k, e, hp.imp h1 h2 h3 (by omega), hn, h2 k hk⟩)
  | n + 1, 0, _, _, h => by omega
abbrev BlkP (ss : List (Str × Str)) := BlkG (fun x => isWord x = true) (KindOk ss)
abbrev PartP (ss : List (Str × Str)) (rs : List RowR) := PartG (fun x => isWord x = true) (KindOk ss) rs
theorem word_colon {x : Str} (h : isWord x = true) : x ≠ Str.ofString ":" := fun e => by
  rw [e] at h
  exact absurd h (by decide +kernel)
theorem node_noted {x : Str} {ts : List (D × D × D)} (h : isWord x = true) : notedD (.tup (.str x :: ts.map blk)) = false := by
  match ts with
  | [] => rfl
  | [a] => rfl
  | [a, b] => exact decide_eq_false (word_colon h)
  | a :: b :: c :: r => rfl
def HdS (d : D) : Prop := (∃ x, d = .str x) ∨ ∃ x bs, d = .tup (.str x :: bs)
theorem PartG.hd {Nm : Str → Prop} {Kp : D → Prop} {rs : List RowR} : ∀ {n : Nat} {d : D}, PartG Nm Kp rs n d → HdS d
  | _ + 1, _, .inl ⟨x, e, _⟩ => .inl ⟨x, e⟩
  | _ + 1, _, .inr (.inl ⟨p, ts, _, e, _⟩) => .inr ⟨_, _, e⟩
  | _ + 1, _, .inr (.inr ⟨d', k, e, _⟩) => .inr ⟨_, _, e⟩
abbrev s_is_noted : Stmt := top 39
abbrev N_is_noted : List Str := ["part"]
abbrev P_is_noted : List Str := ["part"]
theorem sc_is_noted : FnScope N_is_noted P_is_noted (defScope s_is_noted) := ⟨rfl, rfl, rfl, by decide +kernel, rfl, by decide +kernel, by decide +kernel⟩
def F_is_noted : FSpec := fun ds W Q _ => ∃ d : D, ds = [d] ∧ HdS d ∧ Q (.bl (notedD d)) W
theorem ok_is_noted (F : Fz K mg "is_noted" s_is_noted P_is_noted) (T : Txt K mg) : Fx P w K mg base (L2.CX P w) "is_noted" 1 P_is_noted (lift K F_is_noted) := by
  refine F.okD sc_is_noted (fun ds W Q E h => ?_) (fun f cdv A outer s H E e ds Qd Ed hr lk h => ?_)
  · obtain ⟨d, rfl, _⟩ := h
    rfl
  · obtain ⟨d, rfl, hd, k⟩ := h
    refine ⟨_, _, (pss_one (ps_ret (pe_and (pe_callB (call_isi1K K) (by rfl) T.b_isinstance (by decide +kernel) (pa_cons (pv 0) (pa_cons (pe_bltn (v := .ty "tuple") (by rfl) T.b_tuple (by decide +kernel) rfl) pa_nil))) (pe_and (pe_cmpR (op_eqU K hr.units) (pe_callB (call_lenU K) (by rfl) T.b_len PySem.boot_len (pa_cons (pv 0) pa_nil)) pe_int (nomark _)) (pe_one (pe_cmpR (op_eqU K hr.units) (pe_ix (ix_U K (hu_of hr)) (pv 0) pe_int (fun _ _ => rfl)) (pglob rfl T.c_NOTE) (nomark _))))))), inferInstance, ?_⟩
    rcases hd with ⟨x, rfl⟩ | ⟨x, bs, rfl⟩
    · walk_at "d"
      exact k
    · have e1 : bs.length ≠ 2 → notedD (.tup (.str x :: bs)) = false := fun h => by
        match bs, h with
        | [], _ => rfl
        | [a], _ => rfl
        | [a, b], h => exact absurd rfl h
        | a :: b :: c :: r, _ => rfl
      have e2 : bs.length = 2 → notedD (.tup (.str x :: bs)) = decide (x = Str.ofString ":") := fun h => by
        match bs, h with
        | [a, b], _ => rfl
      walk_at "d"
      refine iteB_by (fun c => ?_) (fun c => ?_)
      · rw [e2 (by omega)] at k
        walk_at "d"
        exact k
      · rw [e1 (by omega)] at k
        walk_at "d"
        exact k
abbrev s_check_node : Stmt := top 40
abbrev N_check_node : List Str := ["table", "part", "places", "k", "name", "remark", "inner", "block"]
abbrev P_check_node : List Str := ["table", "part"]
theorem sc_check_node : FnScope N_check_node P_check_node (defScope s_check_node) := ⟨rfl, rfl, rfl, by decide +kernel, rfl, by decide +kernel, by decide +kernel⟩
structure TbR (CT CS : Addr) (W : Wd) (t r : Addr) (ss us : List (Str × Str)) (rs : List RowR) : Prop where
  tb : TbAt CT W t r (.obj CS (stkC ss us)) (ksR rs)
  nd : (rs.map (·.1)).Nodup
  wd : ∀ p ∈ rs, isWord p.1 = true ∧ p.2.1.length ≤ 3
  sl : ∀ p ∈ ss, p.2.length ≤ 1000
  ok : ∀ p ∈ rs, ∀ q ∈ p.2.1, okD false q.1 = true
def F_check_node (CT CS : Addr) : FSpec := fun ds W Q _ => ∃ (t r : Addr) (ss us : List (Str × Str)) (rs : List RowR) (p : RowR) (ts : List (D × D × D)), ds = [.ref t, .tup (.str p.1 :: ts.map blk)] ∧ TbR CT CS W t r ss us rs ∧ p ∈ rs ∧ ts.length = p.2.1.length ∧ (∀ (i : Nat) q t, p.2.1[i]? = some q → ts[i]? = some t → BlkP ss q t) ∧ Q .non W
theorem ok_check_node (F : Fz K mg "check_node" s_check_node P_check_node) (T : Txt K mg) (R_UnknownSign : RaiseT P w K mg base "UnknownSign" ["sign"] false) (G_is_word : Fx P w K mg base (L2.CX P w) "is_word" 1 P_is_word (lift K F_is_word)) (G_is_kind : Fx P w K mg base (L2.CX P w) "is_kind" 9 P_is_kind (lift K (F_is_kind (clsA mg "Stock") 6))) : Fx P w K mg base (L2.CX P w) "check_node" 10 P_check_node (lift K (F_check_node (clsA mg "Table") (clsA mg "Stock"))) := by
  refine F.okD sc_check_node (fun ds W Q E h => ?_) (fun f cdv A outer s H E e ds Qd Ed hr lk h => ?_)
  · obtain ⟨t, r, ss, us, rs, p, ts, rfl, _⟩ := h
    rfl
  · obtain ⟨t, r, ss, us, rs, ⟨x, qs, wd⟩, ts, rfl, tb, hpm, htl, hb, k⟩ := h
    refine ⟨_, _, (pss_cons (ps_if (PW.pt (pw_or (pt_not (pt_val (pe_callB (call_isi1K K) (by rfl) T.b_isinstance (by decide +kernel) (pa_cons (pv 1) (pa_cons (pe_bltn (v := .ty "tuple") (by rfl) T.b_tuple (by decide +kernel) rfl) pa_nil))))) (pw_or (pt_cmpR (op_eqU K hr.units) (pe_callB (call_lenU K) (by rfl) T.b_len PySem.boot_len (pa_cons (pv 1) pa_nil)) pe_int (nomark _)) (pw_or (pt_not (pt_val (pe_callB (call_isi1K K) (by rfl) T.b_isinstance (by decide +kernel) (pa_cons (pe_ix (ix_U K (hu_of hr)) (pv 1) pe_int (fun _ _ => rfl)) (pa_cons (pe_bltn (v := .ty "str") (by rfl) T.b_str (by decide +kernel) rfl) pa_nil))))) (pw_or1 (pt_cmpR (op_eqU K hr.units) (pe_ix (ix_U K (hu_of hr)) (pv 1) pe_int (fun _ _ => rfl)) (pglob rfl T.c_NOTE) (nomark _))))))) (pss_one (ps_raiseU rfl (takes_of rfl rfl rfl rfl) (pmk_own PySem.F.excBase_ValueError T.e_BadProgram.ex T.e_BadProgram.g T.e_BadProgram.k (raises_own T.e_BadProgram.b T.e_BadProgram.t) rfl))) pss_nil)
      (pss_cons (ps_if (pt_cmpR (op_notInU K (hu65_of hr)) (pe_ix (ix_U K (hu_of hr)) (pv 1) pe_int (fun _ _ => rfl)) (fldX T.f_Table_rules (pv 0)) (by rfl)) (pss_one (ps_raiseF rfl (takes_of rfl rfl rfl rfl) (pmkS R_UnknownSign (hr.mono (by first | decide | omega)) (by decide) (by rfl) (pa_cons (pe_ix (ix_U K (hu_of hr)) (pv 1) pe_int (fun _ _ => rfl)) pa_nil)))) pss_nil)
      (pss_cons (ps_set (i := 2) sc_check_node.nd rfl (Or.inl rfl) (pe_ix (ix_U K (hu_of hr)) (pe_ix (ix_U K (hu_of hr)) (fldX T.f_Table_rules (pv 0)) (pe_ix (ix_U K (hu_of hr)) (pv 1) pe_int (fun _ _ => rfl)) (fun _ _ => rfl)) pe_int (fun _ _ => rfl)))
      (pss_cons (ps_if (pt_cmpR (op_neU K hr.units) (pe_callB (call_lenU K) (by rfl) T.b_len PySem.boot_len (pa_cons (pv 1) pa_nil)) (pe_op (op_addU K) (pe_callB (call_lenU K) (by rfl) T.b_len PySem.boot_len (pa_cons (pv 2) pa_nil)) pe_int) (nomark _)) (pss_one (ps_raiseU rfl (takes_of rfl rfl rfl rfl) (pmk_own PySem.F.excBase_ValueError T.e_BadProgram.ex T.e_BadProgram.g T.e_BadProgram.k (raises_own T.e_BadProgram.b T.e_BadProgram.t) rfl))) pss_nil)
      (pss_cons (ps_if (pt_not (pt_val (pe_callB (cr_allK K rfl) (by rfl) T.b_all (by decide +kernel) (pa_cons (pe_lc (own := [("block", 7)]) (g := (gName 7)) (tt := tYes) rfl sc_check_node.nd (pi_any K (pe_slice (sl_U K) (pv 1) (po_some pe_int) po_none)) (blkOk_by (own := [("block", 7)]) (N := N_check_node) (sc := defScope s_check_node) (by decide +kernel)) (fun _ _ _ _ _ => (pg_name (i := 7) sc_check_node.nd rfl (by first | exact Or.inl rfl | exact Or.inr rfl))) (fun _ _ _ _ _ => pts_nil) (fun _ _ _ _ _ => (pe_and (pe_callB (call_isi1K K) (by rfl) T.b_isinstance (by decide +kernel) (pa_cons (pv 7) (pa_cons (pe_bltn (v := .ty "tuple") (by rfl) T.b_tuple (by decide +kernel) rfl) pa_nil))) (pe_one (pe_cmpR (op_eqU K hr.units) (pe_callB (call_lenU K) (by rfl) T.b_len PySem.boot_len (pa_cons (pv 7) pa_nil)) pe_int (nomark _)))))) pa_nil)))) (pss_one (ps_raiseU rfl (takes_of rfl rfl rfl rfl) (pmk_own PySem.F.excBase_ValueError T.e_BadProgram.ex T.e_BadProgram.g T.e_BadProgram.k (raises_own T.e_BadProgram.b T.e_BadProgram.t) rfl))) pss_nil)
      (pss_one (ps_for (passes_of rfl) rfl (pi_range1 (by rfl) T.b_range (pa_cons (pe_callB (call_lenU K) (by rfl) T.b_len PySem.boot_len (pa_cons (pv 2) pa_nil)) pa_nil)) (pg_name (i := 3) sc_check_node.nd rfl (Or.inl rfl)) (pss_cons (ps_asg (pe_ix (ix_U K (hu_of hr)) (pv 1) (pe_op (op_addU K) (pv 3) pe_int) (fun _ _ => rfl)) (pg_tupK K 3 rfl (pgs_cons (pg_name (i := 4) sc_check_node.nd rfl (Or.inl rfl)) (pgs_cons (pg_name (i := 5) sc_check_node.nd rfl (Or.inl rfl)) (pgs_cons (pg_name (i := 6) sc_check_node.nd rfl (Or.inl rfl)) pgs_nil)))))
      (pss_one (ps_if (pt_cmpR op_isNU (pe_ix (ix_U K (hu_of hr)) (pe_ix (ix_U K (hu_of hr)) (pv 2) (pv 3) (fun _ _ => rfl)) pe_int (fun _ _ => rfl)) pe_non (nomark _)) (pss_one (ps_if (PW.pt (pw_or (pt_cmpR op_notNU (pv 4) pe_non (nomark _)) (pw_or1 (pt_cmpR op_notNU (pv 5) pe_non (nomark _))))) (pss_one (ps_raiseU rfl (takes_of rfl rfl rfl rfl) (pmk_own PySem.F.excBase_ValueError T.e_BadProgram.ex T.e_BadProgram.g T.e_BadProgram.k (raises_own T.e_BadProgram.b T.e_BadProgram.t) rfl))) pss_nil)) (pss_cons (ps_if (pt_not (pt_val (fcallX (takes_of rfl rfl rfl rfl) G_is_word (hr.mono (by first | decide | omega)) (by rfl) (pa_cons (pv 4) pa_nil)))) (pss_one (ps_raiseU rfl (takes_of rfl rfl rfl rfl) (pmk_own PySem.F.excBase_ValueError T.e_BadProgram.ex T.e_BadProgram.g T.e_BadProgram.k (raises_own T.e_BadProgram.b T.e_BadProgram.t) rfl))) pss_nil)
      (pss_one (ps_if (PW.pt (pw_and (pt_cmpR op_notNU (pv 5) pe_non (nomark _)) (pw_and1 (pt_not (pt_val (fcallX (takes_of rfl rfl rfl rfl) G_is_kind (hr.mono (by first | decide | omega)) (by rfl) (pa_cons (fldX T.f_Table_stock (pv 0)) (pa_cons (pv 5) pa_nil)))))))) (pss_one (ps_raiseU rfl (takes_of rfl rfl rfl rfl) (pmk_own PySem.F.excBase_ValueError T.e_BadKind.ex T.e_BadKind.g T.e_BadKind.k (raises_own T.e_BadKind.b T.e_BadKind.t) rfl))) pss_nil))))))))))))), inferInstance, ?_⟩
    have vt : vD e.W (.ref t) = some (.obj (clsA mg "Table") (tbC (.obj (clsA mg "Stock") (stkC ss us)) r)) := vD_ins tb.tb.o
    have vk : vD e.W (.ref r) = some (.dct (ksR rs)) := vD_dct tb.tb.k
    have lx : look (ksR rs) (.inr x) = some (ruleD qs wd) := look_ksR tb.nd hpm
    have hx : isWord x = true := (tb.wd _ hpm).1
    have hq3 : qs.length ≤ 3 := (tb.wd _ hpm).2
    have htl : ts.length = qs.length := htl
    unfold tbC at vt
    walk_at "d"
    refine iteB_F (by rw [List.length_map]; omega) ?_
    walk_at "d"
    refine iteB_F (word_colon hx) ?_
    walk_at "d"
    refine dd1B_at vt ?_
    walk_at "d"
    refine dd1B_at vk ?_
    walk_at "d"
    rw [lx]
    walk_at "d"
    refine dd1B_at vt ?_
    walk_at "d"
    refine dd1B_at vk ?_
    walk_at "d"
    rw [lx]
    unfold ruleD
    walk_at "d"
    refine iteB_F (by simp only [List.length_map]; omega) ?_
    walk_at "d"
    refine comp_map blk (fun _ => .bl true) ts (by simp; omega) (fun q hq N M h => ?_) ?_
    · unfold blk
      walk_at "d"
      exact h
    · walk_at "d"
      rw [bls_mapF]
      walk_at "d"
      refine iteB_F (by rw [Bool.not_eq_false, List.all_eq_true]; intro b hb; obtain ⟨_, _, rfl⟩ := List.mem_map.mp hb; rfl) ?_
      walk_at "d"
      rw [List.length_map]
      refine ⟨by omega, by omega, ?_⟩
      rw [show ((qs.length : Int)).toNat = qs.length by omega]
      refine for_rng (fun i S => ∃ v3 v4 v5 v6, S = ⟨[some (.val (.ref t)), some (.val (.tup (.str x :: ts.map blk))), some (.val (.tup (qs.map fun p => D.tup [p.1, p.2]))), v3, v4, v5, v6, none], e.W⟩) ⟨_, _, _, _, rfl⟩ ?_ ?_
      · rintro i S hi ⟨v3, v4, v5, v6, rfl⟩
        obtain ⟨q, eq⟩ : ∃ q, qs[i]? = some q := ⟨_, List.getElem?_eq_getElem hi⟩
        obtain ⟨b, eb⟩ : ∃ b, ts[i]? = some b := ⟨_, List.getElem?_eq_getElem (by omega)⟩
        have ib : ∀ {z : Int}, z = ((i + 1 : Nat) : Int) → atI (.str x :: ts.map blk) z = some (blk b) := fun hz => at_get hz (by rw [List.getElem?_cons_succ, List.getElem?_map, eb]; rfl)
        have iq : ∀ {z : Int}, z = (i : Int) → atI (qs.map fun p => D.tup [p.1, p.2]) z = some (.tup [q.1, q.2]) := fun hz => at_get hz (by rw [List.getElem?_map, eq]; rfl)
        have hbp := hb i q b eq eb
        obtain ⟨b1, b2, b3⟩ := b
        obtain ⟨q1, q2⟩ := q
        walk_at "d"
        rw [ib (by omega)]
        unfold blk
        walk_at "d"
        rw [iq (by omega)]
        walk_at "d"
        rcases hbp with ⟨h1, h2, h3⟩ | ⟨h1, ⟨y, h2, hy⟩, h3⟩
        · have h1 : q1 = .non := h1
          have h2 : b1 = .non := h2
          have h3 : b2 = .non := h3
          subst h1 h2 h3
          refine iteB_T rfl ?_
          walk_at "d"
          exact ⟨_, _, _, _, rfl⟩
        · have h1 : q1 ≠ .non := h1
          have h2 : b1 = .str y := h2
          subst h2
          refine iteB_F (by cases q1 <;> simp_all) ?_
          walk_at "d"
          refine ⟨_, rfl, decide_eq_true (by have := word_len hy; omega), ?_⟩
          rw [show isWordD (.str y) = true from hy]
          walk_at "d"
          have h3 : b2 = .non ∨ KindOk ss b2 := h3
          rcases h3 with h3 | h3
          · subst h3
            walk_at "d"
            try refine iteB_F (by simp) ?_
            try walk_at "d"
            exact ⟨_, _, _, _, rfl⟩
          · have hn := h3.n
            refine iteB_T (by cases b2 <;> simp_all) ?_
            walk_at "d"
            refine dd1B_at vt ?_
            walk_at "d"
            refine ⟨ss, us, b2, rfl, tb.sl, h3.f, h3.d, ?_⟩
            rw [h3.k]
            walk_at "d"
            exact ⟨_, _, _, _, rfl⟩
      · rintro S ⟨v3, v4, v5, v6, rfl⟩
        walk_at "d"
        exact k
abbrev s_check_part : Stmt := top 41
abbrev N_check_part : List Str := ["table", "part", "name", "remark", "inner"]
abbrev P_check_part : List Str := ["table", "part"]
theorem sc_check_part : FnScope N_check_part P_check_part (defScope s_check_part) := ⟨rfl, rfl, rfl, by decide +kernel, rfl, by decide +kernel, by decide +kernel⟩
def F_check_part (CT CS : Addr) (n : Nat) : FSpec := fun ds W Q _ => ∃ (t r : Addr) (ss us : List (Str × Str)) (rs : List RowR) (d : D), ds = [.ref t, d] ∧ TbR CT CS W t r ss us rs ∧ PartP ss rs n d ∧ Q .non W
theorem ok_check_part (F : Fz K mg "check_part" s_check_part P_check_part) (T : Txt K mg) (G_is_word : Fx P w K mg base (L2.CX P w) "is_word" 1 P_is_word (lift K F_is_word)) (G_is_noted : Fx P w K mg base (L2.CX P w) "is_noted" 1 P_is_noted (lift K F_is_noted)) (G_is_kind : Fx P w K mg base (L2.CX P w) "is_kind" 9 P_is_kind (lift K (F_is_kind (clsA mg "Stock") 6))) (G_check_node : Fx P w K mg base (L2.CX P w) "check_node" 10 P_check_node (lift K (F_check_node (clsA mg "Table") (clsA mg "Stock")))) : ∀ n, Fx P w K mg base (L2.CX P w) "check_part" (n + 11) P_check_part (lift K (F_check_part (clsA mg "Table") (clsA mg "Stock") n))
  | 0 => F.noneD fun ds W Q E ⟨_, _, _, _, _, _, _, _, z, _⟩ => z
  | n + 1 => by
    have G_check_part := ok_check_part F T G_is_word G_is_noted G_is_kind G_check_node n
    refine F.okD sc_check_part (fun ds W Q E h => ?_) (fun f cdv A outer s H E e ds Qd Ed hr lk h => ?_)
    · obtain ⟨t, r, ss, us, rs, d, rfl, _⟩ := h
      rfl
    · obtain ⟨t, r, ss, us, rs, d, rfl, tb, hp0, k⟩ := h
      refine ⟨_, _, (pss_one (ps_if (pt_val (pe_callB (call_isi1K K) (by rfl) T.b_isinstance (by decide +kernel) (pa_cons (pv 1) (pa_cons (pe_bltn (v := .ty "str") (by rfl) T.b_str (by decide +kernel) rfl) pa_nil)))) (pss_one (ps_if (pt_not (pt_val (fcallX (takes_of rfl rfl rfl rfl) G_is_word (hr.mono (by first | decide | omega)) (by rfl) (pa_cons (pv 1) pa_nil)))) (pss_one (ps_raiseU rfl (takes_of rfl rfl rfl rfl) (pmk_own PySem.F.excBase_ValueError T.e_BadProgram.ex T.e_BadProgram.g T.e_BadProgram.k (raises_own T.e_BadProgram.b T.e_BadProgram.t) rfl))) pss_nil)) (pss_one (ps_if (pt_val (fcallX (takes_of rfl rfl rfl rfl) G_is_noted (hr.mono (by first | decide | omega)) (by rfl) (pa_cons (pv 1) pa_nil))) (pss_cons (ps_if (pt_not (pt_val (fcallX (takes_of rfl rfl rfl rfl) G_is_kind (hr.mono (by first | decide | omega)) (by rfl) (pa_cons (fldX T.f_Table_stock (pv 0)) (pa_cons (pe_ix (ix_U K (hu_of hr)) (pv 1) pe_int (fun _ _ => rfl)) pa_nil))))) (pss_one (ps_raiseU rfl (takes_of rfl rfl rfl rfl) (pmk_own PySem.F.excBase_ValueError T.e_BadKind.ex T.e_BadKind.g T.e_BadKind.k (raises_own T.e_BadKind.b T.e_BadKind.t) rfl))) pss_nil)
      (pss_cons (ps_if (pt_val (fcallX (takes_of rfl rfl rfl rfl) G_is_noted (hr.mono (by first | decide | omega)) (by rfl) (pa_cons (pe_ix (ix_U K (hu_of hr)) (pv 1) pe_int (fun _ _ => rfl)) pa_nil))) (pss_one (ps_raiseU rfl (takes_of rfl rfl rfl rfl) (pmk_own PySem.F.excBase_ValueError T.e_BadProgram.ex T.e_BadProgram.g T.e_BadProgram.k (raises_own T.e_BadProgram.b T.e_BadProgram.t) rfl))) pss_nil)
      (pss_one (ps_expr (fcallX (takes_of rfl rfl rfl rfl) G_check_part (hr.mono (by first | decide | omega)) (by rfl) (pa_cons (pv 0) (pa_cons (pe_ix (ix_U K (hu_of hr)) (pv 1) pe_int (fun _ _ => rfl)) pa_nil))))))) (pss_cons (ps_expr (fcallX (takes_of rfl rfl rfl rfl) G_check_node (hr.mono (by first | decide | omega)) (by rfl) (pa_cons (pv 0) (pa_cons (pv 1) pa_nil))))
      (pss_one (ps_for (passes_of rfl) rfl (pi_any K (pe_slice (sl_U K) (pv 1) (po_some pe_int) po_none)) (pg_tupK K 3 rfl (pgs_cons (pg_name (i := 2) sc_check_part.nd rfl (Or.inl rfl)) (pgs_cons (pg_name (i := 3) sc_check_part.nd rfl (Or.inl rfl)) (pgs_cons (pg_name (i := 4) sc_check_part.nd rfl (Or.inl rfl)) pgs_nil)))) (pss_one (ps_expr (fcallX (takes_of rfl rfl rfl rfl) G_check_part (hr.mono (by first | decide | omega)) (by rfl) (pa_cons (pv 0) (pa_cons (pv 4) pa_nil)))))))))))), inferInstance, ?_⟩
      have vt : vD e.W (.ref t) = some (.obj (clsA mg "Table") (tbC (.obj (clsA mg "Stock") (stkC ss us)) r)) := vD_ins tb.tb.o
      unfold tbC at vt
      have hp := hp0
      rcases hp with ⟨x, rfl, hx⟩ | ⟨p, ts, hpm, rfl, hl, hb, hq⟩ | ⟨d', kd, rfl, hp, hn, hk⟩
      · walk_at "d"
        refine ⟨_, rfl, decide_eq_true (by have := word_len hx; omega), ?_⟩
        rw [show isWordD (.str x) = true from hx]
        walk_at "d"
        exact k
      · walk_at "d"
        refine ⟨_, rfl, hp0.hd, ?_⟩
        rw [node_noted (tb.wd p hpm).1]
        walk_at "d"
        refine ⟨t, r, ss, us, rs, p, ts, rfl, tb, hpm, hl, hb, ?_⟩
        walk_at "d"
        refine for_map blk ts (fun i S => ∃ v2 v3 v4, S = ⟨[some (.val (.ref t)), some (.val (.tup (.str p.1 :: ts.map blk))), v2, v3, v4], e.W⟩) ⟨_, _, _, rfl⟩ ?_ ?_
        · rintro i b S hi ⟨v2, v3, v4, rfl⟩
          have hb3 := hq b (List.mem_of_getElem? hi)
          obtain ⟨b1, b2, b3⟩ := b
          generalize ts.map blk = bs
          unfold blk
          walk_at "d"
          refine ⟨t, r, ss, us, rs, b3, rfl, tb, hb3, ?_⟩
          walk_at "d"
          exact ⟨_, _, _, rfl⟩
        · rintro S ⟨v2, v3, v4, rfl⟩
          walk_at "d"
          exact k
      · walk_at "d"
        refine ⟨_, rfl, hp0.hd, ?_⟩
        rw [show notedD (.tup [.str (Str.ofString ":"), d', kd]) = true from decide_eq_true (p := Str.ofString ":" = Str.ofString ":") rfl]
        walk_at "d"
        refine dd1B_at vt ?_
        walk_at "d"
        refine ⟨ss, us, kd, rfl, tb.sl, hk.f, hk.d, ?_⟩
        rw [hk.k]
        walk_at "d"
        refine ⟨_, rfl, hp.hd, ?_⟩
        rw [hn]
        walk_at "d"
        refine ⟨t, r, ss, us, rs, d', rfl, tb, hp, ?_⟩
        walk_at "d"
        exact k
abbrev s_check_ways : Stmt := top 42
abbrev N_check_ways : List Str := ["ways", "part", "name", "remark", "inner"]
abbrev P_check_ways : List Str := ["ways", "part"]
theorem sc_check_ways : FnScope N_check_ways P_check_ways (defScope s_check_ways) := ⟨rfl, rfl, rfl, by decide +kernel, rfl, by decide +kernel, by decide +kernel⟩
structure WyT (W : Wd) (b : Addr) (rs : List RowR) (ws : List (Key × D)) (g : Str → List Wy) : Prop where
  k : W.ω b = some (.dct ws)
  l : ∀ p ∈ rs, look ws (.inr p.1) = some (.tup ((g p.1).map wayD))
  n : ∀ p ∈ rs, g p.1 ≠ []
def F_check_ways (n : Nat) : FSpec := fun ds W Q _ => ∃ (b : Addr) (ss : List (Str × Str)) (rs : List RowR) (ws : List (Key × D)) (g : Str → List Wy) (d : D), ds = [.ref b, d] ∧ WyT W b rs ws g ∧ (∀ p ∈ rs, isWord p.1 = true ∧ p.2.1.length ≤ 3) ∧ PartP ss rs n d ∧ Q .non W
theorem ok_check_ways (F : Fz K mg "check_ways" s_check_ways P_check_ways) (T : Txt K mg) (R_NoWay : RaiseT P w K mg base "NoWay" ["sign"] false) (G_is_noted : Fx P w K mg base (L2.CX P w) "is_noted" 1 P_is_noted (lift K F_is_noted)) : ∀ n, Fx P w K mg base (L2.CX P w) "check_ways" (n + 2) P_check_ways (lift K (F_check_ways n))
  | 0 => F.noneD fun ds W Q E ⟨_, _, _, _, _, _, _, _, _, z, _⟩ => z
  | n + 1 => by
    have G_check_ways := ok_check_ways F T R_NoWay G_is_noted n
    refine F.okD sc_check_ways (fun ds W Q E h => ?_) (fun f cdv A outer s H E e ds Qd Ed hr lk h => ?_)
    · obtain ⟨b, ss, rs, ws, g, d, rfl, _⟩ := h
      rfl
    · obtain ⟨b, ss, rs, ws, g, d, rfl, wt, wd, hp0, k⟩ := h
      refine ⟨_, _, (pss_one (ps_if (pt_val (fcallX (takes_of rfl rfl rfl rfl) G_is_noted (hr.mono (by first | decide | omega)) (by rfl) (pa_cons (pv 1) pa_nil))) (pss_one (ps_expr (fcallX (takes_of rfl rfl rfl rfl) G_check_ways (hr.mono (by first | decide | omega)) (by rfl) (pa_cons (pv 0) (pa_cons (pe_ix (ix_U K (hu_of hr)) (pv 1) pe_int (fun _ _ => rfl)) pa_nil))))) (pss_one (ps_if (pt_not (pt_val (pe_callB (call_isi1K K) (by rfl) T.b_isinstance (by decide +kernel) (pa_cons (pv 1) (pa_cons (pe_bltn (v := .ty "str") (by rfl) T.b_str (by decide +kernel) rfl) pa_nil))))) (pss_cons (ps_if (pt_cmpR (op_eqU K hr.units) (pe_callB (call_lenU K) (by rfl) T.b_len PySem.boot_len (pa_cons (pe_dget2 (hu_of hr) (pv 0) (pe_ix (ix_U K (hu_of hr)) (pv 1) pe_int (fun _ _ => rfl)) (pe_tup pa_nil) ⟨rfl, rfl, rfl, rfl⟩) pa_nil)) pe_int (nomark _)) (pss_one (ps_raiseF rfl (takes_of rfl rfl rfl rfl) (pmkS R_NoWay (hr.mono (by first | decide | omega)) (by decide) (by rfl) (pa_cons (pe_ix (ix_U K (hu_of hr)) (pv 1) pe_int (fun _ _ => rfl)) pa_nil)))) pss_nil)
      (pss_one (ps_for (passes_of rfl) rfl (pi_any K (pe_slice (sl_U K) (pv 1) (po_some pe_int) po_none)) (pg_tupK K 3 rfl (pgs_cons (pg_name (i := 2) sc_check_ways.nd rfl (Or.inl rfl)) (pgs_cons (pg_name (i := 3) sc_check_ways.nd rfl (Or.inl rfl)) (pgs_cons (pg_name (i := 4) sc_check_ways.nd rfl (Or.inl rfl)) pgs_nil)))) (pss_one (ps_expr (fcallX (takes_of rfl rfl rfl rfl) G_check_ways (hr.mono (by first | decide | omega)) (by rfl) (pa_cons (pv 0) (pa_cons (pv 4) pa_nil)))))))) pss_nil)))), inferInstance, ?_⟩
      have vb : vD e.W (.ref b) = some (.dct ws) := vD_dct wt.k
      have hp := hp0
      rcases hp with ⟨x, rfl, hx⟩ | ⟨p, ts, hpm, rfl, hl, hb, hq⟩ | ⟨d', kd, rfl, hp, hn, hk⟩
      · walk_at "d"
        refine ⟨_, rfl, hp0.hd, ?_⟩
        rw [show notedD (.str x) = false from rfl]
        walk_at "d"
        exact k
      · have lx := wt.l p hpm
        have gn := wt.n p hpm
        walk_at "d"
        refine ⟨_, rfl, hp0.hd, ?_⟩
        rw [node_noted (wd p hpm).1]
        walk_at "d"
        refine ⟨deref_dct wt.k, ?_⟩
        refine dd1B_at vb ?_
        walk_at "d"
        rw [lx, Option.getD_some]
        try walk_at "d"
        refine iteB_F (by rw [List.length_map]; have := List.length_pos_iff.mpr gn; omega) ?_
        walk_at "d"
        refine for_map blk ts (fun i S => ∃ v2 v3 v4, S = ⟨[some (.val (.ref b)), some (.val (.tup (.str p.1 :: ts.map blk))), v2, v3, v4], e.W⟩) ⟨_, _, _, rfl⟩ ?_ ?_
        · rintro i q S hi ⟨v2, v3, v4, rfl⟩
          have hb3 := hq q (List.mem_of_getElem? hi)
          obtain ⟨b1, b2, b3⟩ := q
          generalize ts.map blk = bs
          unfold blk
          walk_at "d"
          refine ⟨b, ss, rs, ws, g, b3, rfl, wt, wd, hb3, ?_⟩
          walk_at "d"
          exact ⟨_, _, _, rfl⟩
        · rintro S ⟨v2, v3, v4, rfl⟩
          walk_at "d"
          exact k
      · walk_at "d"
        refine ⟨_, rfl, hp0.hd, ?_⟩
        rw [show notedD (.tup [.str (Str.ofString ":"), d', kd]) = true from decide_eq_true (p := Str.ofString ":" = Str.ofString ":") rfl]
        walk_at "d"
        refine ⟨b, ss, rs, ws, g, d', rfl, wt, wd, hp, ?_⟩
        walk_at "d"
        exact k
def stepAdd (df : List Int) (a : Int) (p : Int × Str) : Int := if p.2 = Str.ofString "found" then a + df.getD p.1.toNat 0 else a
def manyW (df gv : List Int) (y : Wy) : Int := y.st.foldl (stepAdd df) ((y.nt.filter fun k => decide (k ∉ gv)).length : Int)
def minO (a : Option Int) (m : Int) : Option Int := match a with
  | none => some m
  | some a => if m < a then some m else some a
def toldO (df gv : List Int) (ys : List Wy) : Option Int := ys.foldl (fun a y => minO a (manyW df gv y)) none
def foundO (df gv : List Int) (ys : List Wy) : Option Int := ys.foldl (fun a y => if y.wh = Str.ofString "found" then minO a (manyW df gv y) else a) none
def nodeN (df gv : List Int) (ys : List Wy) : Int × Int := ((toldO df gv ys).getD 0, match foundO df gv ys with
  | none => (toldO df gv ys).getD 0 + 1
  | some f => if (toldO df gv ys).getD 0 + 1 < f then (toldO df gv ys).getD 0 + 1 else f)
def lowL (df gv : List Int) (ys : List Wy) : Int := ys.foldl (fun a y => min a (manyW df gv y)) 99
def highL (df gv : List Int) (ys : List Wy) : Int := ys.foldl (fun a y => if y.wh = Str.ofString "found" then min a (manyW df gv y) else a) 99
theorem minO_min {a : Option Int} {m : Int} (h : m ≤ 98) : (minO a m).getD 99 = min (a.getD 99) m := by
  cases a with
  | none => show m = min 99 m; omega
  | some a =>
    show (if m < a then some m else some a).getD 99 = min a m
    split
    · show m = min a m; omega
    · show a = min a m; omega
theorem low_eq {df gv : List Int} : ∀ (ys : List Wy) (a : Option Int), (∀ y ∈ ys, manyW df gv y ≤ 98) → (ys.foldl (fun a y => minO a (manyW df gv y)) a).getD 99 = ys.foldl (fun a y => min a (manyW df gv y)) (a.getD 99)
  | [], _, _ => rfl
  | y :: ys, a, h => by
    rw [List.foldl_cons, List.foldl_cons, low_eq ys _ fun z hz => h z (List.mem_cons_of_mem _ hz), minO_min (h y List.mem_cons_self)]
theorem high_eq {df gv : List Int} : ∀ (ys : List Wy) (a : Option Int), (∀ y ∈ ys, manyW df gv y ≤ 98) → (ys.foldl (fun a y => if y.wh = Str.ofString "found" then minO a (manyW df gv y) else a) a).getD 99 = ys.foldl (fun a y => if y.wh = Str.ofString "found" then min a (manyW df gv y) else a) (a.getD 99)
  | [], _, _ => rfl
  | y :: ys, a, h => by
    rw [List.foldl_cons, List.foldl_cons, high_eq ys _ fun z hz => h z (List.mem_cons_of_mem _ hz)]
    split
    · rw [minO_min (h y List.mem_cons_self)]
    · rfl
theorem told_le {df gv : List Int} : ∀ (ys : List Wy) (a : Option Int), (∀ b, a = some b → b ≤ 98) → (∀ y ∈ ys, manyW df gv y ≤ 98) → ∀ b, ys.foldl (fun a y => minO a (manyW df gv y)) a = some b → b ≤ 98
  | [], a, h, _, b, e => h b e
  | y :: ys, a, h, hy, b, e => by
    rw [List.foldl_cons] at e
    refine told_le ys _ (fun c hc => ?_) (fun z hz => hy z (List.mem_cons_of_mem _ hz)) b e
    have := hy y List.mem_cons_self
    cases a with
    | none => cases hc; exact this
    | some a =>
      have ha := h a rfl
      have hc : (if manyW df gv y < a then some (manyW df gv y) else some a) = some c := hc
      split at hc <;> cases hc <;> omega
theorem told_some {df gv : List Int} : ∀ (ys : List Wy) (a : Option Int), (a.isSome = true ∨ ys ≠ []) → ∃ b, ys.foldl (fun a y => minO a (manyW df gv y)) a = some b
  | [], some a, _ => ⟨a, rfl⟩
  | [], none, h => by simp at h
  | y :: ys, a, _ => by
    rw [List.foldl_cons]
    refine told_some ys _ (.inl ?_)
    cases a with
    | none => rfl
    | some a =>
      show (if manyW df gv y < a then some (manyW df gv y) else some a).isSome = true
      split <;> rfl
theorem need_eq {df gv : List Int} {ys : List Wy} (h0 : ys ≠ []) (h : ∀ y ∈ ys, manyW df gv y ≤ 98) : nodeN df gv ys = (lowL df gv ys, min (highL df gv ys) (lowL df gv ys + 1)) := by
  obtain ⟨b, hb⟩ := told_some (df := df) (gv := gv) ys none (.inr h0)
  have hb8 := told_le ys none (by simp) h b hb
  have e1 := low_eq ys none h
  have e2 := high_eq ys none h
  have hb : toldO df gv ys = some b := hb
  have e1 : (toldO df gv ys).getD 99 = lowL df gv ys := e1
  have e2 : (foundO df gv ys).getD 99 = highL df gv ys := e2
  rw [hb] at e1
  unfold nodeN
  rw [hb, ← e1, ← e2]
  cases hf : foundO df gv ys with
  | none => show (b, b + 1) = (b, min 99 (b + 1)); congr 1; omega
  | some f =>
    show (b, if b + 1 < f then b + 1 else f) = (b, min f (b + 1))
    congr 1
    split <;> omega
structure WyS (df : List Int) (y : Wy) : Prop where
  ln : y.nt.length ≤ 60
  ls : y.st.length ≤ 60
  st : ∀ p ∈ y.st, 0 ≤ p.1 ∧ p.1.toNat < df.length
theorem fm_len (gv : List Int) : ∀ nt : List Int, (nt.filterMap fun z => if z ∈ gv then none else some (D.int z)).length = (nt.filter fun k => decide (k ∉ gv)).length
  | [] => rfl
  | z :: nt => by
    by_cases c : z ∈ gv
    · simp [c, fm_len gv nt]
    · simp [c, fm_len gv nt]
theorem int_mem {z : Int} {l : List Int} : D.int z ∈ l.map D.int ↔ z ∈ l := ⟨fun h => by obtain ⟨x, hx, e⟩ := List.mem_map.mp h; cases e; exact hx, fun h => List.mem_map.mpr ⟨z, h, rfl⟩⟩
abbrev s_node_need : Stmt := top 45
abbrev N_node_need : List Str := ["ways", "differences", "given", "told", "found", "whole", "steps", "noted", "many", "place", "mode"]
abbrev P_node_need : List Str := ["ways", "differences", "given"]
theorem sc_node_need : FnScope N_node_need P_node_need (defScope s_node_need) := ⟨rfl, rfl, rfl, by decide +kernel, rfl, by decide +kernel, by decide +kernel⟩
def oD : Option Int → D
  | none => .non
  | some a => .int a
def F_node_need : FSpec := fun ds W Q _ => ∃ (ys : List Wy) (df gv : List Int), ds = [.tup (ys.map wayD), .lst (df.map D.int), .lst (gv.map D.int)] ∧ ys ≠ [] ∧ (∀ y ∈ ys, WyS df y) ∧ Q (.tup [.int (nodeN df gv ys).1, .int (nodeN df gv ys).2]) W
theorem ok_node_need (F : Fz K mg "node_need" s_node_need P_node_need) (T : Txt K mg) : Fx P w K mg base (L2.CX P w) "node_need" 1 P_node_need (lift K F_node_need) := by
  refine F.okD sc_node_need (fun ds W Q E h => ?_) (fun f cdv A outer s H E e ds Qd Ed hr lk h => ?_)
  · obtain ⟨ys, df, gv, rfl, _⟩ := h
    rfl
  · obtain ⟨ys, df, gv, rfl, h0, hy, k⟩ := h
    refine ⟨_, _, (pss_cons (ps_set (i := 3) sc_node_need.nd rfl (Or.inl rfl) pe_non)
      (pss_cons (ps_set (i := 4) sc_node_need.nd rfl (Or.inl rfl) pe_non)
      (pss_cons (ps_for (passes_of rfl) rfl (pi_any K (pv 0)) (pg_tupK K 3 rfl (pgs_cons (pg_name (i := 5) sc_node_need.nd rfl (Or.inl rfl)) (pgs_cons (pg_name (i := 6) sc_node_need.nd rfl (Or.inl rfl)) (pgs_cons (pg_name (i := 7) sc_node_need.nd rfl (Or.inl rfl)) pgs_nil)))) (pss_cons (ps_set (i := 8) sc_node_need.nd rfl (Or.inl rfl) (pe_callB (call_lenU K) (by rfl) T.b_len PySem.boot_len (pa_cons (pe_lc (own := [("place", 9)]) (g := (gName 9))  rfl sc_node_need.nd (pi_any K (pv 7)) (blkOk_by (own := [("place", 9)]) (N := N_node_need) (sc := defScope s_node_need) (by decide +kernel)) (fun _ _ _ _ _ => (pg_name (i := 9) sc_node_need.nd rfl (by first | exact Or.inl rfl | exact Or.inr rfl))) (fun _ _ _ _ _ => (pts_one (pt_cmpR (op_notInU K (hu65_of hr)) (pv 9) (pv 2) (by rfl)))) (fun _ _ _ _ _ => (pv 9))) pa_nil)))
      (pss_cons (ps_for (passes_of rfl) rfl (pi_any K (pv 6)) (pg_tupK K 2 rfl (pgs_cons (pg_name (i := 9) sc_node_need.nd rfl (Or.inl rfl)) (pgs_cons (pg_name (i := 10) sc_node_need.nd rfl (Or.inl rfl)) pgs_nil))) (pss_one (ps_if (pt_cmpR (op_eqU K hr.units) (pv 10) (pglob rfl T.c_FOUND) (nomark _)) (pss_one (ps_set (i := 8) sc_node_need.nd rfl (Or.inl rfl) (pe_op (op_addU K) (pv 8) (pe_ix (ix_U K (hu_of hr)) (pv 1) (pv 9) (fun _ _ => rfl))))) pss_nil)))
      (pss_cons (ps_if (PW.pt (pw_or (pt_cmpR op_isNU (pv 3) pe_non (nomark _)) (pw_or1 (pt_cmpR op_ltU (pv 8) (pv 3) (nomark _))))) (pss_one (ps_set (i := 3) sc_node_need.nd rfl (Or.inl rfl) (pv 8))) pss_nil)
      (pss_one (ps_if (PW.pt (pw_and (pt_cmpR (op_eqU K hr.units) (pv 5) (pglob rfl T.c_FOUND) (nomark _)) (pw_and1 (PW.pt (pw_or (pt_cmpR op_isNU (pv 4) pe_non (nomark _)) (pw_or1 (pt_cmpR op_ltU (pv 8) (pv 4) (nomark _)))))))) (pss_one (ps_set (i := 4) sc_node_need.nd rfl (Or.inl rfl) (pv 8))) pss_nil))))))
      (pss_cons (ps_if (PW.pt (pw_or (pt_cmpR op_isNU (pv 4) pe_non (nomark _)) (pw_or1 (pt_cmpR op_ltU (pe_op (op_addU K) (pv 3) pe_int) (pv 4) (nomark _))))) (pss_one (ps_set (i := 4) sc_node_need.nd rfl (Or.inl rfl) (pe_op (op_addU K) (pv 3) pe_int))) pss_nil)
      (pss_one (ps_ret (pe_tup (pa_cons (pv 3) (pa_cons (pv 4) pa_nil))))))))), inferInstance, ?_⟩
    walk_at "d"
    refine for_map wayD ys (fun i S => ∃ v5 v6 v7 v8 v9 v10, S = ⟨[some (.val (.tup (ys.map wayD))), some (.val (.lst (df.map D.int))), some (.val (.lst (gv.map D.int))), some (.val (oD (toldO df gv (ys.take i)))), some (.val (oD (foundO df gv (ys.take i)))), v5, v6, v7, v8, v9, v10], e.W⟩) ⟨_, _, _, _, _, _, rfl⟩ ?_ ?_
    · rintro i y S hi ⟨v5, v6, v7, v8, v9, v10, rfl⟩
      have hs := hy y (List.mem_of_getElem? hi)
      generalize ys.map wayD = wds
      unfold wayD
      walk_at "d"
      refine comp_fmM D.int (fun z => if z ∈ gv then none else some (D.int z)) y.nt (by have := hs.ln; simp; omega) (fun z hz N M h1 h2 => ?_) ?_
      · walk_at "d"
        refine ⟨⟨false, .inl ⟨rfl, by rw [List.all_eq_true]; intro d hd; obtain ⟨x, _, rfl⟩ := List.mem_map.mp hd; rfl⟩⟩, ?_⟩
        refine iteB_by (fun c => ?_) (fun c => ?_)
        · walk_at "d"
          rw [int_mem] at c
          exact h1 _ (if_neg c)
        · rw [int_mem, Decidable.not_not] at c
          exact h2 (if_pos c)
      · walk_at "d"
        rw [fm_len]
        refine for_map stpD y.st (fun j S => ∃ v9 v10, S = ⟨[some (.val (.tup wds)), some (.val (.lst (df.map D.int))), some (.val (.lst (gv.map D.int))), some (.val (oD (toldO df gv (ys.take i)))), some (.val (oD (foundO df gv (ys.take i)))), some (.val (.str y.wh)), some (.val (.tup (y.st.map stpD))), some (.val (.tup (y.nt.map D.int))), some (.val (.int ((y.st.take j).foldl (stepAdd df) ((y.nt.filter fun k => decide (k ∉ gv)).length : Int)))), v9, v10], e.W⟩) ⟨_, _, rfl⟩ ?_ ?_
        · rintro j q S hj ⟨v9, v10, rfl⟩
          obtain ⟨hq0, hql⟩ := hs.st q (List.mem_of_getElem? hj)
          have et : (y.st.take (j + 1)).foldl (stepAdd df) ((y.nt.filter fun k => decide (k ∉ gv)).length : Int) = stepAdd df ((y.st.take j).foldl (stepAdd df) ((y.nt.filter fun k => decide (k ∉ gv)).length : Int)) q := by
            obtain ⟨hl, ee⟩ := List.getElem?_eq_some_iff.mp hj
            rw [List.take_succ_eq_append_getElem hl, List.foldl_append, ee]; rfl
          rw [et]
          generalize (y.st.take j).foldl (stepAdd df) _ = m
          generalize y.st.map stpD = sds
          unfold stpD
          walk_at "d"
          refine iteB_by (fun c => ?_) (fun c => ?_)
          · walk_at "d"
            rw [at_get (j := q.1.toNat) (by omega) (show (df.map D.int)[q.1.toNat]? = some (.int (df.getD q.1.toNat 0)) by rw [List.getElem?_map, List.getD_eq_getElem?_getD, List.getElem?_eq_getElem hql]; rfl)]
            walk_at "d"
            rw [stepAdd, if_pos c]
            exact ⟨_, _, rfl⟩
          · walk_at "d"
            rw [stepAdd, if_neg c]
            exact ⟨_, _, rfl⟩
        · rintro S ⟨v9, v10, rfl⟩
          rw [List.take_length]
          have em : y.st.foldl (stepAdd df) ((y.nt.filter fun k => decide (k ∉ gv)).length : Int) = manyW df gv y := rfl
          rw [em]
          have e1 : toldO df gv (ys.take (i + 1)) = minO (toldO df gv (ys.take i)) (manyW df gv y) := by
            obtain ⟨hl, ee⟩ := List.getElem?_eq_some_iff.mp hi
            unfold toldO
            rw [List.take_succ_eq_append_getElem hl, List.foldl_append, ee]; rfl
          have e2 : foundO df gv (ys.take (i + 1)) = if y.wh = Str.ofString "found" then minO (foundO df gv (ys.take i)) (manyW df gv y) else foundO df gv (ys.take i) := by
            obtain ⟨hl, ee⟩ := List.getElem?_eq_some_iff.mp hi
            unfold foundO
            rw [List.take_succ_eq_append_getElem hl, List.foldl_append, ee]; rfl
          rw [e1, e2]
          generalize toldO df gv (ys.take i) = a
          generalize foundO df gv (ys.take i) = b
          generalize manyW df gv y = m
          walk_at "d"
          cases a with
          | none =>
            rw [show minO none m = some m from rfl]
            refine iteB_T rfl ?_
            walk_at "d"
            refine iteB_by (fun c => ?_) (fun c => ?_)
            · rw [if_pos c]
              cases b with
              | none =>
                rw [show minO none m = some m from rfl]
                rw [show oD none = .non from rfl]
                walk_at "d"
                exact ⟨_, _, _, _, _, _, rfl⟩
              | some b =>
                rw [show oD (some b) = .int b from rfl]
                walk_at "d"
                refine iteB_by (fun c2 => ?_) (fun c2 => ?_)
                · rw [show minO (some b) m = some m from if_pos c2]
                  walk_at "d"
                  exact ⟨_, _, _, _, _, _, rfl⟩
                · rw [show minO (some b) m = some b from if_neg c2]
                  walk_at "d"
                  exact ⟨_, _, _, _, _, _, rfl⟩
            · rw [if_neg c]
              walk_at "d"
              exact ⟨_, _, _, _, _, _, rfl⟩
          | some a =>
            refine iteB_F (by unfold oD; simp) ?_
            rw [show oD (some a) = .int a from rfl]
            walk_at "d"
            refine iteB_by (fun c0 => ?_) (fun c0 => ?_)
            · rw [show minO (some a) m = some m from if_pos c0]
              walk_at "d"
              refine iteB_by (fun c => ?_) (fun c => ?_)
              · rw [if_pos c]
                cases b with
                | none =>
                  rw [show minO none m = some m from rfl]
                  rw [show oD none = .non from rfl]
                  walk_at "d"
                  exact ⟨_, _, _, _, _, _, rfl⟩
                | some b =>
                  rw [show oD (some b) = .int b from rfl]
                  walk_at "d"
                  refine iteB_by (fun c2 => ?_) (fun c2 => ?_)
                  · rw [show minO (some b) m = some m from if_pos c2]
                    walk_at "d"
                    exact ⟨_, _, _, _, _, _, rfl⟩
                  · rw [show minO (some b) m = some b from if_neg c2]
                    walk_at "d"
                    exact ⟨_, _, _, _, _, _, rfl⟩
              · rw [if_neg c]
                walk_at "d"
                exact ⟨_, _, _, _, _, _, rfl⟩
            · rw [show minO (some a) m = some a from if_neg c0]
              walk_at "d"
              refine iteB_by (fun c => ?_) (fun c => ?_)
              · rw [if_pos c]
                cases b with
                | none =>
                  rw [show minO none m = some m from rfl]
                  rw [show oD none = .non from rfl]
                  walk_at "d"
                  exact ⟨_, _, _, _, _, _, rfl⟩
                | some b =>
                  rw [show oD (some b) = .int b from rfl]
                  walk_at "d"
                  refine iteB_by (fun c2 => ?_) (fun c2 => ?_)
                  · rw [show minO (some b) m = some m from if_pos c2]
                    walk_at "d"
                    exact ⟨_, _, _, _, _, _, rfl⟩
                  · rw [show minO (some b) m = some b from if_neg c2]
                    walk_at "d"
                    exact ⟨_, _, _, _, _, _, rfl⟩
              · rw [if_neg c]
                walk_at "d"
                exact ⟨_, _, _, _, _, _, rfl⟩
    · rintro S ⟨v5, v6, v7, v8, v9, v10, rfl⟩
      rw [List.take_length]
      walk_at "d"
      obtain ⟨b, hb⟩ := told_some (df := df) (gv := gv) ys none (.inr h0)
      have hb : toldO df gv ys = some b := hb
      unfold nodeN at k
      rw [hb] at k ⊢
      cases hf : foundO df gv ys with
      | none =>
        rw [hf] at k
        unfold oD
        refine iteB_T rfl ?_
        walk_at "d"
        exact k
      | some a =>
        rw [hf] at k
        have k : Qd (.tup [.int b, .int (if b + 1 < a then b + 1 else a)]) e.W := k
        unfold oD
        refine iteB_F (by simp) ?_
        walk_at "d"
        refine iteB_by (fun c => ?_) (fun c => ?_)
        · rw [if_pos c] at k
          walk_at "d"
          exact k
        · rw [if_neg c] at k
          walk_at "d"
          exact k
def nrD : D → D
  | .tup [_, _, d] => d
  | _ => .non
def rmD : D → D
  | .tup [_, r, _] => r
  | _ => .non
def isN : D → Bool
  | .non => true
  | _ => false
def givD (bs : List D) : List Int := ((List.range bs.length).filter fun i => !isN (rmD (bs.getD i .non))).map fun (i : Nat) => (i : Int)
def upN (ns : List (Int × Int)) (gv : List Int) (ys : List Wy) : Int × Int := ((ns.map (·.1)).sum + (nodeN (ns.map fun p => p.2 - p.1) gv ys).1, (ns.map (·.1)).sum + (nodeN (ns.map fun p => p.2 - p.1) gv ys).2)
def needP (g : Str → List Wy) : Nat → D → Int × Int
  | 0, _ => (0, 0)
  | n + 1, .tup (.str x :: bs) => if notedD (.tup (.str x :: bs)) then ((needP g n (bs.headD .non)).1, (needP g n (bs.headD .non)).1) else upN (bs.map fun b => needP g n (nrD b)) (givD bs) (g x)
  | _ + 1, _ => (0, 0)
def pairD (p : Int × Int) : D := .tup [.int p.1, .int p.2]
theorem giv_fm (f : Nat → Bool) : ∀ l : List Nat, (l.filterMap fun i => if f i = true then none else some (D.int (i : Int))) = ((l.filter fun i => !f i).map fun (i : Nat) => (i : Int)).map D.int
  | [] => rfl
  | i :: l => by
    rw [List.filterMap_cons, List.filter_cons, giv_fm f l]
    cases c : f i with
    | true => rfl
    | false => rfl
abbrev s_part_needs : Stmt := top 47
abbrev N_part_needs : List Str := ["ways", "part", "needs", "given", "own", "told", "k", "name", "remark", "inner", "found"]
abbrev P_part_needs : List Str := ["ways", "part"]
theorem sc_part_needs : FnScope N_part_needs P_part_needs (defScope s_part_needs) := ⟨rfl, rfl, rfl, by decide +kernel, rfl, by decide +kernel, by decide +kernel⟩
def F_part_needs (n : Nat) : FSpec := fun ds W Q _ => ∃ (b : Addr) (ss : List (Str × Str)) (rs : List RowR) (ws : List (Key × D)) (g : Str → List Wy) (d : D), ds = [.ref b, d] ∧ WyT W b rs ws g ∧ (∀ p ∈ rs, isWord p.1 = true ∧ p.2.1.length ≤ 3) ∧ (∀ p ∈ rs, ∀ y ∈ g p.1, y.nt.length ≤ 60 ∧ y.st.length ≤ 60 ∧ ∀ q ∈ y.st, 0 ≤ q.1 ∧ q.1.toNat < p.2.1.length) ∧ PartP ss rs n d ∧ Q (pairD (needP g n d)) W
theorem ok_part_needs (F : Fz K mg "part_needs" s_part_needs P_part_needs) (T : Txt K mg) (G_is_noted : Fx P w K mg base (L2.CX P w) "is_noted" 1 P_is_noted (lift K F_is_noted)) (G_node_need : Fx P w K mg base (L2.CX P w) "node_need" 1 P_node_need (lift K F_node_need)) : ∀ n, Fx P w K mg base (L2.CX P w) "part_needs" (n + 2) P_part_needs (lift K (F_part_needs n))
  | 0 => F.noneD fun ds W Q E ⟨_, _, _, _, _, _, _, _, _, _, z, _⟩ => z
  | n + 1 => by
    have G_part_needs := ok_part_needs F T G_is_noted G_node_need n
    refine F.okD sc_part_needs (fun ds W Q E h => ?_) (fun f cdv A outer s H E e ds Qd Ed hr lk h => ?_)
    · obtain ⟨b, ss, rs, ws, g, d, rfl, _⟩ := h
      rfl
    · obtain ⟨b, ss, rs, ws, g, d, rfl, wt, wd, wy, hp0, k⟩ := h
      refine ⟨_, _, (pss_cons (ps_if (pt_val (pe_callB (call_isi1K K) (by rfl) T.b_isinstance (by decide +kernel) (pa_cons (pv 1) (pa_cons (pe_bltn (v := .ty "str") (by rfl) T.b_str (by decide +kernel) rfl) pa_nil)))) (pss_one (ps_ret (pe_tup (pa_cons pe_int (pa_cons pe_int pa_nil))))) pss_nil)
      (pss_cons (ps_if (pt_val (fcallX (takes_of rfl rfl rfl rfl) G_is_noted (hr.mono (by first | decide | omega)) (by rfl) (pa_cons (pv 1) pa_nil))) (pss_cons (ps_set (i := 5) sc_part_needs.nd rfl (Or.inl rfl) (pe_ix (ix_U K (hu_of hr)) (fcallX (takes_of rfl rfl rfl rfl) G_part_needs (hr.mono (by first | decide | omega)) (by rfl) (pa_cons (pv 0) (pa_cons (pe_ix (ix_U K (hu_of hr)) (pv 1) pe_int (fun _ _ => rfl)) pa_nil))) pe_int (fun _ _ => rfl)))
      (pss_one (ps_ret (pe_tup (pa_cons (pv 5) (pa_cons (pv 5) pa_nil)))))) pss_nil)
      (pss_cons (ps_setLc (i := 2) (own := [("name", 7), ("remark", 8), ("inner", 9)]) (g := (gTup K 3 (gCons (gName 7) (gCons (gName 8) (gCons (gName 9) gNil))))) (tt := tYes) rfl sc_part_needs.nd rfl rfl (sw_true rfl rfl rfl (by decide +kernel)) (pi_any K (pe_slice (sl_U K) (pv 1) (po_some pe_int) po_none)) (blkOk_by (own := [("name", 7), ("remark", 8), ("inner", 9)]) (N := N_part_needs) (sc := defScope s_part_needs) (by decide +kernel)) (fun _ _ _ _ _ => (pg_tupK K 3 rfl (pgs_cons (pg_name (i := 7) sc_part_needs.nd rfl (by first | exact Or.inl rfl | exact Or.inr rfl)) (pgs_cons (pg_name (i := 8) sc_part_needs.nd rfl (by first | exact Or.inl rfl | exact Or.inr rfl)) (pgs_cons (pg_name (i := 9) sc_part_needs.nd rfl (by first | exact Or.inl rfl | exact Or.inr rfl)) pgs_nil))))) (fun _ _ _ _ _ => pts_nil) (fun _ _ _ _ _ => (fcallX takes0 G_part_needs (hr.mono (by first | decide | omega)) (by rfl) (pa_cons (pv 0) (pa_cons (pv 9) pa_nil)))))
      (pss_cons (ps_setLc (i := 3) (own := [("k", 6)]) (g := (gName 6))  rfl sc_part_needs.nd rfl rfl (sw_true rfl rfl rfl (by decide +kernel)) (pi_range2 (by rfl) T.b_range (pa_cons pe_int (pa_cons (pe_callB (call_lenU K) (by rfl) T.b_len PySem.boot_len (pa_cons (pv 1) pa_nil)) pa_nil))) (blkOk_by (own := [("k", 6)]) (N := N_part_needs) (sc := defScope s_part_needs) (by decide +kernel)) (fun _ _ _ _ _ => (pg_name (i := 6) sc_part_needs.nd rfl (by first | exact Or.inl rfl | exact Or.inr rfl))) (fun _ _ _ _ _ => (pts_one (pt_cmpR op_notNU (pe_ix (ix_U K (hu_of hr)) (pe_ix (ix_U K (hu_of hr)) (pv 1) (pv 6) (fun _ _ => rfl)) pe_int (fun _ _ => rfl)) pe_non (nomark _)))) (fun _ _ _ _ _ => (pe_op op_subU (pv 6) pe_int)))
      (pss_cons (ps_set (i := 4) sc_part_needs.nd rfl (Or.inl rfl) (fcallX (takes_of rfl rfl rfl rfl) G_node_need (hr.mono (by first | decide | omega)) (by rfl) (pa_cons (pe_ix (ix_U K (hu_of hr)) (pv 0) (pe_ix (ix_U K (hu_of hr)) (pv 1) pe_int (fun _ _ => rfl)) (fun _ _ => rfl)) (pa_cons (pe_lc (own := [("told", 5), ("found", 10)]) (g := (gTup K 2 (gCons (gName 5) (gCons (gName 10) gNil)))) (tt := tYes) rfl sc_part_needs.nd (pi_any K (pv 2)) (blkOk_by (own := [("told", 5), ("found", 10)]) (N := N_part_needs) (sc := defScope s_part_needs) (by decide +kernel)) (fun _ _ _ _ _ => (pg_tupK K 2 rfl (pgs_cons (pg_name (i := 5) sc_part_needs.nd rfl (by first | exact Or.inl rfl | exact Or.inr rfl)) (pgs_cons (pg_name (i := 10) sc_part_needs.nd rfl (by first | exact Or.inl rfl | exact Or.inr rfl)) pgs_nil)))) (fun _ _ _ _ _ => pts_nil) (fun _ _ _ _ _ => (pe_op op_subU (pv 10) (pv 5)))) (pa_cons (pv 3) pa_nil)))))
      (pss_cons (ps_set (i := 5) sc_part_needs.nd rfl (Or.inl rfl) (pe_callB (cr_sumK K rfl) (by rfl) T.b_sum (by decide +kernel) (pa_cons (pe_lc (own := [("told", 5), ("found", 10)]) (g := (gTup K 2 (gCons (gName 5) (gCons (gName 10) gNil)))) (tt := tYes) rfl sc_part_needs.nd (pi_any K (pv 2)) (blkOk_by (own := [("told", 5), ("found", 10)]) (N := N_part_needs) (sc := defScope s_part_needs) (by decide +kernel)) (fun _ _ _ _ _ => (pg_tupK K 2 rfl (pgs_cons (pg_name (i := 5) sc_part_needs.nd rfl (by first | exact Or.inl rfl | exact Or.inr rfl)) (pgs_cons (pg_name (i := 10) sc_part_needs.nd rfl (by first | exact Or.inl rfl | exact Or.inr rfl)) pgs_nil)))) (fun _ _ _ _ _ => pts_nil) (fun _ _ _ _ _ => (pv 5))) pa_nil)))
      (pss_one (ps_ret (pe_tup (pa_cons (pe_op (op_addU K) (pv 5) (pe_ix (ix_U K (hu_of hr)) (pv 4) pe_int (fun _ _ => rfl))) (pa_cons (pe_op (op_addU K) (pv 5) (pe_ix (ix_U K (hu_of hr)) (pv 4) pe_int (fun _ _ => rfl))) pa_nil))))))))))), inferInstance, ?_⟩
      have vb : vD e.W (.ref b) = some (.dct ws) := vD_dct wt.k
      have hp := hp0
      rcases hp with ⟨x, rfl, hx⟩ | ⟨p, ts, hpm, rfl, hl, hb, hq⟩ | ⟨d', kd, rfl, hp, hn, hk⟩
      · walk_at "d"
        exact k
      · walk_at "d"
        refine ⟨_, rfl, hp0.hd, ?_⟩
        rw [node_noted (wd p hpm).1]
        have ek : needP g (n + 1) (.tup (.str p.1 :: ts.map blk)) = upN ((ts.map blk).map fun b => needP g n (nrD b)) (givD (ts.map blk)) (g p.1) := by
          rw [needP, node_noted (wd p hpm).1]; rfl
        rw [ek] at k
        walk_at "d"
        refine comp_map blk (fun t => pairD (needP g n t.2.2)) ts (by have := (wd p hpm).2; simp; omega) (fun q hq2 N M h => ?_) ?_
        · have hq3 := hq q hq2
          rw [show blk q = .tup [q.1, q.2.1, q.2.2] from rfl]
          walk_at "d"
          refine ⟨b, ss, rs, ws, g, q.2.2, rfl, wt, wd, wy, hq3, ?_⟩
          exact h
        · walk_at "d"
          have l3 := (wd p hpm).2
          refine ⟨⟨by omega, by omega, by simp only [List.length_map]; omega, by simp only [List.length_map]; omega⟩, ?_⟩
          rw [show ((((ts.map blk).length + 1 : Nat) : Int) - 1).toNat = ts.length by rw [List.length_map]; omega]
          refine comp_fmM (fun i : Nat => D.int (1 + (i : Int))) (fun i => if isN (rmD ((ts.map blk).getD i .non)) = true then none else some (D.int (i : Int))) (List.range ts.length) (by simp; omega) (fun i hi N M h1 h2 => ?_) ?_
          · have hi := List.mem_range.mp hi
            obtain ⟨q, eb⟩ : ∃ q, ts[i]? = some q := ⟨_, List.getElem?_eq_getElem hi⟩
            have ib : ∀ {z : Int}, z = ((i + 1 : Nat) : Int) → atI (.str p.1 :: ts.map blk) z = some (blk q) := fun hz => at_get hz (by rw [List.getElem?_cons_succ, List.getElem?_map, eb]; rfl)
            have ig : (ts.map blk).getD i .non = blk q := by rw [List.getD_eq_getElem?_getD, List.getElem?_map, eb]; rfl
            rw [ig] at h1 h2
            walk_at "d"
            rw [ib (by omega)]
            rw [show blk q = .tup [q.1, q.2.1, q.2.2] from rfl]
            rw [show rmD (blk q) = q.2.1 from rfl] at h1 h2
            walk_at "d"
            refine iteB_by (fun c => ?_) (fun c => ?_)
            · have c : isN q.2.1 = false := c
              walk_at "d"
              rw [show (1 : Int) + (i : Int) - 1 = (i : Int) by omega]
              exact h1 _ (if_neg (by rw [c]; exact Bool.noConfusion))
            · have c : isN q.2.1 = true := Bool.not_eq_false _ ▸ c
              exact h2 (if_pos c)
          · walk_at "d"
            refine dd1B_at vb ?_
            walk_at "d"
            try rw [wt.l p hpm]
            try walk_at "d"
            rw [giv_fm fun i => isN (rmD ((ts.map blk).getD i .non)), show ((List.range ts.length).filter fun i => !isN (rmD ((ts.map blk).getD i .non))).map (fun (i : Nat) => (i : Int)) = givD (ts.map blk) by rw [givD, List.length_map]]
            refine comp_map (fun t : D × D × D => pairD (needP g n t.2.2)) (fun t => .int ((needP g n t.2.2).2 - (needP g n t.2.2).1)) ts (by simp; omega) (fun q hq2 N M h => ?_) ?_
            · rw [show pairD (needP g n q.2.2) = .tup [.int (needP g n q.2.2).1, .int (needP g n q.2.2).2] from rfl]
              walk_at "d"
              exact h
            · walk_at "d"
              have ed : (ts.map fun t => D.int ((needP g n t.2.2).2 - (needP g n t.2.2).1)) = (((ts.map blk).map fun b => needP g n (nrD b)).map fun p => p.2 - p.1).map D.int := by
                rw [List.map_map, List.map_map, List.map_map]; rfl
              rw [ed]
              refine ⟨g p.1, _, _, rfl, wt.n p hpm, fun y hy => ⟨(wy p hpm y hy).1, (wy p hpm y hy).2.1, fun q hq => ⟨((wy p hpm y hy).2.2 q hq).1, by simp only [List.length_map]; rw [hl]; exact ((wy p hpm y hy).2.2 q hq).2⟩⟩, ?_⟩
              walk_at "d"
              refine comp_map (fun t : D × D × D => pairD (needP g n t.2.2)) (fun t => .int (needP g n t.2.2).1) ts (by simp; omega) (fun q hq2 N M h => ?_) ?_
              · rw [show pairD (needP g n q.2.2) = .tup [.int (needP g n q.2.2).1, .int (needP g n q.2.2).2] from rfl]
                walk_at "d"
                exact h
              · walk_at "d"
                rw [nts_mapF]
                walk_at "d"
                have es : (((ts.map blk).map fun b => needP g n (nrD b)).map (·.1)) = ts.map fun t => (needP g n t.2.2).1 := by
                  rw [List.map_map, List.map_map]; rfl
                unfold upN pairD at k
                rw [es] at k
                exact k
      · walk_at "d"
        refine ⟨_, rfl, hp0.hd, ?_⟩
        rw [show notedD (.tup [.str (Str.ofString ":"), d', kd]) = true from decide_eq_true (p := Str.ofString ":" = Str.ofString ":") rfl]
        walk_at "d"
        refine ⟨b, ss, rs, ws, g, d', rfl, wt, wd, wy, hp, ?_⟩
        unfold pairD
        walk_at "d"
        exact k
structure BkN (CB CT CS : Addr) (W : Wd) (a t b r : Addr) (ss us : List (Str × Str)) (rs : List RowR) (ws : List (Key × D)) (g : Str → List Wy) : Prop where
  bk : BkAt CB W a t b ws
  tb : TbR CT CS W t r ss us rs
  wy : WyT W b rs ws g
  nt : ∀ p ∈ rs, ∀ y ∈ g p.1, y.nt.length ≤ 60 ∧ y.st.length ≤ 60 ∧ ∀ q ∈ y.st, 0 ≤ q.1 ∧ q.1.toNat < p.2.1.length
abbrev s_Book_need : Stmt := inClass (top 57) 7
abbrev N_Book_need : List Str := ["self", "program", "told", "needs"]
abbrev P_Book_need : List Str := ["self", "program", "told"]
theorem sc_Book_need : FnScope N_Book_need P_Book_need (defScope s_Book_need) := ⟨rfl, rfl, rfl, by decide +kernel, rfl, by decide +kernel, by decide +kernel⟩
def F_bkNeed (CB CT CS : Addr) (n : Nat) : FSpec := fun ds W Q _ => ∃ (a t b r : Addr) (ss us : List (Str × Str)) (rs : List RowR) (ws : List (Key × D)) (g : Str → List Wy) (d : D) (c : Bool), ds = [.ref a, d, .bl c] ∧ BkN CB CT CS W a t b r ss us rs ws g ∧ PartP ss rs n d ∧ Q (.int (if c then (needP g n d).1 else (needP g n d).2)) W
theorem body_bkNeed (T : Txt K mg) (n : Nat) (G_check_part : Fx P w K mg base (L2.CX P w) "check_part" (n + 11) P_check_part (lift K (F_check_part (clsA mg "Table") (clsA mg "Stock") n))) (G_check_ways : Fx P w K mg base (L2.CX P w) "check_ways" (n + 2) P_check_ways (lift K (F_check_ways n))) (G_part_needs : Fx P w K mg base (L2.CX P w) "part_needs" (n + 2) P_part_needs (lift K (F_part_needs n))) : BodyD P w K mg base N_Book_need "Book.need" s_Book_need (n + 11) (F_bkNeed (clsA mg "Book") (clsA mg "Table") (clsA mg "Stock") n) := by
  intro f cdv A outer s H E e ds Qd Ed hr lk h
  obtain ⟨a, t, b, r, ss, us, rs, ws, g, d, c, rfl, hb, hp, k⟩ := h
  refine ⟨_, _, (pss_cons (ps_expr (fcallX (takes_of rfl rfl rfl rfl) G_check_part (hr.mono (by first | decide | omega)) (by rfl) (pa_cons (fldX T.f_Book_table (pv 0)) (pa_cons (pv 1) pa_nil))))
      (pss_cons (ps_expr (fcallX (takes_of rfl rfl rfl rfl) G_check_ways (hr.mono (by first | decide | omega)) (by rfl) (pa_cons (fldX T.f_Book_ways (pv 0)) (pa_cons (pv 1) pa_nil))))
      (pss_cons (ps_set (i := 3) sc_Book_need.nd rfl (Or.inl rfl) (fcallX (takes_of rfl rfl rfl rfl) G_part_needs (hr.mono (by first | decide | omega)) (by rfl) (pa_cons (fldX T.f_Book_ways (pv 0)) (pa_cons (pv 1) pa_nil))))
      (pss_cons (ps_if (pt_val (pv 2)) (pss_one (ps_ret (pe_ix (ix_U K (hu_of hr)) (pv 3) pe_int (fun _ _ => rfl)))) pss_nil)
      (pss_one (ps_ret (pe_ix (ix_U K (hu_of hr)) (pv 3) pe_int (fun _ _ => rfl)))))))), inferInstance, ?_⟩
  have vo : vD e.W (.ref a) = some (.obj (clsA mg "Book") (bkC t b)) := vD_ins hb.bk.o
  unfold bkC at vo
  walk_at "d"
  refine dd1B_at vo ?_
  walk_at "d"
  refine ⟨t, r, ss, us, rs, d, rfl, hb.tb, hp, ?_⟩
  walk_at "d"
  refine dd1B_at vo ?_
  walk_at "d"
  refine ⟨b, ss, rs, ws, g, d, rfl, hb.wy, hb.tb.wd, hp, ?_⟩
  walk_at "d"
  refine dd1B_at vo ?_
  walk_at "d"
  refine ⟨b, ss, rs, ws, g, d, rfl, hb.wy, hb.tb.wd, hb.nt, hp, ?_⟩
  unfold pairD
  cases c with
  | true =>
    walk_at "d"
    exact k
  | false =>
    walk_at "d"
    exact k
theorem ok_bkNeed (T : Txt K mg) (n : Nat) (G_check_part : Fx P w K mg base (L2.CX P w) "check_part" (n + 11) P_check_part (lift K (F_check_part (clsA mg "Table") (clsA mg "Stock") n))) (G_check_ways : Fx P w K mg base (L2.CX P w) "check_ways" (n + 2) P_check_ways (lift K (F_check_ways n))) (G_part_needs : Fx P w K mg base (L2.CX P w) "part_needs" (n + 2) P_part_needs (lift K (F_part_needs n))) (Z : Mz K (clsA mg "Book") "need" "Book.need" s_Book_need P_Book_need [.bl false]) : Mx P w K mg base (clsA mg "Book") "need" (n + 12) P_Book_need [.bl false] (lift K (F_bkNeed (clsA mg "Book") (clsA mg "Table") (clsA mg "Stock") n)) :=
  Z.okD sc_Book_need (fun ds W Q E h => by obtain ⟨a, t, b, r, ss, us, rs, ws, g, d, c, rfl, _⟩ := h; rfl) (body_bkNeed T n G_check_part G_check_ways G_part_needs)
theorem ok_bkNeedK (T : Txt K mg) (n : Nat) (G_check_part : Fx P w K mg base (L2.CX P w) "check_part" (n + 11) P_check_part (lift K (F_check_part (clsA mg "Table") (clsA mg "Stock") n))) (G_check_ways : Fx P w K mg base (L2.CX P w) "check_ways" (n + 2) P_check_ways (lift K (F_check_ways n))) (G_part_needs : Fx P w K mg base (L2.CX P w) "part_needs" (n + 2) P_part_needs (lift K (F_part_needs n))) (Z : MzK K (clsA mg "Book") "need" "Book.need" s_Book_need P_Book_need 2 ["told"]) : MxK P w K mg base (clsA mg "Book") "need" (n + 12) P_Book_need 2 ["told"] (lift K (F_bkNeed (clsA mg "Book") (clsA mg "Table") (clsA mg "Stock") n)) :=
  Z.okD sc_Book_need (fun ds W Q E h => by obtain ⟨a, t, b, r, ss, us, rs, ws, g, d, c, rfl, _⟩ := h; rfl) (body_bkNeed T n G_check_part G_check_ways G_part_needs)
abbrev BlkB (ns : List Str) := BlkG (fun x => x ∈ ns) (fun _ => False)
abbrev PartB (ns : List Str) (rs : List RowR) := PartG (fun x => x ∈ ns) (fun _ => False) rs
theorem PartG.mono {Nm : Str → Prop} {Kp : D → Prop} {rs : List RowR} {n m : Nat} {d : D} (h : PartG Nm Kp rs n d) (hn : n ≤ m) : PartG Nm Kp rs m d := h.imp (fun _ h => h) (fun _ h => h) (fun _ h => h) hn
theorem partB_toP {ns : List Str} {rs : List RowR} {ss : List (Str × Str)} (hn : ∀ x ∈ ns, isWord x = true) {n : Nat} {d : D} (h : PartB ns rs n d) : PartP ss rs n d := h.imp hn (fun _ h => h.elim) (fun _ h => h) (Nat.le_refl _)
abbrev s__law_part : Stmt := top 69
abbrev N__law_part : List Str := ["_law_tape_here", "_law_rules", "_law_names", "_law_depth", "_law_pick", "_law_blocks", "_law_place", "_law_name"]
abbrev P__law_part : List Str := ["_law_tape_here", "_law_rules", "_law_names", "_law_depth"]
theorem sc__law_part : FnScope N__law_part P__law_part (defScope s__law_part) := ⟨rfl, rfl, rfl, by decide +kernel, rfl, by decide +kernel, by decide +kernel⟩
theorem name_at {ns : List Str} {t : Int} (h0 : 0 ≤ t) (h1 : t < ns.length) : ∃ x, atI (ns.map D.str) t = some (D.str x) ∧ x ∈ ns := by
  obtain ⟨p, hp⟩ : ∃ p, ns[t.toNat]? = some p := ⟨_, List.getElem?_eq_getElem (by omega)⟩
  exact ⟨p, at_get (j := t.toNat) (by omega) (by rw [List.getElem?_map, hp]; rfl), List.mem_of_getElem? hp⟩
theorem row_at {rs : List RowR} {t : Int} (h0 : 0 ≤ t) (h1 : t < rs.length) : ∃ p, atI (rs.map rowR) t = some (rowR p) ∧ p ∈ rs := by
  obtain ⟨p, hp⟩ : ∃ p, rs[t.toNat]? = some p := ⟨_, List.getElem?_eq_getElem (by omega)⟩
  exact ⟨p, at_get (j := t.toNat) (by omega) (by rw [List.getElem?_map, hp]; rfl), List.mem_of_getElem? hp⟩
theorem take_blkG {Nm : Str → Prop} {Kp : D → Prop} {qs : List (D × D)} {ts : List (D × D × D)} {i : Nat} {q : D × D} {t : D × D × D} (hl : ts.length = i) (hq : qs[i]? = some q) (h : ∀ (j : Nat) q t, qs[j]? = some q → ts[j]? = some t → BlkG Nm Kp q t) (hb : BlkG Nm Kp q t) : ∀ (j : Nat) q' t', qs[j]? = some q' → (ts ++ [t])[j]? = some t' → BlkG Nm Kp q' t' := fun j q' t' h1 h2 => by
  rw [List.getElem?_append] at h2
  split at h2
  · exact h j q' t' h1 h2
  · rename_i c
    have hj : j - ts.length = 0 := by
      have := (List.getElem?_eq_some_iff.mp h2).1
      simp at this; omega
    rw [hj] at h2
    cases h2
    have : j = i := by omega
    subst this
    rw [hq] at h1
    cases h1
    exact hb
theorem take_blkB {ns : List Str} {qs : List (D × D)} {ts : List (D × D × D)} {i : Nat} {q : D × D} {t : D × D × D} (hl : ts.length = i) (hq : qs[i]? = some q) (h : ∀ (j : Nat) q t, qs[j]? = some q → ts[j]? = some t → BlkB ns q t) (hb : BlkB ns q t) : ∀ (j : Nat) q' t', qs[j]? = some q' → (ts ++ [t])[j]? = some t' → BlkB ns q' t' := take_blkG hl hq h hb
def F_partR (n : Nat) : FSpec := fun ds W Q _ => ∃ (rs : List RowR) (ns : List Str) (m : Nat), ds = [.tape, .lst (rs.map rowR), .lst (ns.map D.str), .int m] ∧ m ≤ n ∧ rs.length ≤ 100 ∧ (∀ p ∈ rs, p.2.1.length ≤ 3) ∧ 0 < ns.length ∧ ns.length ≤ 100 ∧ ∀ d, PartB ns rs (m + 1) d → Q d W
theorem partR_step (F : Fz K mg "_law_part" s__law_part P__law_part) (T : Txt K mg) (G__law_take : Fx P w K mg base (L2.CX P w) "_law_take" 1 P__law_take (lift K F_take)) (n : Nat) {Fs : FSpec} (G__law_part : Fx P w K mg base (L2.CX P w) "_law_part" (n + 2) P__law_part (lift K Fs)) (hG : ∀ m, n = m + 1 → ∀ ds W Q E, F_partR m ds W Q E → Fs ds W Q E) : Fx P w K mg base (L2.CX P w) "_law_part" (n + 3) P__law_part (lift K (F_partR n)) := by
  refine F.okD sc__law_part (fun ds W Q E h => ?_) (fun f cdv A outer s H E e ds Qd Ed hr lk h => ?_)
  · obtain ⟨rs, ns, m, rfl, _⟩ := h
    rfl
  · obtain ⟨rs, ns, m, rfl, hmn, hr1, hr2, hn1, hn2, k⟩ := h
    refine ⟨_, _, (pss_cons (ps_set (i := 4) sc__law_part.nd rfl (Or.inl rfl) (fcallX (takes_of rfl rfl rfl rfl) G__law_take (hr.mono (by first | decide | omega)) (by rfl) (pa_cons (pv 0) (pa_cons (pe_op (op_addU K) (pe_callB (call_lenU K) (by rfl) T.b_len PySem.boot_len (pa_cons (pv 1) pa_nil)) pe_int) pa_nil))))
      (pss_cons (ps_if (PW.pt (pw_or (pt_cmpR (op_eqU K hr.units) (pv 3) pe_int (nomark _)) (pw_or1 (pt_cmpR (op_eqU K hr.units) (pv 4) (pe_callB (call_lenU K) (by rfl) T.b_len PySem.boot_len (pa_cons (pv 1) pa_nil)) (nomark _))))) (pss_one (ps_ret (pe_ix (ix_U K (hu_of hr)) (pv 2) (fcallX (takes_of rfl rfl rfl rfl) G__law_take (hr.mono (by first | decide | omega)) (by rfl) (pa_cons (pv 0) (pa_cons (pe_callB (call_lenU K) (by rfl) T.b_len PySem.boot_len (pa_cons (pv 2) pa_nil)) pa_nil))) (fun _ _ => rfl)))) pss_nil)
      (pss_cons (setO_of (ps_set (i := 5) sc__law_part.nd rfl (Or.inl rfl) (pe_lst pa_nil)))
      (pss_cons (ps_for (passes_of rfl) rfl (pi_any K (pe_ix (ix_U K (hu_of hr)) (pe_ix (ix_U K (hu_of hr)) (pe_ix (ix_U K (hu_of hr)) (pv 1) (pv 4) (fun _ _ => rfl)) pe_int (fun _ _ => rfl)) pe_int (fun _ _ => rfl))) (pg_name (i := 6) sc__law_part.nd rfl (Or.inl rfl)) (pss_cons (ps_set (i := 7) sc__law_part.nd rfl (Or.inl rfl) pe_non)
      (pss_cons (ps_if (pt_cmpR op_notNU (pe_ix (ix_U K (hu_of hr)) (pv 6) pe_int (fun _ _ => rfl)) pe_non (nomark _)) (pss_one (ps_set (i := 7) sc__law_part.nd rfl (Or.inl rfl) (pe_ix (ix_U K (hu_of hr)) (pv 2) (fcallX (takes_of rfl rfl rfl rfl) G__law_take (hr.mono (by first | decide | omega)) (by rfl) (pa_cons (pv 0) (pa_cons (pe_callB (call_lenU K) (by rfl) T.b_len PySem.boot_len (pa_cons (pv 2) pa_nil)) pa_nil))) (fun _ _ => rfl)))) pss_nil)
      (pss_one (ps_expr (pe_bmK K PySem.F.plainAttrs_list PySem.F.slot_list_append PySem.F.type_list_append mt_append (pv 5) (pa_cons (pe_tup (pa_cons (pv 7) (pa_cons pe_non (pa_cons (fcallX (takes_of rfl rfl rfl rfl) G__law_part (hr.mono (by first | decide | omega)) (by rfl) (pa_cons (pv 0) (pa_cons (pv 1) (pa_cons (pv 2) (pa_cons (pe_op op_subU (pv 3) pe_int) pa_nil))))) pa_nil)))) pa_nil)))))))
      (pss_one (ps_ret (pe_op (op_addU K) (pe_tup (pa_cons (pe_ix (ix_U K (hu_of hr)) (pe_ix (ix_U K (hu_of hr)) (pv 1) (pv 4) (fun _ _ => rfl)) pe_int (fun _ _ => rfl)) pa_nil)) (pe_callTy (call_tuple_ofK K) (by rfl) T.b_tuple (by decide +kernel) (pa_cons (pv 5) pa_nil))))))))), inferInstance, ?_⟩
    walk_at "d"
    refine ⟨_, rfl, by rw [List.length_map]; omega, fun q q0 q1 => ?_⟩
    rw [List.length_map] at q1
    walk_at "d"
    refine iteB_by (fun c => ?_) (fun c => ?_)
    rotate_left
    walk_at "d"
    rw [List.length_map]
    refine iteB_by (fun c1 => ?_) (fun c1 => ?_)
    rotate_left
    · walk_at "d"
      obtain ⟨⟨x, qs, wd⟩, ep, hpm⟩ := row_at (rs := rs) q0 (by omega)
      rw [ep]
      unfold rowR ruleD
      walk_at "d"
      refine for_map (fun p : D × D => D.tup [p.1, p.2]) qs (fun i S => ∃ v6 v7 ts, S = ⟨[some (.val .tape), some (.val (.lst (rs.map rowR))), some (.val (.lst (ns.map D.str))), some (.val (.int m)), some (.val (.int q)), some (.ownL (ts.map blk)), v6, v7], e.W⟩ ∧ ts.length = i ∧ (∀ (j : Nat) q t, qs[j]? = some q → ts[j]? = some t → BlkB ns q t) ∧ ∀ t ∈ ts, PartB ns rs m t.2.2) ⟨_, _, [], rfl, rfl, by simp, by simp⟩ ?_ ?_
      · rintro i ⟨b, cc⟩ S hx ⟨v6, v7, ts, rfl, hl, hb, ht⟩
        have hi : i < qs.length := (List.getElem?_eq_some_iff.mp hx).1
        have q3 : qs.length ≤ 3 := hr2 _ hpm
        walk_at "d"
        refine iteB_by (fun c3 => ?_) (fun c3 => ?_)
        · walk_at "d"
          refine ⟨_, rfl, by rw [List.length_map]; omega, fun t t0 t1 => ?_⟩
          rw [List.length_map] at t1
          obtain ⟨y, ey, hy⟩ := name_at t0 t1
          walk_at "d"
          rw [ey]
          walk_at "d"
          refine hG (n - 1) (by omega) _ _ _ _ ⟨rs, ns, m - 1, ?_, by omega, hr1, hr2, hn1, hn2, fun d hd => ?_⟩
          · rw [show ((m - 1 : Nat) : Int) = (m : Int) - 1 by omega]
          · rw [show m - 1 + 1 = m by omega] at hd
            walk_at "d"
            exact ⟨by simp; omega, _, _, ts ++ [(.str y, .non, d)], by rw [List.map_append]; rfl, by simp; omega, take_blkB hl hx hb (.inr ⟨by intro z; have z : b = .non := z; rw [z] at c3; exact absurd c3 (by decide), ⟨y, rfl, hy⟩, .inl rfl⟩), fun t ht' => (List.mem_append.mp ht').elim (ht t) fun z => by rw [List.mem_singleton.mp z]; exact hd⟩
        · walk_at "d"
          refine hG (n - 1) (by omega) _ _ _ _ ⟨rs, ns, m - 1, ?_, by omega, hr1, hr2, hn1, hn2, fun d hd => ?_⟩
          · rw [show ((m - 1 : Nat) : Int) = (m : Int) - 1 by omega]
          · rw [show m - 1 + 1 = m by omega] at hd
            walk_at "d"
            exact ⟨by simp; omega, _, _, ts ++ [(.non, .non, d)], by rw [List.map_append]; rfl, by simp; omega, take_blkB hl hx hb (.inl ⟨by cases b <;> first | rfl | exact absurd rfl c3, rfl, rfl⟩), fun t ht' => (List.mem_append.mp ht').elim (ht t) fun z => by rw [List.mem_singleton.mp z]; exact hd⟩
      · rintro S ⟨v6, v7, ts, rfl, hl, hb, ht⟩
        have q3 : qs.length ≤ 3 := hr2 _ hpm
        walk_at "d"
        rw [ep]
        unfold rowR
        walk_at "d"
        exact ⟨by simp; omega, k _ (.inr (.inl ⟨_, ts, hpm, rfl, hl, hb, ht⟩))⟩
    all_goals
      walk_at "d"
      refine ⟨_, rfl, by rw [List.length_map]; omega, fun t t0 t1 => ?_⟩
      rw [List.length_map] at t1
      obtain ⟨y, ey, hy⟩ := name_at t0 t1
      walk_at "d"
      rw [ey]
      walk_at "d"
      exact k _ (.inl ⟨_, rfl, hy⟩)
theorem ok__law_partR (F : Fz K mg "_law_part" s__law_part P__law_part) (T : Txt K mg) (G : Fx P w K mg base (L2.CX P w) "_law_take" 1 P__law_take (lift K F_take)) : ∀ n : Nat, Fx P w K mg base (L2.CX P w) "_law_part" (n + 3) P__law_part (lift K (F_partR n))
  | 0 => partR_step F T G 0 (Fs := fun _ _ _ _ => False) (F.noneD fun _ _ _ _ z => z) (fun m z => by omega)
  | n + 1 => partR_step F T G (n + 1) (ok__law_partR F T G n) (fun m z => by
      have : m = n := by omega
      subst this
      exact fun _ _ _ _ h => h)
section
variable {α : Type} {g : TDG} {tt : TDT} {te : TDE} {vs : List Nat} {Q : List D → PSt → Prop} {tb : TDS} {E : DEnds} {S : PSt} {b : Addr} {od : Obj} {vk : List (Key × V)} {ks : List (Key × D)}
theorem compL_fmM (h : α → D) (f : α → Option D) : ∀ (xs : List α) {acc : List D}, S.W.ω b = some (.lk od vk ks) → acc.length + xs.length ≤ 1000000 → (∀ x ∈ xs, ∀ (N : D → PSt → Prop) (M : PSt → Prop), (∀ y, f x = some y → N y S) → (f x = none → M S) → turnD g tt te vs (h x) S N M) → Q (acc ++ xs.filterMap f) ⟨S.ρ, S.W.put b (.dct ks)⟩ → @compLB b od vk ks (xs.map h) acc S ⟨g⟩ ⟨tt⟩ ⟨te⟩ ⟨vs⟩ ⟨Q⟩
  | [], acc, hb, _, _, q => ⟨hb, by simpa using q⟩
  | x :: xs, acc, hb, hl, hs, q => by
    refine ⟨hb, fun a S' => S' = S ∧ a = acc ++ (f x).toList, ?_, hs x (by simp) (fun y S' => acc.length ≤ 999999 ∧ S' = S ∧ acc ++ [y] = acc ++ (f x).toList) (fun S' => S' = S ∧ acc = acc ++ (f x).toList) (fun y hy => ⟨by simp at hl; omega, rfl, by rw [hy]; rfl⟩) (fun hy => ⟨rfl, by rw [hy]; simp⟩)⟩
    rintro a S' ⟨e, rfl⟩
    rw [e]
    refine compL_fmM h f xs hb ?_ (fun y hy => hs y (by simp [hy])) ?_
    · cases f x <;> simp at hl ⊢ <;> omega
    · rw [List.filterMap_cons] at q
      cases c : f x with
      | none => rw [c] at q; simpa using q
      | some y => rw [c] at q; simpa using q
end
def prodA {α : Type} (vs : List α) : Nat → List (List α)
  | 0 => [[]]
  | n + 1 => (prodA vs n).flatMap fun row => vs.map fun v => row ++ [v]
theorem prodA_map {α β : Type} (f : α → β) (vs : List α) : ∀ n, prodA (vs.map f) n = (prodA vs n).map (List.map f)
  | 0 => rfl
  | n + 1 => by
    rw [prodA, prodA, prodA_map f vs n, List.flatMap_map, List.map_flatMap]
    congr 1
    funext row
    simp
theorem prodA_len {α : Type} (vs : List α) : ∀ n, (prodA vs n).length = vs.length ^ n
  | 0 => rfl
  | n + 1 => by
    rw [prodA, List.length_flatMap, Nat.pow_succ, ← prodA_len vs n]
    induction prodA vs n with
    | nil => simp
    | cons r l ih => rw [List.map_cons, List.sum_cons, ih, List.length_map, List.length_cons, Nat.add_mul]; omega
theorem mem_prodA {α : Type} {vs : List α} : ∀ {n : Nat} {row : List α}, row ∈ prodA vs n ↔ row.length = n ∧ ∀ x ∈ row, x ∈ vs
  | 0, row => by
    rw [prodA, List.mem_singleton]
    constructor
    · rintro rfl; simp
    · rintro ⟨h, _⟩; exact List.length_eq_zero_iff.mp h
  | n + 1, row => by
    rw [prodA, List.mem_flatMap]
    constructor
    · rintro ⟨r, hr, h⟩
      obtain ⟨v, hv, rfl⟩ := List.mem_map.mp h
      obtain ⟨h1, h2⟩ := mem_prodA.mp hr
      refine ⟨by simp [h1], fun x hx => ?_⟩
      rcases List.mem_append.mp hx with hx | hx
      · exact h2 x hx
      · rw [List.mem_singleton.mp hx]; exact hv
    · rintro ⟨h1, h2⟩
      have hne : row ≠ [] := fun z => by rw [z] at h1; cases h1
      refine ⟨row.dropLast, mem_prodA.mpr ⟨by rw [List.length_dropLast, h1]; rfl, fun x hx => h2 x (List.dropLast_subset _ hx)⟩, List.mem_map.mpr ⟨row.getLast hne, h2 _ (List.getLast_mem hne), List.dropLast_concat_getLast hne⟩⟩
abbrev s_rows_of : Stmt := top 49
abbrev N_rows_of : List Str := ["values", "many", "rows", "count", "row", "value"]
abbrev P_rows_of : List Str := ["values", "many"]
theorem sc_rows_of : FnScope N_rows_of P_rows_of (defScope s_rows_of) := ⟨rfl, rfl, rfl, by decide +kernel, rfl, by decide +kernel, by decide +kernel⟩
def F_rows_of : FSpec := fun ds W Q _ => ∃ (vs : List D) (n : Nat), ds = [.lst vs, .int n] ∧ vs.length ≤ 5 ∧ n ≤ 4 ∧ Q (.lst ((prodA vs n).map D.tup)) W
theorem pow_le625 {a n : Nat} (ha : a ≤ 5) (hn : n ≤ 4) : a ^ n ≤ 625 := by
  have h1 : a ^ n ≤ 5 ^ n := Nat.pow_le_pow_left ha n
  have h2 : 5 ^ n ≤ 5 ^ 4 := Nat.pow_le_pow_right (by decide) hn
  rw [show (5 : Nat) ^ 4 = 625 from rfl] at h2
  omega
theorem ok_rows_of (F : Fz K mg "rows_of" s_rows_of P_rows_of) (T : Txt K mg) : Fx P w K mg base (L2.CX P w) "rows_of" 1 P_rows_of (lift K F_rows_of) := by
  refine F.okD sc_rows_of (fun ds W Q E h => by obtain ⟨vs, n, rfl, _⟩ := h; rfl) (fun f cdv A outer s H E e ds Qd Ed hr lk h => ?_)
  obtain ⟨vs, n, rfl, hv, hn, k⟩ := h
  refine ⟨_, _, (pss_cons (ps_set (i := 2) sc_rows_of.nd rfl (Or.inl rfl) (pe_lst (pa_cons (pe_tup pa_nil) pa_nil)))
      (pss_cons (ps_for (passes_of rfl) rfl (pi_range1 (by rfl) T.b_range (pa_cons (pv 1) pa_nil)) (pg_name (i := 3) sc_rows_of.nd rfl (Or.inl rfl)) (pss_one (ps_setLc2 (i := 2) (own := [("row", 4), ("value", 5)]) (vs1 := [5]) (g := (gName 4)) (g1 := (gName 5)) (tt := tYes) (tt1 := tYes) rfl sc_rows_of.nd rfl rfl (sw_true rfl rfl rfl (by decide +kernel)) (pi_any K (pv 2)) (blkOk_by (own := [("row", 4), ("value", 5)]) (N := N_rows_of) (sc := defScope s_rows_of) (by decide +kernel)) (by decide +kernel) (fun _ _ _ _ _ => (pg_name (i := 4) sc_rows_of.nd rfl (by first | exact Or.inl rfl | exact Or.inr rfl))) (fun _ _ _ _ _ => pts_nil) (fun _ _ _ _ _ => (pi_any K (pv 0))) (fun _ _ _ _ _ => (pg_name (i := 5) sc_rows_of.nd rfl (by first | exact Or.inl rfl | exact Or.inr rfl))) (fun _ _ _ _ _ => pts_nil) (fun _ _ _ _ _ => (pe_op (op_addU K) (pv 4) (pe_tup (pa_cons (pv 5) pa_nil)))))))
      (pss_one (ps_ret (pv 2))))), inferInstance, ?_⟩
  walk_at "d"
  refine ⟨by omega, by omega, ?_⟩
  rw [show (n : Int).toNat = n by omega]
  refine for_rng (fun i S => ∃ v3, S = ⟨[some (.val (.lst vs)), some (.val (.int n)), some (.val (.lst ((prodA vs i).map D.tup))), v3, none, none], e.W⟩) ⟨_, rfl⟩ ?_ ?_
  · rintro i S hi ⟨v3, rfl⟩
    have hp := prodA_len vs (i + 1)
    have hp2 := pow_le625 hv (show i + 1 ≤ 4 by omega)
    walk_at "d"
    refine comp2_map D.tup (fun row => vs.map fun v => D.tup (row ++ [v])) (prodA vs i) ?_ (fun row hrow acc N hac h => ?_) ?_
    · rw [List.length_nil, Nat.zero_add]
      have : ((prodA vs i).flatMap fun row => vs.map fun v => D.tup (row ++ [v])) = (prodA vs (i + 1)).map D.tup := by
        rw [prodA, List.map_flatMap]
        congr 1
        funext row
        rw [List.map_map]
        rfl
      rw [this, List.length_map]
      omega
    · have hrl := (mem_prodA.mp hrow).1
      unfold turnD2
      walk_at "d"
      refine comp_lst (fun v => D.tup (row ++ [v])) (by rw [List.length_map] at hac; exact hac) (fun v hv N2 M2 h2 => ?_) ?_
      · walk_at "d"
        exact ⟨by omega, h2⟩
      exact h
    · walk_at "d"
      refine ⟨some (.val (.int (0 + (i : Int)))), ?_⟩
      rw [show ((prodA vs i).flatMap fun row => vs.map fun v => D.tup (row ++ [v])) = (prodA vs (i + 1)).map D.tup by
        rw [prodA, List.map_flatMap]
        congr 1
        funext row
        rw [List.map_map]
        rfl]
  · rintro S ⟨v3, rfl⟩
    walk_at "d"
    exact k
abbrev s__law_rows : Stmt := top 74
abbrev N__law_rows : List Str := ["_law_many", "_law_values", "_law_rows_here", "_law_count", "_law_longer", "_law_row", "_law_value"]
abbrev P__law_rows : List Str := ["_law_many", "_law_values"]
theorem sc__law_rows : FnScope N__law_rows P__law_rows (defScope s__law_rows) := ⟨rfl, rfl, rfl, by decide +kernel, rfl, by decide +kernel, by decide +kernel⟩
def F_lrows : FSpec := fun ds W Q _ => ∃ (vs : List D) (n : Nat), ds = [.int n, .lst vs] ∧ vs.length ≤ 5 ∧ n ≤ 4 ∧ Q (.lst ((prodA vs n).map D.lst)) W
theorem ok__law_rows (F : Fz K mg "_law_rows" s__law_rows P__law_rows) (T : Txt K mg) : Fx P w K mg base (L2.CX P w) "_law_rows" 1 P__law_rows (lift K F_lrows) := by
  refine F.okD sc__law_rows (fun ds W Q E h => by obtain ⟨vs, n, rfl, _⟩ := h; rfl) (fun f cdv A outer s H E e ds Qd Ed hr lk h => ?_)
  obtain ⟨vs, n, rfl, hv, hn, k⟩ := h
  refine ⟨_, _, (pss_cons (ps_set (i := 2) sc__law_rows.nd rfl (Or.inl rfl) (pe_lst (pa_cons (pe_lst pa_nil) pa_nil)))
      (pss_cons (ps_for (passes_of rfl) rfl (pi_range1 (by rfl) T.b_range (pa_cons (pv 0) pa_nil)) (pg_name (i := 3) sc__law_rows.nd rfl (Or.inl rfl)) (pss_cons (setO_of (ps_set (i := 4) sc__law_rows.nd rfl (Or.inl rfl) (pe_lst pa_nil)))
      (pss_cons (ps_for (passes_of rfl) rfl (pi_any K (pv 2)) (pg_name (i := 5) sc__law_rows.nd rfl (Or.inl rfl)) (pss_one (ps_for (passes_of rfl) rfl (pi_any K (pv 1)) (pg_name (i := 6) sc__law_rows.nd rfl (Or.inl rfl)) (pss_one (ps_expr (pe_bmK K PySem.F.plainAttrs_list PySem.F.slot_list_append PySem.F.type_list_append mt_append (pv 4) (pa_cons (pe_op (op_addU K) (pv 5) (pe_lst (pa_cons (pv 6) pa_nil))) pa_nil)))))))
      (pss_one (ps_set (i := 2) sc__law_rows.nd rfl (Or.inl rfl) (pe_callTy (call_listK K rfl) (by rfl) T.b_list (by decide +kernel) (pa_cons (pv 4) pa_nil)))))))
      (pss_one (ps_ret (pv 2))))), inferInstance, ?_⟩
  walk_at "d"
  refine ⟨by omega, by omega, ?_⟩
  rw [show (n : Int).toNat = n by omega]
  refine for_rng (fun i S => ∃ v3 v4 v5 v6, S = ⟨[some (.val (.int n)), some (.val (.lst vs)), some (.val (.lst ((prodA vs i).map D.lst))), v3, v4, v5, v6], e.W⟩) ⟨_, _, _, _, rfl⟩ ?_ ?_
  · rintro i S hi ⟨v3, v4, v5, v6, rfl⟩
    have hp := prodA_len vs (i + 1)
    have hp2 := pow_le625 hv (show i + 1 ≤ 4 by omega)
    have ep : (prodA vs (i + 1)).map D.lst = (prodA vs i).flatMap fun r => vs.map fun v => D.lst (r ++ [v]) := by
      rw [prodA, List.map_flatMap]
      congr 1
      funext row
      rw [List.map_map]
      rfl
    walk_at "d"
    refine for_map D.lst (prodA vs i) (fun j S => ∃ v5 v6, S = ⟨[some (.val (.int n)), some (.val (.lst vs)), some (.val (.lst ((prodA vs i).map D.lst))), some (.val (.int (0 + (i : Int)))), some (.ownL (((prodA vs i).take j).flatMap fun r => vs.map fun v => D.lst (r ++ [v]))), v5, v6], e.W⟩) ⟨_, _, rfl⟩ ?_ ?_
    · rintro j row S hj ⟨v5, v6, rfl⟩
      have hrl := (mem_prodA.mp (List.mem_of_getElem? hj)).1
      have es : ((prodA vs i).take (j + 1)).flatMap (fun r => vs.map fun v => D.lst (r ++ [v])) = ((prodA vs i).take j).flatMap (fun r => vs.map fun v => D.lst (r ++ [v])) ++ vs.map fun v => D.lst (row ++ [v]) := by
        rw [take_succ_get hj, List.flatMap_append]
        simp
      have hl : (((prodA vs i).take (j + 1)).flatMap (fun r => vs.map fun v => D.lst (r ++ [v]))).length ≤ 625 := by
        have h1 : (((prodA vs i).take (j + 1)).flatMap (fun r => vs.map fun v => D.lst (r ++ [v]))).length ≤ ((prodA vs i).flatMap (fun r => vs.map fun v => D.lst (r ++ [v]))).length := by
          have h0 : ((prodA vs i).flatMap (fun r => vs.map fun v => D.lst (r ++ [v]))) = ((prodA vs i).take (j + 1)).flatMap (fun r => vs.map fun v => D.lst (r ++ [v])) ++ ((prodA vs i).drop (j + 1)).flatMap (fun r => vs.map fun v => D.lst (r ++ [v])) := by rw [← List.flatMap_append, List.take_append_drop]
          rw [h0, List.length_append]
          omega
        rw [← ep, List.length_map] at h1
        omega
      rw [es] at hl ⊢
      generalize ((prodA vs i).take j).flatMap (fun r => vs.map fun v => D.lst (r ++ [v])) = acc at hl ⊢
      rw [List.length_append, List.length_map] at hl
      walk_at "d"
      refine for_lst (fun l S => ∃ v6, S = ⟨[some (.val (.int n)), some (.val (.lst vs)), some (.val (.lst ((prodA vs i).map D.lst))), some (.val (.int (0 + (i : Int)))), some (.ownL (acc ++ (vs.take l).map fun v => D.lst (row ++ [v]))), some (.val (.lst row)), v6], e.W⟩) ⟨_, by rw [List.take_zero, List.map_nil, List.append_nil]⟩ ?_ ?_
      · rintro l v S hl2 ⟨v6, rfl⟩
        have hl3 := (List.getElem?_eq_some_iff.mp hl2).1
        walk_at "d"
        refine ⟨by omega, by simp; omega, some (.val v), ?_⟩
        rw [take_succ_get hl2, List.map_append, ← List.append_assoc]
        rfl
      · rintro S ⟨v6, rfl⟩
        rw [List.take_length]
        walk_at "d"
        exact ⟨_, _, rfl⟩
    · rintro S ⟨v5, v6, rfl⟩
      rw [List.take_length, ← ep]
      walk_at "d"
      exact ⟨_, _, _, _, rfl⟩
  · rintro S ⟨v3, v4, v5, v6, rfl⟩
    walk_at "d"
    exact k
abbrev s__law_adds : Stmt := top 70
abbrev N__law_adds : List Str := ["_law_ways", "_law_differences_here", "_law_given", "_law_low", "_law_high", "_law_chosen", "_law_many", "_law_place", "_law_step"]
abbrev P__law_adds : List Str := ["_law_ways", "_law_differences_here", "_law_given"]
theorem sc__law_adds : FnScope N__law_adds P__law_adds (defScope s__law_adds) := ⟨rfl, rfl, rfl, by decide +kernel, rfl, by decide +kernel, by decide +kernel⟩
def F_addsR : FSpec := fun ds W Q _ => ∃ (a : Addr) (ys : List Wy) (df gv : List Int), ds = [.ref a, .lst (df.map D.int), .lst (gv.map D.int)] ∧ W.ω a = some (.lst (ys.map wayD)) ∧ ys ≠ [] ∧ (∀ y ∈ ys, WyS df y) ∧ (∀ y ∈ ys, manyW df gv y ≤ 98) ∧ Q (pairD (nodeN df gv ys)) W
theorem steps_sum {df : List Int} (l : List (Int × Str)) : ∀ a : Int, l.foldl (stepAdd df) a = a + ((l.filter fun p => decide (p.2 = Str.ofString "found")).map fun p => df.getD p.1.toNat 0).sum := by
  induction l with
  | nil => intro a; simp
  | cons p l ih =>
    intro a
    rw [List.foldl_cons, ih, stepAdd, List.filter_cons]
    by_cases c : p.2 = Str.ofString "found"
    · rw [if_pos c, if_pos (decide_eq_true c), List.map_cons, List.sum_cons]; omega
    · rw [if_neg c, if_neg (by simpa using c)]
theorem fm_found {df : List Int} (l : List (Int × Str)) : (l.filterMap fun p => if p.2 = Str.ofString "found" then some (D.int (df.getD p.1.toNat 0)) else none) = ((l.filter fun p => decide (p.2 = Str.ofString "found")).map fun p => df.getD p.1.toNat 0).map D.int := by
  induction l with
  | nil => rfl
  | cons p l ih =>
    rw [List.filterMap_cons, List.filter_cons, ih]
    by_cases c : p.2 = Str.ofString "found"
    · rw [if_pos c, if_pos (decide_eq_true c)]; rfl
    · rw [if_neg c, if_neg (by simpa using c)]
theorem ok__law_adds (F : Fz K mg "_law_adds" s__law_adds P__law_adds) (T : Txt K mg) : Fx P w K mg base (L2.CX P w) "_law_adds" 1 P__law_adds (lift K F_addsR) := by
  refine F.okD sc__law_adds (fun ds W Q E h => ?_) (fun f cdv A outer s H E e ds Qd Ed hr lk h => ?_)
  · obtain ⟨a, ys, df, gv, rfl, _⟩ := h
    rfl
  · obtain ⟨a, ys, df, gv, rfl, ha, h0, hy, hm, k⟩ := h
    refine ⟨_, _, (pss_cons (ps_set (i := 3) sc__law_adds.nd rfl (Or.inl rfl) pe_int)
      (pss_cons (ps_set (i := 4) sc__law_adds.nd rfl (Or.inl rfl) pe_int)
      (pss_cons (ps_for (passes_of rfl) rfl (pi_ref K (pv 0)) (pg_name (i := 5) sc__law_adds.nd rfl (Or.inl rfl)) (pss_cons (ps_set (i := 6) sc__law_adds.nd rfl (Or.inl rfl) (pe_callB (call_lenU K) (by rfl) T.b_len PySem.boot_len (pa_cons (pe_lc (own := [("_law_place", 7)]) (g := (gName 7))  rfl sc__law_adds.nd (pi_any K (pe_ix (ix_U K (hu_of hr)) (pv 5) pe_int (fun _ _ => rfl))) (blkOk_by (own := [("_law_place", 7)]) (N := N__law_adds) (sc := defScope s__law_adds) (by decide +kernel)) (fun _ _ _ _ _ => (pg_name (i := 7) sc__law_adds.nd rfl (by first | exact Or.inl rfl | exact Or.inr rfl))) (fun _ _ _ _ _ => (pts_one (pt_cmpR (op_notInU K (hu65_of hr)) (pv 7) (pv 2) (by rfl)))) (fun _ _ _ _ _ => (pv 7))) pa_nil)))
      (pss_cons (ps_set (i := 6) sc__law_adds.nd rfl (Or.inl rfl) (pe_op (op_addU K) (pv 6) (pe_callB (cr_sumK K rfl) (by rfl) T.b_sum (by decide +kernel) (pa_cons (pe_lc (own := [("_law_step", 8)]) (g := (gName 8))  rfl sc__law_adds.nd (pi_any K (pe_ix (ix_U K (hu_of hr)) (pv 5) pe_int (fun _ _ => rfl))) (blkOk_by (own := [("_law_step", 8)]) (N := N__law_adds) (sc := defScope s__law_adds) (by decide +kernel)) (fun _ _ _ _ _ => (pg_name (i := 8) sc__law_adds.nd rfl (by first | exact Or.inl rfl | exact Or.inr rfl))) (fun _ _ _ _ _ => (pts_one (pt_cmpR (op_eqU K hr.units) (pe_ix (ix_U K (hu_of hr)) (pv 8) pe_int (fun _ _ => rfl)) pe_str (nomark _)))) (fun _ _ _ _ _ => (pe_ix (ix_U K (hu_of hr)) (pv 1) (pe_ix (ix_U K (hu_of hr)) (pv 8) pe_int (fun _ _ => rfl)) (fun _ _ => rfl)))) pa_nil))))
      (pss_cons (ps_set (i := 3) sc__law_adds.nd rfl (Or.inl rfl) (pe_callB (call_min2U rfl) (by rfl) T.b_min (by decide +kernel) (pa_cons (pv 3) (pa_cons (pe_callTy call_intU (by rfl) T.b_int (by decide +kernel) (pa_cons (pv 6) pa_nil)) pa_nil))))
      (pss_one (ps_if (pt_cmpR (op_eqU K hr.units) (pe_ix (ix_U K (hu_of hr)) (pv 5) pe_int (fun _ _ => rfl)) pe_str (nomark _)) (pss_one (ps_set (i := 4) sc__law_adds.nd rfl (Or.inl rfl) (pe_callB (call_min2U rfl) (by rfl) T.b_min (by decide +kernel) (pa_cons (pv 4) (pa_cons (pe_callTy call_intU (by rfl) T.b_int (by decide +kernel) (pa_cons (pv 6) pa_nil)) pa_nil))))) pss_nil))))))
      (pss_one (ps_ret (pe_tup (pa_cons (pv 3) (pa_cons (pe_callB (call_min2U rfl) (by rfl) T.b_min (by decide +kernel) (pa_cons (pv 4) (pa_cons (pe_callTy call_intU (by rfl) T.b_int (by decide +kernel) (pa_cons (pe_op (op_addU K) (pv 3) pe_int) pa_nil)) pa_nil))) pa_nil)))))))), inferInstance, ?_⟩
    rw [need_eq h0 hm] at k
    unfold pairD at k
    walk_at "d"
    refine refB_at ha ?_
    walk_at "d"
    refine forR_ix (fun i S => ∃ v5 v6 v7 v8, S = ⟨[some (.val (.ref a)), some (.val (.lst (df.map D.int))), some (.val (.lst (gv.map D.int))), some (.val (.int (lowL df gv (ys.take i)))), some (.val (.int (highL df gv (ys.take i)))), v5, v6, v7, v8], e.W⟩) ⟨_, _, _, _, rfl⟩ (fun i S h => by obtain ⟨v5, v6, v7, v8, rfl⟩ := h; exact ha) ?_ ?_
    · rintro i y0 S hi0 ⟨v5, v6, v7, v8, rfl⟩
      rw [List.getElem?_map] at hi0
      obtain ⟨y, hi, rfl⟩ := Option.map_eq_some_iff.mp hi0
      have hs := hy y (List.mem_of_getElem? hi)
      have e1 : lowL df gv (ys.take (i + 1)) = min (lowL df gv (ys.take i)) (manyW df gv y) := by
        unfold lowL
        rw [take_succ_get hi, List.foldl_append]; rfl
      have e2 : highL df gv (ys.take (i + 1)) = if y.wh = Str.ofString "found" then min (highL df gv (ys.take i)) (manyW df gv y) else highL df gv (ys.take i) := by
        unfold highL
        rw [take_succ_get hi, List.foldl_append]; rfl
      rw [e1, e2]
      generalize lowL df gv (ys.take i) = lo
      generalize highL df gv (ys.take i) = hh
      unfold wayD
      walk_at "d"
      refine comp_fmM D.int (fun z => if z ∈ gv then none else some (D.int z)) y.nt (by have := hs.ln; simp; omega) (fun z hz N M h1 h2 => ?_) ?_
      · walk_at "d"
        refine ⟨⟨false, .inl ⟨rfl, by rw [List.all_eq_true]; intro d hd; obtain ⟨x, _, rfl⟩ := List.mem_map.mp hd; rfl⟩⟩, ?_⟩
        refine iteB_by (fun c => ?_) (fun c => ?_)
        · walk_at "d"
          rw [int_mem] at c
          exact h1 _ (if_neg c)
        · rw [int_mem, Decidable.not_not] at c
          exact h2 (if_pos c)
      · walk_at "d"
        rw [fm_len]
        refine comp_fmM stpD (fun p => if p.2 = Str.ofString "found" then some (D.int (df.getD p.1.toNat 0)) else none) y.st (by have := hs.ls; simp; omega) (fun p hp N M h1 h2 => ?_) ?_
        · obtain ⟨hq0, hql⟩ := hs.st p hp
          unfold stpD
          walk_at "d"
          refine iteB_by (fun c => ?_) (fun c => ?_)
          · walk_at "d"
            rw [at_get (j := p.1.toNat) (by omega) (show (df.map D.int)[p.1.toNat]? = some (.int (df.getD p.1.toNat 0)) by rw [List.getElem?_map, List.getD_eq_getElem?_getD, List.getElem?_eq_getElem hql]; rfl)]
            walk_at "d"
            exact h1 _ (if_pos c)
          · exact h2 (if_neg c)
        · walk_at "d"
          rw [fm_found, nts_map]
          walk_at "d"
          rw [← steps_sum]
          rw [show y.st.foldl (stepAdd df) ((y.nt.filter fun k => decide (k ∉ gv)).length : Int) = manyW df gv y from rfl]
          refine iteB_by (fun c => ?_) (fun c => ?_)
          · rw [if_pos c]
            walk_at "d"
            exact ⟨_, _, _, _, rfl⟩
          · rw [if_neg c]
            walk_at "d"
            exact ⟨_, _, _, _, rfl⟩
    · rintro S ⟨v5, v6, v7, v8, rfl⟩
      rw [List.length_map, List.take_length]
      walk_at "d"
      exact k
theorem minO_le (a : Option Int) (m : Int) : ∃ z, minO a m = some z ∧ z ≤ m ∧ ∀ b, a = some b → z ≤ b := by
  cases a with
  | none => exact ⟨m, rfl, Int.le_refl _, fun b h => by cases h⟩
  | some a =>
    by_cases c : m < a
    · exact ⟨m, if_pos c, Int.le_refl _, fun b h => by cases h; omega⟩
    · exact ⟨a, if_neg c, by omega, fun b h => by cases h; omega⟩
theorem minO_eq {a : Option Int} {m x : Int} (h : minO a m = some x) : x = m ∨ a = some x := by
  cases a with
  | none => cases h; exact .inl rfl
  | some a =>
    have h : (if m < a then some m else some a) = some x := h
    split at h
    · cases h; exact .inl rfl
    · exact .inr h
theorem told_found {df gv : List Int} : ∀ (ys : List Wy) (a c : Option Int), (∀ x, c = some x → ∃ y, a = some y ∧ y ≤ x) → ∀ x, ys.foldl (fun a y => if y.wh = Str.ofString "found" then minO a (manyW df gv y) else a) c = some x → ∃ y, ys.foldl (fun a y => minO a (manyW df gv y)) a = some y ∧ y ≤ x
  | [], a, c, h => h
  | y :: ys, a, c, h => by
    rw [List.foldl_cons, List.foldl_cons]
    refine told_found ys _ _ fun x hx => ?_
    obtain ⟨z, e, z1, z2⟩ := minO_le a (manyW df gv y)
    refine ⟨z, e, ?_⟩
    split at hx
    · rcases minO_eq hx with rfl | hx
      · exact z1
      · obtain ⟨b, hb, hl⟩ := h x hx
        have := z2 b hb
        omega
    · obtain ⟨b, hb, hl⟩ := h x hx
      have := z2 b hb
      omega
theorem nodeN_diff {df gv : List Int} {ys : List Wy} (h0 : ys ≠ []) : (nodeN df gv ys).1 ≤ (nodeN df gv ys).2 ∧ (nodeN df gv ys).2 ≤ (nodeN df gv ys).1 + 1 := by
  obtain ⟨b, hb⟩ := told_some (df := df) (gv := gv) ys none (.inr h0)
  have hb : toldO df gv ys = some b := hb
  have h := told_found (df := df) (gv := gv) ys none none (fun x h => by cases h)
  unfold nodeN
  rw [hb]
  cases hf : foundO df gv ys with
  | none => exact ⟨by show b ≤ b + 1; omega, by show b + 1 ≤ b + 1; omega⟩
  | some f =>
    obtain ⟨y, hy, hl⟩ := h f hf
    have hy : toldO df gv ys = some y := hy
    rw [hb] at hy
    cases hy
    show b ≤ (if b + 1 < f then b + 1 else f) ∧ (if b + 1 < f then b + 1 else f) ≤ b + 1
    split <;> omega
theorem stepAdd_le {df : List Int} (hd : ∀ i, df.getD i 0 ≤ 1) (l : List (Int × Str)) : ∀ a : Int, l.foldl (stepAdd df) a ≤ a + l.length := by
  induction l with
  | nil => intro a; simp
  | cons p l ih =>
    intro a
    rw [List.foldl_cons, List.length_cons]
    have h1 := ih (stepAdd df a p)
    have h2 : stepAdd df a p ≤ a + 1 := by
      unfold stepAdd
      have := hd p.1.toNat
      split <;> omega
    omega
theorem manyW_le {df gv : List Int} {y : Wy} (hd : ∀ i, df.getD i 0 ≤ 1) : manyW df gv y ≤ y.nt.length + y.st.length := by
  have h1 := stepAdd_le hd y.st ((y.nt.filter fun k => decide (k ∉ gv)).length : Int)
  have h2 := List.length_filter_le (fun k => decide (k ∉ gv)) y.nt
  unfold manyW
  omega
abbrev dif1 (ys : List Wy) (r : List Int) : Int := (nodeN r [] ys).2 - (nodeN r [] ys).1
def Wy3 (n : Nat) (ys : List Wy) : Prop := ys ≠ [] ∧ ∀ y ∈ ys, y.nt.length ≤ 3 ∧ y.st.length ≤ 3 ∧ ∀ q ∈ y.st, 0 ≤ q.1 ∧ q.1.toNat < n
theorem Wy3.wyS {n : Nat} {ys : List Wy} {r : List Int} (h : Wy3 n ys) (hr : r.length = n) : ∀ y ∈ ys, WyS r y := fun y hy => by
  obtain ⟨h1, h2, h3⟩ := h.2 y hy
  exact ⟨by omega, by omega, fun q hq => by rw [hr]; exact h3 q hq⟩
theorem giv_bare {ts : List (D × D × D)} (h : ∀ t ∈ ts, t.2.1 = .non) : givD (ts.map blk) = [] := by
  unfold givD
  rw [List.map_eq_nil_iff, List.filter_eq_nil_iff]
  intro i hi
  have hi := List.mem_range.mp hi
  rw [List.length_map] at hi
  have e : (ts.map blk).getD i .non = blk ts[i] := by rw [List.getD_eq_getElem?_getD, List.getElem?_map, List.getElem?_eq_getElem hi]; rfl
  rw [e, show rmD (blk ts[i]) = (ts[i]).2.1 from rfl, h _ (List.getElem_mem hi)]
  exact fun z => by cases z
theorem blkB_bare {ns : List Str} {ts : List (D × D × D)} {qs : List (D × D)} (hl : ts.length = qs.length) (hb : ∀ (i : Nat) q t, qs[i]? = some q → ts[i]? = some t → BlkB ns q t) : ∀ t ∈ ts, t.2.1 = .non := fun t ht => by
  obtain ⟨i, hi, rfl⟩ := List.mem_iff_getElem.mp ht
  rcases hb i qs[i] ts[i] (List.getElem?_eq_getElem (by omega)) (List.getElem?_eq_getElem hi) with ⟨_, _, z⟩ | ⟨_, _, z⟩
  · exact z
  · exact z.elim id fun z => z.elim
theorem need_bare {g : Str → List Wy} {n : Nat} {p : RowR} {ts : List (D × D × D)} (hw : isWord p.1 = true) (h : ∀ t ∈ ts, t.2.1 = .non) : needP g (n + 1) (.tup (.str p.1 :: ts.map blk)) = upN (ts.map fun t => needP g n t.2.2) [] (g p.1) := by
  rw [needP, node_noted hw, giv_bare h, List.map_map]
  rfl
theorem upN_dif {l : List (Int × Int)} {ys : List Wy} : (upN l [] ys).2 - (upN l [] ys).1 = dif1 ys (l.map fun p => p.2 - p.1) := by
  unfold upN dif1
  dsimp only
  omega
section
variable {g : Str → List Wy} {rs : List RowR} {ns : List Str}
theorem needP_mono (wd : ∀ p ∈ rs, isWord p.1 = true) : ∀ {n m : Nat} {d : D}, PartB ns rs n d → n ≤ m → needP g m d = needP g n d
  | n + 1, m + 1, d, hp, h => by
    rcases hp with ⟨x, rfl, hx⟩ | ⟨p, ts, hpm, rfl, hl, hb, ht⟩ | ⟨d', kd, rfl, hp, hn, hk⟩
    · rfl
    · rw [need_bare (wd p hpm) (blkB_bare hl hb), need_bare (wd p hpm) (blkB_bare hl hb)]
      congr 1
      exact List.map_congr_left fun t h4 => needP_mono wd (ht t h4) (by omega)
    · exact hk.elim
  | n + 1, 0, _, _, h => by omega
end
theorem Wy3.many {n : Nat} {ys : List Wy} {r gv : List Int} (h : Wy3 n ys) (hr : ∀ v ∈ r, v ≤ 1) : ∀ y ∈ ys, manyW r gv y ≤ 98 := fun y hy => by
  obtain ⟨h1, h2, h3⟩ := h.2 y hy
  have := manyW_le (df := r) (gv := gv) (y := y) fun i => by
    rw [List.getD_eq_getElem?_getD]
    cases e : r[i]? with
    | none => decide
    | some v => exact hr v (List.mem_of_getElem? e)
  omega
abbrev s__law_differences : Stmt := top 75
abbrev N__law_differences : List Str := ["_law_ways", "_law_many", "_law_values", "_law_found", "_law_row", "_law_pair"]
abbrev P__law_differences : List Str := ["_law_ways", "_law_many", "_law_values"]
theorem sc__law_differences : FnScope N__law_differences P__law_differences (defScope s__law_differences) := ⟨rfl, rfl, rfl, by decide +kernel, rfl, by decide +kernel, by decide +kernel⟩
def F_ldif : FSpec := fun ds W Q _ => ∃ (a : Addr) (ys : List Wy) (n : Nat) (vs : List Int), ds = [.ref a, .int n, .lst (vs.map D.int)] ∧ W.ω a = some (.lst (ys.map wayD)) ∧ Wy3 n ys ∧ n ≤ 3 ∧ vs.length ≤ 2 ∧ (∀ v ∈ vs, v ≤ 1) ∧ Q (.lst ((prodA vs n).map fun r => .tup [.int (dif1 ys r), .lst (r.map D.int)])) W
theorem ok__law_differences (F : Fz K mg "_law_differences" s__law_differences P__law_differences) (T : Txt K mg) (G__law_rows : Fx P w K mg base (L2.CX P w) "_law_rows" 1 P__law_rows (lift K F_lrows)) (G__law_adds : Fx P w K mg base (L2.CX P w) "_law_adds" 1 P__law_adds (lift K F_addsR)) : Fx P w K mg base (L2.CX P w) "_law_differences" 2 P__law_differences (lift K F_ldif) := by
  refine F.okD sc__law_differences (fun ds W Q E h => by obtain ⟨a, ys, n, vs, rfl, _⟩ := h; rfl) (fun f cdv A outer s H E e ds Qd Ed hr lk h => ?_)
  obtain ⟨a, ys, n, vs, rfl, ha, hy, hn, hv, hv1, k⟩ := h
  refine ⟨_, _, (pss_cons (setO_of (ps_set (i := 3) sc__law_differences.nd rfl (Or.inl rfl) (pe_lst pa_nil)))
      (pss_cons (ps_for (passes_of rfl) rfl (pi_any K (fcallX (takes_of rfl rfl rfl rfl) G__law_rows (hr.mono (by first | decide | omega)) (by rfl) (pa_cons (pv 1) (pa_cons (pv 2) pa_nil)))) (pg_name (i := 4) sc__law_differences.nd rfl (Or.inl rfl)) (pss_cons (ps_set (i := 5) sc__law_differences.nd rfl (Or.inl rfl) (fcallX (takes_of rfl rfl rfl rfl) G__law_adds (hr.mono (by first | decide | omega)) (by rfl) (pa_cons (pv 0) (pa_cons (pv 4) (pa_cons (pe_lst pa_nil) pa_nil)))))
      (pss_one (ps_expr (pe_bmK K PySem.F.plainAttrs_list PySem.F.slot_list_append PySem.F.type_list_append mt_append (pv 3) (pa_cons (pe_tup (pa_cons (pe_op op_subU (pe_ix (ix_U K (hu_of hr)) (pv 5) pe_int (fun _ _ => rfl)) (pe_ix (ix_U K (hu_of hr)) (pv 5) pe_int (fun _ _ => rfl))) (pa_cons (pv 4) pa_nil))) pa_nil))))))
      (pss_one (ps_ret (pv 3))))), inferInstance, ?_⟩
  walk_at "d"
  refine ⟨vs.map D.int, n, rfl, by simp; omega, by omega, ?_⟩
  rw [prodA_map, List.map_map]
  walk_at "d"
  have hp := prodA_len vs n
  have hp2 := pow_le625 (show vs.length ≤ 5 by omega) (show n ≤ 4 by omega)
  refine for_map (D.lst ∘ List.map D.int) (prodA vs n) (fun i S => ∃ v4 v5, S = ⟨[some (.val (.ref a)), some (.val (.int n)), some (.val (.lst (vs.map D.int))), some (.ownL (((prodA vs n).take i).map fun r => .tup [.int (dif1 ys r), .lst (r.map D.int)])), v4, v5], e.W⟩) ⟨_, _, rfl⟩ ?_ ?_
  · rintro i r S hi ⟨v4, v5, rfl⟩
    obtain ⟨h1, h2⟩ := mem_prodA.mp (List.mem_of_getElem? hi)
    have h3 := (List.getElem?_eq_some_iff.mp hi).1
    rw [take_succ_get hi, List.map_append]
    rw [show (D.lst ∘ List.map D.int) r = D.lst (r.map D.int) from rfl]
    walk_at "d"
    refine ⟨a, ys, r, [], rfl, ha, hy.1, hy.wyS h1, hy.many fun v hv => hv1 v (h2 v hv), ?_⟩
    unfold pairD
    walk_at "d"
    exact ⟨by simp; omega, _, _, rfl⟩
  · rintro S ⟨v4, v5, rfl⟩
    rw [List.take_length]
    walk_at "d"
    exact k
abbrev s__law_node : Stmt := top 76
abbrev N__law_node : List Str := ["_law_one", "_law_sign", "_law_row", "_law_loud", "_law_blocks", "_law_k", "_law_name"]
abbrev P__law_node : List Str := ["_law_one", "_law_sign", "_law_row", "_law_loud"]
theorem sc__law_node : FnScope N__law_node P__law_node (defScope s__law_node) := ⟨rfl, rfl, rfl, by decide +kernel, rfl, by decide +kernel, by decide +kernel⟩
def tsL (qs : List (D × D)) (r : List Int) (L : D) : List (D × D × D) := (List.range qs.length).map fun i => (if isN (qs.getD i (.non, .non)).1 then .non else .str "y", .non, if r.getD i 0 = 1 then L else .str "x")
def nodeL (qs : List (D × D)) (x : Str) (r : List Int) (L : D) : D := .tup (.str x :: (tsL qs r L).map blk)
def F_lnode : FSpec := fun ds W Q _ => ∃ (qs : List (D × D)) (wd L : D) (x : Str) (r : List Int), ds = [ruleD qs wd, .str x, .lst (r.map D.int), L] ∧ qs.length ≤ 3 ∧ r.length = qs.length ∧ (∀ v ∈ r, v = 0 ∨ v = 1) ∧ Q (nodeL qs x r L) W
theorem ok__law_node (F : Fz K mg "_law_node" s__law_node P__law_node) (T : Txt K mg) : Fx P w K mg base (L2.CX P w) "_law_node" 1 P__law_node (lift K F_lnode) := by
  refine F.okD sc__law_node (fun ds W Q E h => by obtain ⟨qs, wd, L, x, r, rfl, _⟩ := h; rfl) (fun f cdv A outer s H E e ds Qd Ed hr lk h => ?_)
  obtain ⟨qs, wd, L, x, r, rfl, hq, hrl, hv, k⟩ := h
  refine ⟨_, _, (pss_cons (setO_of (ps_set (i := 4) sc__law_node.nd rfl (Or.inl rfl) (pe_lst pa_nil)))
      (pss_cons (ps_for (passes_of rfl) rfl (pi_range1 (by rfl) T.b_range (pa_cons (pe_callB (call_lenU K) (by rfl) T.b_len PySem.boot_len (pa_cons (pe_ix (ix_U K (hu_of hr)) (pv 0) pe_int (fun _ _ => rfl)) pa_nil)) pa_nil)) (pg_name (i := 5) sc__law_node.nd rfl (Or.inl rfl)) (pss_cons (ps_set (i := 6) sc__law_node.nd rfl (Or.inl rfl) pe_non)
      (pss_cons (ps_if (pt_cmpR op_notNU (pe_ix (ix_U K (hu_of hr)) (pe_ix (ix_U K (hu_of hr)) (pe_ix (ix_U K (hu_of hr)) (pv 0) pe_int (fun _ _ => rfl)) (pv 5) (fun _ _ => rfl)) pe_int (fun _ _ => rfl)) pe_non (nomark _)) (pss_one (ps_set (i := 6) sc__law_node.nd rfl (Or.inl rfl) pe_str)) pss_nil)
      (pss_one (ps_expr (pe_bmK K PySem.F.plainAttrs_list PySem.F.slot_list_append PySem.F.type_list_append mt_append (pv 4) (pa_cons (pe_tup (pa_cons (pv 6) (pa_cons pe_non (pa_cons (pe_ix (ix_U K (hu_of hr)) (pe_lst (pa_cons pe_str (pa_cons (pv 3) pa_nil))) (pe_ix (ix_U K (hu_of hr)) (pv 2) (pv 5) (fun _ _ => rfl)) (fun _ _ => rfl)) pa_nil)))) pa_nil)))))))
      (pss_one (ps_ret (pe_op (op_addU K) (pe_tup (pa_cons (pv 1) pa_nil)) (pe_callTy (call_tuple_ofK K) (by rfl) T.b_tuple (by decide +kernel) (pa_cons (pv 4) pa_nil))))))), inferInstance, ?_⟩
  unfold ruleD
  walk_at "d"
  rw [List.length_map]
  refine ⟨by omega, by omega, ?_⟩
  rw [show (qs.length : Int).toNat = qs.length by omega]
  refine for_rng (fun i S => ∃ v5 v6, S = ⟨[some (.val (.tup [.tup (qs.map fun q => .tup [q.1, q.2]), wd])), some (.val (.str x)), some (.val (.lst (r.map D.int))), some (.val L), some (.ownL (((tsL qs r L).take i).map blk)), v5, v6], e.W⟩) ⟨_, _, rfl⟩ ?_ ?_
  · rintro i S hi ⟨v5, v6, rfl⟩
    obtain ⟨q, hq2⟩ : ∃ q, qs[i]? = some q := ⟨_, List.getElem?_eq_getElem hi⟩
    have eq : (qs.map fun q => D.tup [q.1, q.2])[i]? = some (.tup [q.1, q.2]) := by rw [List.getElem?_map, hq2]; rfl
    have er : (r.map D.int)[i]? = some (.int (r.getD i 0)) := by rw [List.getElem?_map, List.getD_eq_getElem?_getD, List.getElem?_eq_getElem (by omega)]; rfl
    have hv2 : r.getD i 0 = 0 ∨ r.getD i 0 = 1 := hv _ (by rw [List.getD_eq_getElem?_getD, List.getElem?_eq_getElem (by omega)]; exact List.getElem_mem _)
    have ets : (tsL qs r L)[i]? = some (if isN q.1 then .non else .str "y", .non, if r.getD i 0 = 1 then L else .str "x") := by
      rw [tsL, List.getElem?_map, List.getElem?_range hi, Option.map_some, List.getD_eq_getElem?_getD, hq2]; rfl
    rw [take_succ_get ets, List.map_append]
    have lts : ((tsL qs r L).take i).length ≤ 3 := by simp [tsL]; omega
    generalize (tsL qs r L).take i = tk at lts ⊢
    generalize r.getD i 0 = z at er hv2 ⊢
    walk_at "d"
    rw [at_get (j := i) (by omega) eq]
    walk_at "d"
    refine iteB_by (fun c => ?_) (fun c => ?_)
    · have c : isN q.1 = false := c
      walk_at "d"
      rw [at_get (j := i) (by omega) er]
      walk_at "d"
      rw [if_neg (by rw [c]; exact Bool.noConfusion)]
      rcases hv2 with rfl | rfl
      · walk_at "d"
        exact ⟨by simp; omega, _, _, rfl⟩
      · walk_at "d"
        exact ⟨by simp; omega, _, _, rfl⟩
    · have c : isN q.1 = true := Bool.not_eq_false _ ▸ c
      walk_at "d"
      rw [at_get (j := i) (by omega) er]
      walk_at "d"
      rw [if_pos c]
      rcases hv2 with rfl | rfl
      · walk_at "d"
        exact ⟨by simp; omega, _, _, rfl⟩
      · walk_at "d"
        exact ⟨by simp; omega, _, _, rfl⟩
  · rintro S ⟨v5, v6, rfl⟩
    rw [List.take_of_length_le (by simp [tsL])]
    walk_at "d"
    exact ⟨by simp [tsL]; omega, k⟩
def zerosI (n : Nat) : List Int := List.replicate n 0
def isLd (g : Str → List Wy) (p : RowR) : Bool := decide (dif1 (g p.1) (zerosI p.2.1.length) = 1)
def loudP (g : Str → List Wy) (rs : List RowR) : Option RowR := rs.find? (isLd g)
def loudD (g : Str → List Wy) (rs : List RowR) : D := match loudP g rs with
  | none => .non
  | some p => nodeL p.2.1 p.1 (zerosI p.2.1.length) (.str "x")
def knownI (g : Str → List Wy) (rs : List RowR) : List Int := if (loudP g rs).isNone then [0] else [0, 1]
def isQt (g : Str → List Wy) (rs : List RowR) (p : RowR) : Bool := (prodA (knownI g rs) p.2.1.length).all fun r => !decide (dif1 (g p.1) r = 1)
def quietL (g : Str → List Wy) (rs : List RowR) : List Str := (rs.filter (isQt g rs)).map (·.1)
theorem prodA_one {α : Type} (v : α) : ∀ n, prodA [v] n = [List.replicate n v]
  | 0 => rfl
  | n + 1 => by rw [prodA, prodA_one v n]; simp [List.replicate_succ']
theorem known_01 {g : Str → List Wy} {rs : List RowR} : (0 : Int) ∈ knownI g rs ∧ ∀ v ∈ knownI g rs, v = 0 ∨ v = 1 := by
  unfold knownI
  split <;> simp
theorem known_1 {g : Str → List Wy} {rs : List RowR} (h : (1 : Int) ∈ knownI g rs) : ∃ p ∈ rs, loudP g rs = some p ∧ isLd g p = true := by
  unfold knownI at h
  cases c : loudP g rs with
  | none => rw [c] at h; simp at h
  | some p => exact ⟨p, List.mem_of_find?_eq_some c, rfl, List.find?_some c⟩
theorem zeros_01 {n : Nat} : (zerosI n).length = n ∧ ∀ v ∈ zerosI n, v = 0 := by
  unfold zerosI
  exact ⟨List.length_replicate, fun v hv => (List.mem_replicate.mp hv).2⟩
theorem of_zeros {r : List Int} {n : Nat} (hl : r.length = n) (h : ∀ v ∈ r, v = 0) : r = zerosI n := by
  rw [← hl]
  exact List.eq_replicate_of_mem h
section
variable {g : Str → List Wy} {rs : List RowR} {ns : List Str}
theorem dif_known (hg : ∀ p ∈ rs, g p.1 ≠ []) (wd : ∀ p ∈ rs, isWord p.1 = true) : ∀ {n : Nat} {d : D}, PartB ns rs n d → (needP g n d).2 - (needP g n d).1 ∈ knownI g rs
  | n + 1, d, hp => by
    rcases hp with ⟨x, rfl, hx⟩ | ⟨p, ts, hpm, rfl, hl, hb, hq⟩ | ⟨d', kd, rfl, hp, hn, hk⟩
    · exact known_01.1
    · rw [need_bare (wd p hpm) (blkB_bare hl hb), upN_dif]
      have hm : ∀ v ∈ (ts.map fun t => needP g n t.2.2).map (fun p => p.2 - p.1), v ∈ knownI g rs := fun v hv => by
        rw [List.map_map] at hv
        obtain ⟨t, ht, rfl⟩ := List.mem_map.mp hv
        exact dif_known hg wd (hq t ht)
      have hd := nodeN_diff (df := (ts.map fun t => needP g n t.2.2).map fun p => p.2 - p.1) (gv := []) (hg p hpm)
      have h01 : dif1 (g p.1) ((ts.map fun t => needP g n t.2.2).map fun p => p.2 - p.1) = 0 ∨ dif1 (g p.1) ((ts.map fun t => needP g n t.2.2).map fun p => p.2 - p.1) = 1 := by
        unfold dif1; omega
      rcases h01 with h | h
      · rw [h]; exact known_01.1
      · cases c : loudP g rs with
        | none =>
          exfalso
          have hz : ∀ v ∈ (ts.map fun t => needP g n t.2.2).map (fun p => p.2 - p.1), v = 0 := fun v hv => by
            have := hm v hv
            unfold knownI at this
            rw [c] at this
            simpa using this
          have e := of_zeros (n := p.2.1.length) (by simp [hl]) hz
          rw [e] at h
          have := List.find?_eq_none.mp c p hpm
          exact this (decide_eq_true h)
        | some q =>
          rw [h]
          unfold knownI
          rw [c]
          simp
    · exact hk.elim
theorem quiet_zero (hg : ∀ p ∈ rs, g p.1 ≠ []) (wd : ∀ p ∈ rs, isWord p.1 = true) (nd : (rs.map (·.1)).Nodup) {n : Nat} {x : Str} {bs : List D} (hp : PartB ns rs n (.tup (.str x :: bs))) (hx : x ∈ quietL g rs) : (needP g n (.tup (.str x :: bs))).2 = (needP g n (.tup (.str x :: bs))).1 := by
  match n, hp with
  | n + 1, .inl ⟨x, e, hx⟩ => cases e
  | n + 1, .inr (.inl ⟨p, ts, hpm, e, hl, hb, hq⟩) =>
    injection e with e
    injection e with e1 e2
    injection e1 with e1
    subst e1 e2
    unfold quietL at hx
    obtain ⟨q, hq1, hq2⟩ := List.mem_map.mp hx
    obtain ⟨hq3, hq4⟩ := List.mem_filter.mp hq1
    have epq : q = p := by
      obtain ⟨i, hi, rfl⟩ := List.mem_iff_getElem.mp hq3
      obtain ⟨j, hj, rfl⟩ := List.mem_iff_getElem.mp hpm
      have : i = j := by
        rcases Nat.lt_trichotomy i j with h | h | h
        · exact absurd (by rw [List.getElem_map, List.getElem_map]; exact hq2) (List.pairwise_iff_getElem.mp nd i j (by simpa using hi) (by simpa using hj) h)
        · exact h
        · exact absurd (by rw [List.getElem_map, List.getElem_map]; exact hq2.symm) (List.pairwise_iff_getElem.mp nd j i (by simpa using hj) (by simpa using hi) h)
      subst this
      rfl
    subst epq
    rw [need_bare (wd q hpm) (blkB_bare hl hb)]
    have hm : (ts.map fun t => needP g n t.2.2).map (fun p => p.2 - p.1) ∈ prodA (knownI g rs) q.2.1.length := mem_prodA.mpr ⟨by simp [hl], fun v hv => by
      rw [List.map_map] at hv
      obtain ⟨t, ht, rfl⟩ := List.mem_map.mp hv
      exact dif_known hg wd (hq t ht)⟩
    have h1 := List.all_eq_true.mp hq4 _ hm
    have h1 : ¬ dif1 (g q.1) ((ts.map fun t => needP g n t.2.2).map fun p => p.2 - p.1) = 1 := by simpa using h1
    have hd := nodeN_diff (df := (ts.map fun t => needP g n t.2.2).map fun p => p.2 - p.1) (gv := []) (hg q hpm)
    have hu := upN_dif (l := ts.map fun t => needP g n t.2.2) (ys := g q.1)
    unfold dif1 at h1 hu
    omega
  | n + 1, .inr (.inr ⟨d', kd, e, hp, hn, hk⟩) => exact hk.elim
def SubQ (ns : List Str) (rs : List RowR) : List Int → Nat → D → D → Prop
  | [], n, d, e => e = d ∧ PartB ns rs n d ∧ ∃ x bs, d = .tup (.str x :: bs)
  | k :: ks, n + 1, d, e => ∃ (p : RowR) (ts : List (D × D × D)) (i : Nat) (t : D × D × D), p ∈ rs ∧ d = .tup (.str p.1 :: ts.map blk) ∧ ts.length = p.2.1.length ∧ (∀ (i : Nat) q t, p.2.1[i]? = some q → ts[i]? = some t → BlkB ns q t) ∧ (∀ t ∈ ts, PartB ns rs n t.2.2) ∧ k = (i : Int) + 1 ∧ ts[i]? = some t ∧ SubQ ns rs ks n t.2.2 e
  | _ :: _, 0, _, _ => False
abbrev SubP (ns : List Str) (rs : List RowR) (n : Nat) (d : D) (path : List Int) (e : D) : Prop := SubQ ns rs path n d e
def partsD : Nat → D → List Int → List (List Int × D)
  | 0, _, _ => []
  | n + 1, .tup (.str x :: bs), pre => (pre, .tup (.str x :: bs)) :: (List.range bs.length).flatMap fun i => partsD n (nrD (bs.getD i .non)) (pre ++ [(i : Int) + 1])
  | _ + 1, _, _ => []
theorem parts_sub : ∀ {n : Nat} {d : D} {pre : List Int}, PartB ns rs n d → ∀ q ∈ partsD n d pre, ∃ suf, q.1 = pre ++ suf ∧ SubP ns rs n d suf q.2
  | n + 1, d, pre, hp, q, hq => by
    have hp0 := hp
    rcases hp with ⟨x, rfl, hx⟩ | ⟨p, ts, hpm, rfl, hl, hb, ht⟩ | ⟨d', kd, rfl, hp, hn, hk⟩
    · rw [partsD] at hq
      · simp at hq
      · intro _ _ z; cases z
    · rw [partsD, List.mem_cons] at hq
      rcases hq with rfl | hq
      · exact ⟨[], by simp, rfl, hp0, _, _, rfl⟩
      · obtain ⟨i, hi, hq⟩ := List.mem_flatMap.mp hq
        have hi := List.mem_range.mp hi
        rw [List.length_map] at hi
        have e : (ts.map blk).getD i .non = blk ts[i] := by rw [List.getD_eq_getElem?_getD, List.getElem?_map, List.getElem?_eq_getElem hi]; rfl
        rw [e] at hq
        obtain ⟨suf, h1, h2⟩ := parts_sub (ht _ (List.getElem_mem hi)) q hq
        exact ⟨((i : Int) + 1) :: suf, by rw [h1, List.append_assoc]; rfl, p, ts, i, ts[i], hpm, rfl, hl, hb, ht, rfl, List.getElem?_eq_getElem hi, h2⟩
    · exact hk.elim
theorem SubP.part : ∀ {n : Nat} {d : D} {path : List Int} {e : D}, SubP ns rs n d path e → ∃ x bs, e = .tup (.str x :: bs) ∧ ∃ m, m ≤ n ∧ PartB ns rs m e
  | n, d, [], e, ⟨h1, h2, x, bs, h3⟩ => by subst h1; exact ⟨x, bs, h3, n, Nat.le_refl _, h2⟩
  | n + 1, d, k :: ks, e, ⟨p, ts, i, t, _, _, _, _, _, _, _, h⟩ => by
    obtain ⟨x, bs, h1, m, h2, h3⟩ := SubP.part h
    exact ⟨x, bs, h1, m, by omega, h3⟩
  | 0, _, _ :: _, _, h => h.elim
def nmD : D → D
  | .tup [x, _, _] => x
  | _ => .non
def arD (kd : D) : List Int → D → D
  | [], d => .tup [.str (Str.ofString ":"), d, kd]
  | k :: ks, .tup bs => .tup (bs.take k.toNat ++ .tup [nmD (bs.getD k.toNat .non), rmD (bs.getD k.toNat .non), arD kd ks (nrD (bs.getD k.toNat .non))] :: bs.drop (k.toNat + 1))
  | _ :: _, d => d
theorem map_set_blk {ts : List (D × D × D)} {i : Nat} {t : D × D × D} (hi : i < ts.length) : (ts.map blk).take i ++ blk t :: (ts.map blk).drop (i + 1) = (ts.set i t).map blk := by
  rw [List.map_set, List.set_eq_take_append_cons_drop, if_pos (by simpa using hi)]
theorem arD_cons {kd : D} {x : Str} {ts : List (D × D × D)} {i : Nat} {t : D × D × D} {ks : List Int} (h : ts[i]? = some t) : arD kd (((i : Int) + 1) :: ks) (.tup (.str x :: ts.map blk)) = .tup (.str x :: (ts.set i (t.1, t.2.1, arD kd ks t.2.2)).map blk) := by
  have hi := (List.getElem?_eq_some_iff.mp h).1
  have e : (D.str x :: ts.map blk).getD (i + 1) .non = blk t := by rw [List.getD_eq_getElem?_getD, List.getElem?_cons_succ, List.getElem?_map, h]; rfl
  rw [arD, show ((i : Int) + 1).toNat = i + 1 by omega, e, List.take_succ_cons, List.drop_succ_cons, List.cons_append]
  congr 2
  rw [← map_set_blk hi]
  rfl
theorem SubP.bare : ∀ {n : Nat} {d : D} {path : List Int} {e : D}, SubP ns rs n d path e → PartB ns rs n d
  | n, d, [], e, ⟨h1, h2, _⟩ => h2
  | n + 1, d, k :: ks, e, ⟨p, ts, i, t, h1, h2, h3, h4, h5, _⟩ => .inr (.inl ⟨p, ts, h1, h2, h3, h4, h5⟩)
  | 0, _, _ :: _, _, h => h.elim
theorem get_set_map {α β : Type} {f : α → β} {ts : List α} {i : Nat} {t t' : α} (h : ts[i]? = some t) (e : f t' = f t) : (ts.set i t').map f = ts.map f := by
  rw [List.map_set, e]
  refine List.ext_getElem? fun j => ?_
  rw [List.getElem?_set]
  split
  · rename_i c
    subst c
    rw [List.getElem?_map, h, if_pos (by rw [List.length_map]; exact (List.getElem?_eq_some_iff.mp h).1)]
    rfl
  · rfl
theorem need_around (wd : ∀ p ∈ rs, isWord p.1 = true) {kd : D} : ∀ {n : Nat} {d : D} {path : List Int} {e : D}, SubP ns rs n d path e → (∀ m, PartB ns rs m e → (needP g m e).2 = (needP g m e).1) → needP g (n + 1) (arD kd path d) = needP g (n + 1) d
  | n, d, [], e, ⟨h1, h2, _⟩, hq => by
    subst h1
    have h3 := hq n h2
    rw [needP_mono (g := g) wd h2 (Nat.le_succ n), arD, needP, show notedD (.tup [.str (Str.ofString ":"), e, kd]) = true from decide_eq_true (p := Str.ofString ":" = Str.ofString ":") rfl]
    show ((needP g n e).1, (needP g n e).1) = needP g n e
    exact Prod.ext rfl h3.symm
  | n + 1, d, k :: ks, e, ⟨p, ts, i, t, h1, h2, h3, h4, h5, h6, h7, h8⟩, hq => by
    subst h2 h6
    have hb := blkB_bare h3 h4
    have ht := List.mem_of_getElem? h7
    rw [arD_cons h7, need_bare (wd p h1) hb, need_bare (wd p h1) (fun t' ht' => by
      rcases List.mem_or_eq_of_mem_set ht' with h | h
      · exact hb t' h
      · rw [h]; exact hb t ht)]
    congr 1
    exact get_set_map h7 (need_around wd h8 hq)
  | 0, _, _ :: _, _, h, _ => h.elim
theorem part_around {Nm : Str → Prop} {Kp : D → Prop} (wd : ∀ p ∈ rs, isWord p.1 = true) (hn : ∀ x ∈ ns, Nm x) {kd : D} (hk : Kp kd) : ∀ {n : Nat} {d : D} {path : List Int} {e : D}, SubP ns rs n d path e → PartG Nm Kp rs (n + 1) (arD kd path d)
  | n, d, [], e, ⟨h1, h2, x, bs, h3⟩ => by
    subst h1
    refine .inr (.inr ⟨e, kd, rfl, h2.imp hn (fun _ h => h.elim) (fun _ h => h) (Nat.le_refl _), ?_, hk⟩)
    match n, h2 with
    | n + 1, .inl ⟨x, e1, hx⟩ => rw [e1] at h3; cases h3
    | n + 1, .inr (.inl ⟨p, ts, hpm, e1, _⟩) => rw [e1]; exact node_noted (wd p hpm)
    | n + 1, .inr (.inr ⟨d', kd, e1, hp, hn, hk⟩) => exact hk.elim
  | n + 1, d, k :: ks, e, ⟨p, ts, i, t, h1, h2, h3, h4, h5, h6, h7, h8⟩ => by
    subst h2 h6
    have hi := (List.getElem?_eq_some_iff.mp h7).1
    rw [arD_cons h7]
    refine .inr (.inl ⟨p, ts.set i (t.1, t.2.1, arD kd ks t.2.2), h1, rfl, by rw [List.length_set]; exact h3, fun j q t' a b => ?_, fun t' ht' => ?_⟩)
    · rw [List.getElem?_set] at b
      split at b
      · rename_i c
        subst c
        try rw [if_pos hi] at b
        cases b
        exact (h4 i q t a h7).imp hn (fun _ h => h.elim)
      · exact (h4 j q t' a b).imp hn (fun _ h => h.elim)
    · rcases List.mem_or_eq_of_mem_set ht' with h | h
      · exact (h5 t' h).imp hn (fun _ h => h.elim) (fun _ h => h) (by omega)
      · rw [h]; exact part_around wd hn hk h8
  | 0, _, _ :: _, _, h => h.elim
theorem pow4_le {n m : Nat} (h : n ≤ m) : 4 ^ n ≤ 4 ^ m := Nat.pow_le_pow_right (by decide) h
theorem partsD_len (h3 : ∀ p ∈ rs, p.2.1.length ≤ 3) : ∀ {n : Nat} {d : D} {pre : List Int}, PartB ns rs n d → (partsD n d pre).length ≤ 4 ^ n
  | n + 1, d, pre, hp => by
    rcases hp with ⟨x, rfl, hx⟩ | ⟨p, ts, hpm, rfl, hl, hb, ht⟩ | ⟨d', kd, rfl, hp, hn, hk⟩
    · rw [partsD]
      · exact Nat.zero_le _
      · intro _ _ z; cases z
    · rw [partsD, List.length_cons, List.length_flatMap]
      have hb : ∀ l : List Nat, (∀ i ∈ l, i < ts.length) → (l.map fun i => (partsD n (nrD ((ts.map blk).getD i .non)) (pre ++ [(i : Int) + 1])).length).sum ≤ l.length * 4 ^ n := fun l => by
        induction l with
        | nil => intro _; simp
        | cons i l ih =>
          intro h
          have hi := h i (by simp)
          have e : (ts.map blk).getD i .non = blk ts[i] := by rw [List.getD_eq_getElem?_getD, List.getElem?_map, List.getElem?_eq_getElem hi]; rfl
          have h1 := ih fun j hj => h j (by simp [hj])
          have h2 := partsD_len h3 (pre := pre ++ [(i : Int) + 1]) (ht _ (List.getElem_mem hi))
          rw [List.map_cons, List.sum_cons, e, List.length_cons, Nat.add_mul]
          have h2 : (partsD n (nrD (blk ts[i])) (pre ++ [(i : Int) + 1])).length ≤ 4 ^ n := h2
          omega
      have h1 := hb (List.range (ts.map blk).length) fun i hi => by simpa using hi
      rw [List.length_range, List.length_map] at h1
      have h2 := h3 p hpm
      have h4 : ts.length * 4 ^ n ≤ 3 * 4 ^ n := Nat.mul_le_mul_right _ (by omega)
      have h5 := Nat.one_le_pow n 4 (by decide)
      rw [Nat.pow_succ, List.length_map]
      omega
    · exact hk.elim
end
structure BkV (CB CT : Addr) (W : Wd) (a t b r : Addr) (st : D) (rs : List RowR) (ws : List (Key × D)) (g : Str → List Wy) : Prop where
  o : vD W (.ref a) = some (.obj CB (bkC t b))
  t : vD W (.ref t) = some (.obj CT (tbC st r))
  r : vD W (.ref r) = some (.dct (ksR rs))
  b : W.ω b = some (.dct ws)
  l : ∀ p ∈ rs, look ws (.inr p.1) = some (.tup ((g p.1).map wayD))
  nd : (rs.map (·.1)).Nodup
  w3 : ∀ p ∈ rs, Wy3 p.2.1.length (g p.1)
  wd : ∀ p ∈ rs, isWord p.1 = true ∧ p.2.1.length ≤ 3
structure BkQ (CB CT CS : Addr) (W : Wd) (a t b r : Addr) (ss us : List (Str × Str)) (rs : List RowR) (ws : List (Key × D)) (g : Str → List Wy) : Prop where
  bk : BkN CB CT CS W a t b r ss us rs ws g
  br : b ≠ r
  w3 : ∀ p ∈ rs, Wy3 p.2.1.length (g p.1)
theorem BkQ.v {CB CT CS : Addr} {W : Wd} {a t b r : Addr} {ss us : List (Str × Str)} {rs : List RowR} {ws : List (Key × D)} {g : Str → List Wy} (h : BkQ CB CT CS W a t b r ss us rs ws g) : BkV CB CT W a t b r (.obj CS (stkC ss us)) rs ws g :=
  ⟨vD_ins h.bk.bk.o, vD_ins h.bk.tb.tb.o, vD_dct h.bk.tb.tb.k, h.bk.bk.k, h.bk.wy.l, h.bk.tb.nd, h.w3, h.bk.tb.wd⟩
theorem BkQ.lk {CB CT CS : Addr} {W : Wd} {a t b r : Addr} {ss us : List (Str × Str)} {rs : List RowR} {ws : List (Key × D)} {g : Str → List Wy} {od : Obj} {vk : List (Key × V)} (h : BkQ CB CT CS W a t b r ss us rs ws g) : BkV CB CT (W.put r (.lk od vk (ksR rs))) a t b r (.obj CS (stkC ss us)) rs ws g :=
  ⟨vD_ins ((Wd.put_ne (cell_ne h.bk.bk.o h.bk.tb.tb.k)).trans h.bk.bk.o), vD_ins ((Wd.put_ne (cell_ne h.bk.tb.tb.o h.bk.tb.tb.k)).trans h.bk.tb.tb.o), vD_lk Wd.put_same, (Wd.put_ne h.br).trans h.bk.bk.k, h.bk.wy.l, h.bk.tb.nd, h.w3, h.bk.tb.wd⟩
def F_node_needT : FSpec := fun ds W Q _ => ∃ (ys : List Wy) (df gv : List Int), ds = [.tup (ys.map wayD), .tup (df.map D.int), .lst (gv.map D.int)] ∧ ys ≠ [] ∧ (∀ y ∈ ys, WyS df y) ∧ Q (.tup [.int (nodeN df gv ys).1, .int (nodeN df gv ys).2]) W
theorem ok_node_needT (F : Fz K mg "node_need" s_node_need P_node_need) (T : Txt K mg) : Fx P w K mg base (L2.CX P w) "node_need" 1 P_node_need (lift K F_node_needT) := by
  refine F.okD sc_node_need (fun ds W Q E h => ?_) (fun f cdv A outer s H E e ds Qd Ed hr lk h => ?_)
  · obtain ⟨ys, df, gv, rfl, _⟩ := h
    rfl
  · obtain ⟨ys, df, gv, rfl, h0, hy, k⟩ := h
    refine ⟨_, _, (pss_cons (ps_set (i := 3) sc_node_need.nd rfl (Or.inl rfl) pe_non)
      (pss_cons (ps_set (i := 4) sc_node_need.nd rfl (Or.inl rfl) pe_non)
      (pss_cons (ps_for (passes_of rfl) rfl (pi_any K (pv 0)) (pg_tupK K 3 rfl (pgs_cons (pg_name (i := 5) sc_node_need.nd rfl (Or.inl rfl)) (pgs_cons (pg_name (i := 6) sc_node_need.nd rfl (Or.inl rfl)) (pgs_cons (pg_name (i := 7) sc_node_need.nd rfl (Or.inl rfl)) pgs_nil)))) (pss_cons (ps_set (i := 8) sc_node_need.nd rfl (Or.inl rfl) (pe_callB (call_lenU K) (by rfl) T.b_len PySem.boot_len (pa_cons (pe_lc (own := [("place", 9)]) (g := (gName 9))  rfl sc_node_need.nd (pi_any K (pv 7)) (blkOk_by (own := [("place", 9)]) (N := N_node_need) (sc := defScope s_node_need) (by decide +kernel)) (fun _ _ _ _ _ => (pg_name (i := 9) sc_node_need.nd rfl (by first | exact Or.inl rfl | exact Or.inr rfl))) (fun _ _ _ _ _ => (pts_one (pt_cmpR (op_notInU K (hu65_of hr)) (pv 9) (pv 2) (by rfl)))) (fun _ _ _ _ _ => (pv 9))) pa_nil)))
      (pss_cons (ps_for (passes_of rfl) rfl (pi_any K (pv 6)) (pg_tupK K 2 rfl (pgs_cons (pg_name (i := 9) sc_node_need.nd rfl (Or.inl rfl)) (pgs_cons (pg_name (i := 10) sc_node_need.nd rfl (Or.inl rfl)) pgs_nil))) (pss_one (ps_if (pt_cmpR (op_eqU K hr.units) (pv 10) (pglob rfl T.c_FOUND) (nomark _)) (pss_one (ps_set (i := 8) sc_node_need.nd rfl (Or.inl rfl) (pe_op (op_addU K) (pv 8) (pe_ix (ix_U K (hu_of hr)) (pv 1) (pv 9) (fun _ _ => rfl))))) pss_nil)))
      (pss_cons (ps_if (PW.pt (pw_or (pt_cmpR op_isNU (pv 3) pe_non (nomark _)) (pw_or1 (pt_cmpR op_ltU (pv 8) (pv 3) (nomark _))))) (pss_one (ps_set (i := 3) sc_node_need.nd rfl (Or.inl rfl) (pv 8))) pss_nil)
      (pss_one (ps_if (PW.pt (pw_and (pt_cmpR (op_eqU K hr.units) (pv 5) (pglob rfl T.c_FOUND) (nomark _)) (pw_and1 (PW.pt (pw_or (pt_cmpR op_isNU (pv 4) pe_non (nomark _)) (pw_or1 (pt_cmpR op_ltU (pv 8) (pv 4) (nomark _)))))))) (pss_one (ps_set (i := 4) sc_node_need.nd rfl (Or.inl rfl) (pv 8))) pss_nil))))))
      (pss_cons (ps_if (PW.pt (pw_or (pt_cmpR op_isNU (pv 4) pe_non (nomark _)) (pw_or1 (pt_cmpR op_ltU (pe_op (op_addU K) (pv 3) pe_int) (pv 4) (nomark _))))) (pss_one (ps_set (i := 4) sc_node_need.nd rfl (Or.inl rfl) (pe_op (op_addU K) (pv 3) pe_int))) pss_nil)
      (pss_one (ps_ret (pe_tup (pa_cons (pv 3) (pa_cons (pv 4) pa_nil))))))))), inferInstance, ?_⟩
    walk_at "d"
    refine for_map wayD ys (fun i S => ∃ v5 v6 v7 v8 v9 v10, S = ⟨[some (.val (.tup (ys.map wayD))), some (.val (.tup (df.map D.int))), some (.val (.lst (gv.map D.int))), some (.val (oD (toldO df gv (ys.take i)))), some (.val (oD (foundO df gv (ys.take i)))), v5, v6, v7, v8, v9, v10], e.W⟩) ⟨_, _, _, _, _, _, rfl⟩ ?_ ?_
    · rintro i y S hi ⟨v5, v6, v7, v8, v9, v10, rfl⟩
      have hs := hy y (List.mem_of_getElem? hi)
      generalize ys.map wayD = wds
      unfold wayD
      walk_at "d"
      refine comp_fmM D.int (fun z => if z ∈ gv then none else some (D.int z)) y.nt (by have := hs.ln; simp; omega) (fun z hz N M h1 h2 => ?_) ?_
      · walk_at "d"
        refine ⟨⟨false, .inl ⟨rfl, by rw [List.all_eq_true]; intro d hd; obtain ⟨x, _, rfl⟩ := List.mem_map.mp hd; rfl⟩⟩, ?_⟩
        refine iteB_by (fun c => ?_) (fun c => ?_)
        · walk_at "d"
          rw [int_mem] at c
          exact h1 _ (if_neg c)
        · rw [int_mem, Decidable.not_not] at c
          exact h2 (if_pos c)
      · walk_at "d"
        rw [fm_len]
        refine for_map stpD y.st (fun j S => ∃ v9 v10, S = ⟨[some (.val (.tup wds)), some (.val (.tup (df.map D.int))), some (.val (.lst (gv.map D.int))), some (.val (oD (toldO df gv (ys.take i)))), some (.val (oD (foundO df gv (ys.take i)))), some (.val (.str y.wh)), some (.val (.tup (y.st.map stpD))), some (.val (.tup (y.nt.map D.int))), some (.val (.int ((y.st.take j).foldl (stepAdd df) ((y.nt.filter fun k => decide (k ∉ gv)).length : Int)))), v9, v10], e.W⟩) ⟨_, _, rfl⟩ ?_ ?_
        · rintro j q S hj ⟨v9, v10, rfl⟩
          obtain ⟨hq0, hql⟩ := hs.st q (List.mem_of_getElem? hj)
          have et : (y.st.take (j + 1)).foldl (stepAdd df) ((y.nt.filter fun k => decide (k ∉ gv)).length : Int) = stepAdd df ((y.st.take j).foldl (stepAdd df) ((y.nt.filter fun k => decide (k ∉ gv)).length : Int)) q := by
            obtain ⟨hl, ee⟩ := List.getElem?_eq_some_iff.mp hj
            rw [List.take_succ_eq_append_getElem hl, List.foldl_append, ee]; rfl
          rw [et]
          generalize (y.st.take j).foldl (stepAdd df) _ = m
          generalize y.st.map stpD = sds
          unfold stpD
          walk_at "d"
          refine iteB_by (fun c => ?_) (fun c => ?_)
          · walk_at "d"
            rw [at_get (j := q.1.toNat) (by omega) (show (df.map D.int)[q.1.toNat]? = some (.int (df.getD q.1.toNat 0)) by rw [List.getElem?_map, List.getD_eq_getElem?_getD, List.getElem?_eq_getElem hql]; rfl)]
            walk_at "d"
            rw [stepAdd, if_pos c]
            exact ⟨_, _, rfl⟩
          · walk_at "d"
            rw [stepAdd, if_neg c]
            exact ⟨_, _, rfl⟩
        · rintro S ⟨v9, v10, rfl⟩
          rw [List.take_length]
          have em : y.st.foldl (stepAdd df) ((y.nt.filter fun k => decide (k ∉ gv)).length : Int) = manyW df gv y := rfl
          rw [em]
          have e1 : toldO df gv (ys.take (i + 1)) = minO (toldO df gv (ys.take i)) (manyW df gv y) := by
            obtain ⟨hl, ee⟩ := List.getElem?_eq_some_iff.mp hi
            unfold toldO
            rw [List.take_succ_eq_append_getElem hl, List.foldl_append, ee]; rfl
          have e2 : foundO df gv (ys.take (i + 1)) = if y.wh = Str.ofString "found" then minO (foundO df gv (ys.take i)) (manyW df gv y) else foundO df gv (ys.take i) := by
            obtain ⟨hl, ee⟩ := List.getElem?_eq_some_iff.mp hi
            unfold foundO
            rw [List.take_succ_eq_append_getElem hl, List.foldl_append, ee]; rfl
          rw [e1, e2]
          generalize toldO df gv (ys.take i) = a
          generalize foundO df gv (ys.take i) = b
          generalize manyW df gv y = m
          walk_at "d"
          cases a with
          | none =>
            rw [show minO none m = some m from rfl]
            refine iteB_T rfl ?_
            walk_at "d"
            refine iteB_by (fun c => ?_) (fun c => ?_)
            · rw [if_pos c]
              cases b with
              | none =>
                rw [show minO none m = some m from rfl]
                rw [show oD none = .non from rfl]
                walk_at "d"
                exact ⟨_, _, _, _, _, _, rfl⟩
              | some b =>
                rw [show oD (some b) = .int b from rfl]
                walk_at "d"
                refine iteB_by (fun c2 => ?_) (fun c2 => ?_)
                · rw [show minO (some b) m = some m from if_pos c2]
                  walk_at "d"
                  exact ⟨_, _, _, _, _, _, rfl⟩
                · rw [show minO (some b) m = some b from if_neg c2]
                  walk_at "d"
                  exact ⟨_, _, _, _, _, _, rfl⟩
            · rw [if_neg c]
              walk_at "d"
              exact ⟨_, _, _, _, _, _, rfl⟩
          | some a =>
            refine iteB_F (by unfold oD; simp) ?_
            rw [show oD (some a) = .int a from rfl]
            walk_at "d"
            refine iteB_by (fun c0 => ?_) (fun c0 => ?_)
            · rw [show minO (some a) m = some m from if_pos c0]
              walk_at "d"
              refine iteB_by (fun c => ?_) (fun c => ?_)
              · rw [if_pos c]
                cases b with
                | none =>
                  rw [show minO none m = some m from rfl]
                  rw [show oD none = .non from rfl]
                  walk_at "d"
                  exact ⟨_, _, _, _, _, _, rfl⟩
                | some b =>
                  rw [show oD (some b) = .int b from rfl]
                  walk_at "d"
                  refine iteB_by (fun c2 => ?_) (fun c2 => ?_)
                  · rw [show minO (some b) m = some m from if_pos c2]
                    walk_at "d"
                    exact ⟨_, _, _, _, _, _, rfl⟩
                  · rw [show minO (some b) m = some b from if_neg c2]
                    walk_at "d"
                    exact ⟨_, _, _, _, _, _, rfl⟩
              · rw [if_neg c]
                walk_at "d"
                exact ⟨_, _, _, _, _, _, rfl⟩
            · rw [show minO (some a) m = some a from if_neg c0]
              walk_at "d"
              refine iteB_by (fun c => ?_) (fun c => ?_)
              · rw [if_pos c]
                cases b with
                | none =>
                  rw [show minO none m = some m from rfl]
                  rw [show oD none = .non from rfl]
                  walk_at "d"
                  exact ⟨_, _, _, _, _, _, rfl⟩
                | some b =>
                  rw [show oD (some b) = .int b from rfl]
                  walk_at "d"
                  refine iteB_by (fun c2 => ?_) (fun c2 => ?_)
                  · rw [show minO (some b) m = some m from if_pos c2]
                    walk_at "d"
                    exact ⟨_, _, _, _, _, _, rfl⟩
                  · rw [show minO (some b) m = some b from if_neg c2]
                    walk_at "d"
                    exact ⟨_, _, _, _, _, _, rfl⟩
              · rw [if_neg c]
                walk_at "d"
                exact ⟨_, _, _, _, _, _, rfl⟩
    · rintro S ⟨v5, v6, v7, v8, v9, v10, rfl⟩
      rw [List.take_length]
      walk_at "d"
      obtain ⟨b, hb⟩ := told_some (df := df) (gv := gv) ys none (.inr h0)
      have hb : toldO df gv ys = some b := hb
      unfold nodeN at k
      rw [hb] at k ⊢
      cases hf : foundO df gv ys with
      | none =>
        rw [hf] at k
        unfold oD
        refine iteB_T rfl ?_
        walk_at "d"
        exact k
      | some a =>
        rw [hf] at k
        have k : Qd (.tup [.int b, .int (if b + 1 < a then b + 1 else a)]) e.W := k
        unfold oD
        refine iteB_F (by simp) ?_
        walk_at "d"
        refine iteB_by (fun c => ?_) (fun c => ?_)
        · rw [if_pos c] at k
          walk_at "d"
          exact k
        · rw [if_neg c] at k
          walk_at "d"
          exact k
abbrev s_own_need : Stmt := top 46
abbrev N_own_need : List Str := ["ways", "differences"]
abbrev P_own_need : List Str := ["ways", "differences"]
theorem sc_own_need : FnScope N_own_need P_own_need (defScope s_own_need) := ⟨rfl, rfl, rfl, by decide +kernel, rfl, by decide +kernel, by decide +kernel⟩
def F_own_need : FSpec := fun ds W Q _ => ∃ (ys : List Wy) (df : List Int), ds = [.tup (ys.map wayD), .tup (df.map D.int)] ∧ ys ≠ [] ∧ (∀ y ∈ ys, WyS df y) ∧ Q (.tup [.int (nodeN df [] ys).1, .int (nodeN df [] ys).2]) W
theorem ok_own_need (F : Fz K mg "own_need" s_own_need P_own_need) (T : Txt K mg) (G_node_need : Fx P w K mg base (L2.CX P w) "node_need" 1 P_node_need (lift K F_node_needT)) : Fx P w K mg base (L2.CX P w) "own_need" 2 P_own_need (lift K F_own_need) := by
  refine F.okD sc_own_need (fun ds W Q E h => by obtain ⟨ys, df, rfl, _⟩ := h; rfl) (fun f cdv A outer s H E e ds Qd Ed hr lk h => ?_)
  obtain ⟨ys, df, rfl, h0, hy, k⟩ := h
  refine ⟨_, _, (pss_one (ps_ret (fcallX (takes_of rfl rfl rfl rfl) G_node_need (hr.mono (by first | decide | omega)) (by rfl) (pa_cons (pv 0) (pa_cons (pv 1) (pa_cons (pe_lst pa_nil) pa_nil)))))), inferInstance, ?_⟩
  walk_at "d"
  refine ⟨ys, df, [], rfl, h0, hy, ?_⟩
  walk_at "d"
  exact k
def F_bkGetV (CB CT : Addr) : FSpec := fun ds W Q _ => ∃ (a t b r : Addr) (st : D) (rs : List RowR) (ws : List (Key × D)) (g : Str → List Wy) (p : RowR), ds = [.ref a, .str p.1] ∧ BkV CB CT W a t b r st rs ws g ∧ p ∈ rs ∧ Q (.tup ((g p.1).map wayD)) W
theorem ok_bkGetV (Z : Mz K (clsA mg "Book") "__getitem__" "Book.__getitem__" s_Book___getitem__ P_Book___getitem__ []) (T : Txt K mg) (R_UnknownSign : RaiseT P w K mg base "UnknownSign" ["sign"] false) : Ox P w K mg base (clsA mg "Book") "__getitem__" 3 P_Book___getitem__ (lift K (F_bkGetV (clsA mg "Book") (clsA mg "Table"))) := by
  refine Z.okOD T.s_Book sc_Book___getitem__ (fun ds W Q E h => by obtain ⟨a, t, b, r, st, rs, ws, g, p, rfl, _⟩ := h; rfl) ?_
  intro f cdv A outer s H E e ds Qd Ed hr lk h
  obtain ⟨a, t, b, r, st, rs, ws, g, p, rfl, hb, hp, k⟩ := h
  refine ⟨_, _, (pss_cons (ps_if (pt_cmpR (op_notInU K (hu65_of hr)) (pv 1) (fldX T.f_Table_rules (fldX T.f_Book_table (pv 0))) (by rfl)) (pss_one (ps_raiseF rfl (takes_of rfl rfl rfl rfl) (pmkS R_UnknownSign (hr.mono (by first | decide | omega)) (by decide) (by rfl) (pa_cons (pv 1) pa_nil)))) pss_nil)
      (pss_one (ps_ret (pe_dget2 (hu_of hr) (fldX T.f_Book_ways (pv 0)) (pv 1) (pe_tup pa_nil) ⟨rfl, rfl, rfl, rfl⟩)))), inferInstance, ?_⟩
  have vo := hb.o
  have vt := hb.t
  have vr := hb.r
  have vw := vD_dct hb.b
  unfold bkC at vo
  unfold tbC at vt
  have lp := look_ksR hb.nd hp
  have lw := hb.l p hp
  walk_at "d"
  refine dd1B_at vo ?_
  walk_at "d"
  refine dd1B_at vt ?_
  walk_at "d"
  refine dd1B_at vr ?_
  walk_at "d"
  rw [lp]
  walk_at "d"
  refine dd1B_at vo ?_
  walk_at "d"
  refine ⟨deref_dct hb.b, ?_⟩
  refine dd1B_at vw ?_
  walk_at "d"
  rw [lw, Option.getD_some]
  try walk_at "d"
  exact k
abbrev s_node_differences : Stmt := top 58
abbrev N_node_differences : List Str := ["book", "sign", "known", "found", "row", "told", "untold"]
abbrev P_node_differences : List Str := ["book", "sign", "known"]
theorem sc_node_differences : FnScope N_node_differences P_node_differences (defScope s_node_differences) := ⟨rfl, rfl, rfl, by decide +kernel, rfl, by decide +kernel, by decide +kernel⟩
def F_ndif (CB CT : Addr) : FSpec := fun ds W Q _ => ∃ (a t b r : Addr) (st : D) (rs : List RowR) (ws : List (Key × D)) (g : Str → List Wy) (p : RowR) (vs : List Int), ds = [.ref a, .str p.1, .lst (vs.map D.int)] ∧ BkV CB CT W a t b r st rs ws g ∧ p ∈ rs ∧ vs.length ≤ 2 ∧ Q (.lst ((prodA vs p.2.1.length).map fun r => .int (dif1 (g p.1) r))) W
theorem ok_node_differences (F : Fz K mg "node_differences" s_node_differences P_node_differences) (T : Txt K mg) (G_rows_of : Fx P w K mg base (L2.CX P w) "rows_of" 1 P_rows_of (lift K F_rows_of)) (G_own_need : Fx P w K mg base (L2.CX P w) "own_need" 2 P_own_need (lift K F_own_need)) (O_Book_get : Ox P w K mg base (clsA mg "Book") "__getitem__" 3 P_Book___getitem__ (lift K (F_bkGetV (clsA mg "Book") (clsA mg "Table")))) : Fx P w K mg base (L2.CX P w) "node_differences" 6 P_node_differences (lift K (F_ndif (clsA mg "Book") (clsA mg "Table"))) := by
  refine F.okD sc_node_differences (fun ds W Q E h => by obtain ⟨a, t, b, r, st, rs, ws, g, p, vs, rfl, _⟩ := h; rfl) (fun f cdv A outer s H E e ds Qd Ed hr lk h => ?_)
  obtain ⟨a, t, b, r, st, rs, ws, g, p, vs, rfl, hb, hp, hv, k⟩ := h
  refine ⟨_, _, (pss_cons (setO_of (ps_set (i := 3) sc_node_differences.nd rfl (Or.inl rfl) (pe_lst pa_nil)))
      (pss_cons (ps_for (passes_of rfl) rfl (pi_any K (fcallX (takes_of rfl rfl rfl rfl) G_rows_of (hr.mono (by first | decide | omega)) (by rfl) (pa_cons (pv 2) (pa_cons (pe_callB (call_lenU K) (by rfl) T.b_len PySem.boot_len (pa_cons (pe_ix (ix_U K (hu_of hr)) (pe_ix (ix_U K (hu_of hr)) (fldX T.f_Table_rules (fldX T.f_Book_table (pv 0))) (pv 1) (fun _ _ => rfl)) pe_int (fun _ _ => rfl)) pa_nil)) pa_nil)))) (pg_name (i := 4) sc_node_differences.nd rfl (Or.inl rfl)) (pss_cons (ps_asg (fcallX (takes_of rfl rfl rfl rfl) G_own_need (hr.mono (by first | decide | omega)) (by rfl) (pa_cons (ogetX (takes_of rfl rfl rfl rfl) O_Book_get (hr.mono (by first | decide | omega)) (pv 0) (pv 1)) (pa_cons (pv 4) pa_nil))) (pg_tupK K 2 rfl (pgs_cons (pg_name (i := 5) sc_node_differences.nd rfl (Or.inl rfl)) (pgs_cons (pg_name (i := 6) sc_node_differences.nd rfl (Or.inl rfl)) pgs_nil))))
      (pss_one (ps_expr (pe_bmK K PySem.F.plainAttrs_list PySem.F.slot_list_append PySem.F.type_list_append mt_append (pv 3) (pa_cons (pe_op op_subU (pv 6) (pv 5)) pa_nil))))))
      (pss_one (ps_ret (pv 3))))), inferInstance, ?_⟩
  have vo := hb.o
  have vt := hb.t
  have vr := hb.r
  unfold bkC at vo
  unfold tbC at vt
  have lp := look_ksR hb.nd hp
  have l3 := (hb.wd p hp).2
  have hy := hb.w3 p hp
  walk_at "d"
  refine dd1B_at vo ?_
  walk_at "d"
  refine dd1B_at vt ?_
  walk_at "d"
  refine dd1B_at vr ?_
  walk_at "d"
  rw [lp]
  unfold ruleD
  walk_at "d"
  refine ⟨vs.map D.int, p.2.1.length, by rw [List.length_map], by simp; omega, by omega, ?_⟩
  rw [prodA_map, List.map_map]
  walk_at "d"
  have hpl := prodA_len vs p.2.1.length
  have hp2 := pow_le625 (show vs.length ≤ 5 by omega) (show p.2.1.length ≤ 4 by omega)
  refine for_map (D.tup ∘ List.map D.int) (prodA vs p.2.1.length) (fun i S => ∃ v4 v5 v6, S = ⟨[some (.val (.ref a)), some (.val (.str p.1)), some (.val (.lst (vs.map D.int))), some (.ownL (((prodA vs p.2.1.length).take i).map fun r => .int (dif1 (g p.1) r))), v4, v5, v6], e.W⟩) ⟨_, _, _, rfl⟩ ?_ ?_
  · rintro i r2 S hi ⟨v4, v5, v6, rfl⟩
    obtain ⟨h1, h2⟩ := mem_prodA.mp (List.mem_of_getElem? hi)
    have h3 := (List.getElem?_eq_some_iff.mp hi).1
    rw [take_succ_get hi, List.map_append]
    rw [show (D.tup ∘ List.map D.int) r2 = D.tup (r2.map D.int) from rfl]
    walk_at "d"
    refine dd1B_at hb.o ?_
    walk_at "d"
    refine ⟨a, t, b, r, st, rs, ws, g, p, rfl, hb, hp, ?_⟩
    walk_at "d"
    refine ⟨g p.1, r2, rfl, hy.1, hy.wyS h1, ?_⟩
    walk_at "d"
    exact ⟨by simp; omega, _, _, _, rfl⟩
  · rintro S ⟨v4, v5, v6, rfl⟩
    rw [List.take_length]
    walk_at "d"
    exact k
abbrev s_check_all_ways : Stmt := top 48
abbrev N_check_all_ways : List Str := ["book", "sign"]
abbrev P_check_all_ways : List Str := ["book"]
theorem sc_check_all_ways : FnScope N_check_all_ways P_check_all_ways (defScope s_check_all_ways) := ⟨rfl, rfl, rfl, by decide +kernel, rfl, by decide +kernel, by decide +kernel⟩
def F_caw (CB CT CS : Addr) : FSpec := fun ds W Q _ => ∃ (a t b r : Addr) (ss us : List (Str × Str)) (rs : List RowR) (ws : List (Key × D)) (g : Str → List Wy), ds = [.ref a] ∧ BkQ CB CT CS W a t b r ss us rs ws g ∧ Q .non W
theorem ok_check_all_ways (F : Fz K mg "check_all_ways" s_check_all_ways P_check_all_ways) (T : Txt K mg) (R_NoWay : RaiseT P w K mg base "NoWay" ["sign"] false) : Fx P w K mg base (L2.CX P w) "check_all_ways" 4 P_check_all_ways (lift K (F_caw (clsA mg "Book") (clsA mg "Table") (clsA mg "Stock"))) := by
  refine F.okD sc_check_all_ways (fun ds W Q E h => by obtain ⟨a, t, b, r, ss, us, rs, ws, g, rfl, _⟩ := h; rfl) (fun f cdv A outer s H E e ds Qd Ed hr lk h => ?_)
  obtain ⟨a, t, b, r, ss, us, rs, ws, g, rfl, hq, k⟩ := h
  refine ⟨_, _, (pss_one (ps_lock (ps_for (passes_of rfl) rfl (pi_dct K (fldX T.f_Table_rules (fldX T.f_Book_table (pv 0)))) (pg_name (i := 1) sc_check_all_ways.nd rfl (Or.inl rfl)) (pss_one (ps_if (pt_cmpR (op_eqU K hr.units) (pe_callB (call_lenU K) (by rfl) T.b_len PySem.boot_len (pa_cons (pe_dget2 (hu_of hr) (fldX T.f_Book_ways (pv 0)) (pv 1) (pe_tup pa_nil) ⟨rfl, rfl, rfl, rfl⟩) pa_nil)) pe_int (nomark _)) (pss_one (ps_raiseF rfl (takes_of rfl rfl rfl rfl) (pmkS R_NoWay (hr.mono (by first | decide | omega)) (by decide) (by rfl) (pa_cons (pv 1) pa_nil)))) pss_nil))))), inferInstance, ?_⟩
  have vo := hq.v.o
  have vt := hq.v.t
  unfold bkC at vo
  unfold tbC at vt
  walk_at "d"
  refine dd1B_at vo ?_
  walk_at "d"
  refine dd1B_at vt ?_
  walk_at "d"
  refine dctCB_at hq.bk.tb.tb.k ?_
  walk_at "d"
  intro od vk
  have hk := hq.lk (od := od) (vk := vk)
  have vo2 := hk.o
  have vt2 := hk.t
  unfold bkC at vo2
  unfold tbC at vt2
  refine dd1B_at vo2 ?_
  walk_at "d"
  refine dd1B_at vt2 ?_
  walk_at "d"
  rw [keys_ksR]
  refine forL_ix (fun p : RowR => D.str p.1) (fun i S => ∃ v1, S = ⟨[some (.val (.ref a)), v1], e.W.put r (.lk od vk (ksR rs))⟩) (fun i S h => by obtain ⟨v1, rfl⟩ := h; exact Wd.put_same) rs ⟨_, rfl⟩ ?_ ?_
  · rintro i p S hp ⟨v1, rfl⟩
    have hpm := List.mem_of_getElem? hp
    walk_at "d"
    refine dd1B_at vo2 ?_
    walk_at "d"
    refine ⟨deref_dct hk.b, ?_⟩
    refine dd1B_at (vD_dct hk.b) ?_
    walk_at "d"
    rw [hk.l p hpm, Option.getD_some]
    try walk_at "d"
    refine iteB_F (by rw [List.length_map]; have := List.length_pos_iff.mpr (hq.w3 p hpm).1; omega) ?_
    walk_at "d"
    exact ⟨_, rfl⟩
  · rintro S ⟨v1, rfl⟩
    walk_at "d"
    rw [put_self hq.bk.tb.tb.k]
    exact k
abbrev s_quiet_signs : Stmt := top 59
abbrev N_quiet_signs : List Str := ["book", "known", "sign"]
abbrev P_quiet_signs : List Str := ["book"]
theorem sc_quiet_signs : FnScope N_quiet_signs P_quiet_signs (defScope s_quiet_signs) := ⟨rfl, rfl, rfl, by decide +kernel, rfl, by decide +kernel, by decide +kernel⟩
def F_quiet (CB CT CS : Addr) : FSpec := fun ds W Q _ => ∃ (a t b r : Addr) (ss us : List (Str × Str)) (rs : List RowR) (ws : List (Key × D)) (g : Str → List Wy), ds = [.ref a] ∧ BkQ CB CT CS W a t b r ss us rs ws g ∧ rs.length ≤ 8 ∧ Q (.lst ((quietL g rs).map D.str)) W
theorem one_in {ys : List Wy} {l : List (List Int)} : D.int 1 ∈ (l.map fun r => D.int (dif1 ys r)) ↔ ∃ r ∈ l, dif1 ys r = 1 := by
  rw [List.mem_map]
  constructor
  · rintro ⟨r, h, e⟩
    exact ⟨r, h, D.int.inj e⟩
  · rintro ⟨r, h, e⟩
    exact ⟨r, h, by rw [e]⟩
theorem find_any {α : Type} (f : α → Bool) : ∀ l : List α, (l.find? f).isSome = l.any f
  | [] => rfl
  | x :: l => by
    rw [List.find?_cons, List.any_cons]
    cases c : f x with
    | true => rfl
    | false => rw [Bool.false_or, ← find_any f l]
theorem qt_in {g : Str → List Wy} {rs : List RowR} {p : RowR} : isQt g rs p = true ↔ ¬ D.int 1 ∈ ((prodA (knownI g rs) p.2.1.length).map fun r => D.int (dif1 (g p.1) r)) := by
  rw [one_in]
  unfold isQt
  rw [List.all_eq_true]
  constructor
  · rintro h ⟨r, hr, e⟩
    have := h r hr
    rw [decide_eq_true e] at this
    cases this
  · intro h r hr
    rw [decide_eq_false fun e => h ⟨r, hr, e⟩]
    rfl
theorem quiet_fm {g : Str → List Wy} {rs : List RowR} : ∀ l : List RowR, (l.filterMap fun p => if isQt g rs p = true then some (D.str p.1) else none) = ((l.filter (isQt g rs)).map (·.1)).map D.str
  | [] => rfl
  | p :: l => by
    rw [List.filterMap_cons, List.filter_cons, quiet_fm l]
    cases c : isQt g rs p with
    | true => rfl
    | false => rfl
theorem known_len {g : Str → List Wy} {rs : List RowR} : (knownI g rs).length ≤ 2 := by
  unfold knownI
  split <;> decide
theorem ok_quiet_signs (F : Fz K mg "quiet_signs" s_quiet_signs P_quiet_signs) (T : Txt K mg) (G_check_all_ways : Fx P w K mg base (L2.CX P w) "check_all_ways" 4 P_check_all_ways (lift K (F_caw (clsA mg "Book") (clsA mg "Table") (clsA mg "Stock")))) (G_node_differences : Fx P w K mg base (L2.CX P w) "node_differences" 6 P_node_differences (lift K (F_ndif (clsA mg "Book") (clsA mg "Table")))) : Fx P w K mg base (L2.CX P w) "quiet_signs" 8 P_quiet_signs (lift K (F_quiet (clsA mg "Book") (clsA mg "Table") (clsA mg "Stock"))) := by
  refine F.okD sc_quiet_signs (fun ds W Q E h => by obtain ⟨a, t, b, r, ss, us, rs, ws, g, rfl, _⟩ := h; rfl) (fun f cdv A outer s H E e ds Qd Ed hr lk h => ?_)
  obtain ⟨a, t, b, r, ss, us, rs, ws, g, rfl, hq, hl8, k⟩ := h
  refine ⟨_, _, (pss_cons (ps_expr (fcallX (takes_of rfl rfl rfl rfl) G_check_all_ways (hr.mono (by first | decide | omega)) (by rfl) (pa_cons (pv 0) pa_nil)))
      (pss_cons (ps_set (i := 1) sc_quiet_signs.nd rfl (Or.inr rfl) (pe_lst (pa_cons pe_int pa_nil)))
      (pss_cons (ps_if (pt_val (pe_callB (cr_anyK K rfl) (by rfl) T.b_any (by decide +kernel) (pa_cons (pe_lock (pe_lc (own := [("sign", 2)]) (g := (gName 2)) (tt := tYes) rfl sc_quiet_signs.nd (pi_dct K (fldX T.f_Table_rules (fldX T.f_Book_table (pv 0)))) (blkOk_by (own := [("sign", 2)]) (N := N_quiet_signs) (sc := defScope s_quiet_signs) (by decide +kernel)) (fun _ _ _ _ _ => (pg_name (i := 2) sc_quiet_signs.nd rfl (by first | exact Or.inl rfl | exact Or.inr rfl))) (fun _ _ _ _ _ => pts_nil) (fun _ _ _ _ _ => (pe_cmpR (op_inU K (hu65_of hr)) pe_int (fcallX takes0 G_node_differences (hr.mono (by first | decide | omega)) (by rfl) (pa_cons (pv 0) (pa_cons (pv 2) (pa_cons (pe_lst (pa_cons pe_int pa_nil)) pa_nil)))) (by rfl))))) pa_nil))) (pss_one (ps_set (i := 1) sc_quiet_signs.nd rfl (Or.inr rfl) (pe_lst (pa_cons pe_int (pa_cons pe_int pa_nil))))) pss_nil)
      (pss_one (ps_ret (pe_lock (pe_lc (own := [("sign", 2)]) (g := (gName 2))  rfl sc_quiet_signs.nd (pi_dct K (fldX T.f_Table_rules (fldX T.f_Book_table (pv 0)))) (blkOk_by (own := [("sign", 2)]) (N := N_quiet_signs) (sc := defScope s_quiet_signs) (by decide +kernel)) (fun _ _ _ _ _ => (pg_name (i := 2) sc_quiet_signs.nd rfl (by first | exact Or.inl rfl | exact Or.inr rfl))) (fun _ _ _ _ _ => (pts_one (pt_cmpR (op_notInU K (hu65_of hr)) pe_int (fcallX takes0 G_node_differences (hr.mono (by first | decide | omega)) (by rfl) (pa_cons (pv 0) (pa_cons (pv 2) (pa_cons (pv 1) pa_nil)))) (by rfl)))) (fun _ _ _ _ _ => (pv 2))))))))), inferInstance, ?_⟩
  have vo := hq.v.o
  have vt := hq.v.t
  unfold bkC at vo
  unfold tbC at vt
  walk_at "d"
  refine ⟨a, t, b, r, ss, us, rs, ws, g, rfl, hq, ?_⟩
  walk_at "d"
  refine dd1B_at vo ?_
  walk_at "d"
  refine dd1B_at vt ?_
  walk_at "d"
  refine dctCB_at hq.bk.tb.tb.k ?_
  walk_at "d"
  intro od vk
  have hk := hq.lk (od := od) (vk := vk)
  have vo2 := hk.o
  have vt2 := hk.t
  unfold bkC at vo2
  unfold tbC at vt2
  refine dd1B_at vo2 ?_
  walk_at "d"
  refine dd1B_at vt2 ?_
  walk_at "d"
  rw [keys_ksR]
  have okI : ∀ {ys : List Wy} {l : List (List Int)}, inOk (.int 1) (l.map fun r => D.int (dif1 ys r)) := ⟨false, .inl ⟨rfl, by rw [List.all_eq_true]; intro d hd; obtain ⟨x, _, rfl⟩ := List.mem_map.mp hd; rfl⟩⟩
  refine compL_map (fun p : RowR => D.str p.1) (fun p => .bl (decide (D.int 1 ∈ ((prodA [(0 : Int)] p.2.1.length).map fun r => D.int (dif1 (g p.1) r))))) rs Wd.put_same (by simp; omega) (fun p hp N M h => ?_) ?_
  · walk_at "d"
    refine ⟨a, t, b, r, _, rs, ws, g, p, [0], rfl, hk, hp, by decide, ?_⟩
    walk_at "d"
    exact ⟨okI, h⟩
  walk_at "d"
  rw [bls_mapF]
  walk_at "d"
  have ea : (rs.map fun p => decide (D.int 1 ∈ ((prodA [(0 : Int)] p.2.1.length).map fun r => D.int (dif1 (g p.1) r)))).any id = (loudP g rs).isSome := by
    unfold loudP
    rw [List.any_map, find_any]
    congr 1
    funext p
    show decide (D.int 1 ∈ _) = isLd g p
    unfold isLd
    refine decide_eq_decide.mpr ?_
    rw [one_in, prodA_one]
    constructor
    · rintro ⟨r, hr, h⟩
      rw [List.mem_singleton.mp hr] at h
      exact h
    · intro h
      exact ⟨_, List.mem_singleton.mpr rfl, h⟩
  rw [ea]
  refine iteB_by (fun c => ?_) (fun c => ?_)
  · walk_at "d"
    have ek : [D.int 0, D.int 1] = (knownI g rs).map D.int := by
      unfold knownI
      obtain ⟨p, hp⟩ := Option.isSome_iff_exists.mp c
      rw [hp]; rfl
    rw [ek]
    have hq2 : BkQ (clsA mg "Book") (clsA mg "Table") (clsA mg "Stock") (e.W.put r (.dct (ksR rs))) a t b r ss us rs ws g := by rw [put_self hq.bk.tb.tb.k]; exact hq
    have vo1 := hq2.v.o
    have vt1 := hq2.v.t
    unfold bkC at vo1
    unfold tbC at vt1
    refine dd1B_at vo1 ?_
    walk_at "d"
    refine dd1B_at vt1 ?_
    walk_at "d"
    intro od2 vk2
    have hk2 := hq.lk (od := od2) (vk := vk2)
    have vo3 := hk2.o
    have vt3 := hk2.t
    unfold bkC at vo3
    unfold tbC at vt3
    refine dd1B_at vo3 ?_
    walk_at "d"
    refine dd1B_at vt3 ?_
    walk_at "d"
    rw [keys_ksR]
    refine compL_fmM (fun p : RowR => D.str p.1) (fun p => if isQt g rs p = true then some (D.str p.1) else none) rs Wd.put_same (by simp; omega) (fun p hp N M h1 h2 => ?_) ?_
    · walk_at "d"
      refine ⟨a, t, b, r, _, rs, ws, g, p, knownI g rs, rfl, hk2, hp, known_len, ?_⟩
      walk_at "d"
      refine ⟨okI, ?_⟩
      refine iteB_by (fun c => ?_) (fun c => ?_)
      · walk_at "d"
        exact h1 _ (if_pos (qt_in.mpr c))
      · exact h2 (if_neg fun z => c (qt_in.mp z))
    walk_at "d"
    rw [put_self hq.bk.tb.tb.k, quiet_fm]
    exact k
  · walk_at "d"
    have ek : [D.int 0] = (knownI g rs).map D.int := by
      unfold knownI
      rw [Bool.not_eq_true, Option.isSome_eq_false_iff] at c
      rw [c]; rfl
    rw [ek]
    have hq2 : BkQ (clsA mg "Book") (clsA mg "Table") (clsA mg "Stock") (e.W.put r (.dct (ksR rs))) a t b r ss us rs ws g := by rw [put_self hq.bk.tb.tb.k]; exact hq
    have vo1 := hq2.v.o
    have vt1 := hq2.v.t
    unfold bkC at vo1
    unfold tbC at vt1
    refine dd1B_at vo1 ?_
    walk_at "d"
    refine dd1B_at vt1 ?_
    walk_at "d"
    intro od2 vk2
    have hk2 := hq.lk (od := od2) (vk := vk2)
    have vo3 := hk2.o
    have vt3 := hk2.t
    unfold bkC at vo3
    unfold tbC at vt3
    refine dd1B_at vo3 ?_
    walk_at "d"
    refine dd1B_at vt3 ?_
    walk_at "d"
    rw [keys_ksR]
    refine compL_fmM (fun p : RowR => D.str p.1) (fun p => if isQt g rs p = true then some (D.str p.1) else none) rs Wd.put_same (by simp; omega) (fun p hp N M h1 h2 => ?_) ?_
    · walk_at "d"
      refine ⟨a, t, b, r, _, rs, ws, g, p, knownI g rs, rfl, hk2, hp, known_len, ?_⟩
      walk_at "d"
      refine ⟨okI, ?_⟩
      refine iteB_by (fun c => ?_) (fun c => ?_)
      · walk_at "d"
        exact h1 _ (if_pos (qt_in.mpr c))
      · exact h2 (if_neg fun z => c (qt_in.mp z))
    walk_at "d"
    rw [put_self hq.bk.tb.tb.k, quiet_fm]
    exact k
abbrev s__law_loud_node : Stmt := top 77
abbrev N__law_loud_node : List Str := ["_law_rules", "_law_ways", "_law_rule_row", "_law_case"]
abbrev P__law_loud_node : List Str := ["_law_rules", "_law_ways"]
theorem sc__law_loud_node : FnScope N__law_loud_node P__law_loud_node (defScope s__law_loud_node) := ⟨rfl, rfl, rfl, by decide +kernel, rfl, by decide +kernel, by decide +kernel⟩
def WyR (W : Wd) (y : D) (rs : List RowR) (g : Str → List Wy) : Prop := ∃ ws, vD W y = some (.dct ws) ∧ ∀ p ∈ rs, ∃ a, look ws (.inr p.1) = some (.ref a) ∧ W.ω a = some (.lst ((g p.1).map wayD)) ∧ Wy3 p.2.1.length (g p.1)
theorem loud_none {g : Str → List Wy} {rs : List RowR} {i : Nat} {p : RowR} (hi : rs[i]? = some p) (h : (rs.take i).find? (isLd g) = none) (hp : isLd g p = false) : (rs.take (i + 1)).find? (isLd g) = none := by
  rw [take_succ_get hi, List.find?_append, h, Option.none_or, List.find?_cons, hp]
  rfl
theorem loud_some {g : Str → List Wy} {rs : List RowR} {i : Nat} {p : RowR} (hi : rs[i]? = some p) (h : (rs.take i).find? (isLd g) = none) (hp : isLd g p = true) : loudP g rs = some p := by
  unfold loudP
  obtain ⟨h1, h2⟩ := List.getElem?_eq_some_iff.mp hi
  rw [← List.take_append_drop i rs, List.find?_append, h, Option.none_or, List.drop_eq_getElem_cons h1, h2, List.find?_cons, hp]
def F_lloud : FSpec := fun ds W Q _ => ∃ (y : D) (rs : List RowR) (g : Str → List Wy), ds = [.lst (rs.map rowR), y] ∧ WyR W y rs g ∧ (∀ p ∈ rs, p.2.1.length ≤ 3) ∧ Q (loudD g rs) W
theorem ok__law_loud_node (F : Fz K mg "_law_loud_node" s__law_loud_node P__law_loud_node) (T : Txt K mg) (G__law_differences : Fx P w K mg base (L2.CX P w) "_law_differences" 2 P__law_differences (lift K F_ldif)) (G__law_node : Fx P w K mg base (L2.CX P w) "_law_node" 1 P__law_node (lift K F_lnode)) : Fx P w K mg base (L2.CX P w) "_law_loud_node" 3 P__law_loud_node (lift K F_lloud) := by
  refine F.okD sc__law_loud_node (fun ds W Q E h => by obtain ⟨y, rs, g, rfl, _⟩ := h; rfl) (fun f cdv A outer s H E e ds Qd Ed hr lk h => ?_)
  obtain ⟨y, rs, g, rfl, ⟨ws, vy, hws⟩, h3, k⟩ := h
  refine ⟨_, _, (pss_cons (ps_for (passes_of rfl) rfl (pi_any K (pv 0)) (pg_name (i := 2) sc__law_loud_node.nd rfl (Or.inl rfl)) (pss_one (ps_for (passes_of rfl) rfl (pi_any K (fcallX (takes_of rfl rfl rfl rfl) G__law_differences (hr.mono (by first | decide | omega)) (by rfl) (pa_cons (pe_ix (ix_U K (hu_of hr)) (pv 1) (pe_ix (ix_U K (hu_of hr)) (pv 2) pe_int (fun _ _ => rfl)) (fun _ _ => rfl)) (pa_cons (pe_callB (call_lenU K) (by rfl) T.b_len PySem.boot_len (pa_cons (pe_ix (ix_U K (hu_of hr)) (pe_ix (ix_U K (hu_of hr)) (pv 2) pe_int (fun _ _ => rfl)) pe_int (fun _ _ => rfl)) pa_nil)) (pa_cons (pe_lst (pa_cons pe_int pa_nil)) pa_nil))))) (pg_name (i := 3) sc__law_loud_node.nd rfl (Or.inl rfl)) (pss_one (ps_if (pt_cmpR (op_eqU K hr.units) (pe_ix (ix_U K (hu_of hr)) (pv 3) pe_int (fun _ _ => rfl)) pe_int (nomark _)) (pss_one (ps_ret (fcallX (takes_of rfl rfl rfl rfl) G__law_node (hr.mono (by first | decide | omega)) (by rfl) (pa_cons (pe_ix (ix_U K (hu_of hr)) (pv 2) pe_int (fun _ _ => rfl)) (pa_cons (pe_ix (ix_U K (hu_of hr)) (pv 2) pe_int (fun _ _ => rfl)) (pa_cons (pe_ix (ix_U K (hu_of hr)) (pv 3) pe_int (fun _ _ => rfl)) (pa_cons pe_str pa_nil))))))) pss_nil)))))
      (pss_one (ps_ret pe_non))), inferInstance, ?_⟩
  walk_at "d"
  refine for_map rowR rs (fun i S => ∃ v2 v3, S = ⟨[some (.val (.lst (rs.map rowR))), some (.val y), v2, v3], e.W⟩ ∧ (rs.take i).find? (isLd g) = none) ⟨_, _, rfl, rfl⟩ ?_ ?_
  · rintro i p S hi ⟨v2, v3, rfl, hn⟩
    have hpm := List.mem_of_getElem? hi
    obtain ⟨a, hl, ha, hw3⟩ := hws _ hpm
    have hq3 := h3 p hpm
    rw [show rowR p = D.tup [.str p.1, .tup [.tup (p.2.1.map fun q => .tup [q.1, q.2]), p.2.2]] from rfl]
    walk_at "d"
    refine dd1B_at vy ?_
    walk_at "d"
    rw [hl]
    walk_at "d"
    refine ⟨a, g p.1, p.2.1.length, [0], by rw [List.length_map]; rfl, ha, hw3, hq3, by decide, by decide, ?_⟩
    rw [prodA_one]
    walk_at "d"
    refine for_cons ?_
    rw [show List.replicate p.2.1.length (0 : Int) = zerosI p.2.1.length from rfl]
    walk_at "d"
    refine iteB_by (fun c => ?_) (fun c => ?_)
    · walk_at "d"
      refine ⟨p.2.1, p.2.2, .str "x", p.1, zerosI p.2.1.length, rfl, hq3, zeros_01.1, fun v hv => .inl (zeros_01.2 v hv), ?_⟩
      walk_at "d"
      have el := loud_some hi hn (decide_eq_true c)
      unfold loudD at k
      rw [el] at k
      exact k
    · walk_at "d"
      rw [for_nil]
      walk_at "d"
      exact ⟨_, _, rfl, loud_none hi hn (decide_eq_false c)⟩
  · rintro S ⟨v2, v3, rfl, hn⟩
    rw [List.take_length] at hn
    walk_at "d"
    unfold loudD loudP at k
    rw [hn] at k
    exact k
abbrev s__law_parts : Stmt := top 79
abbrev N__law_parts : List Str := ["_law_part_here", "_law_path", "_law_found", "_law_k"]
abbrev P__law_parts : List Str := ["_law_part_here", "_law_path"]
theorem sc__law_parts : FnScope N__law_parts P__law_parts (defScope s__law_parts) := ⟨rfl, rfl, rfl, by decide +kernel, rfl, by decide +kernel, by decide +kernel⟩
theorem partsD_str {n : Nat} {x : Str} {pre : List Int} : partsD (n + 1) (.str x) pre = [] := by
  rw [partsD]
  intro _ _ z
  cases z
def pthD (q : List Int × D) : D := .tup [.tup (q.1.map D.int), q.2]
def F_parts (n : Nat) : FSpec := fun ds W Q _ => ∃ (d : D) (pre : List Int) (rs : List RowR) (ns : List Str), ds = [d, .tup (pre.map D.int)] ∧ PartB ns rs n d ∧ (∀ p ∈ rs, p.2.1.length ≤ 3) ∧ pre.length + n ≤ 100 ∧ Q (.lst ((partsD n d pre).map pthD)) W
theorem ok__law_parts (F : Fz K mg "_law_parts" s__law_parts P__law_parts) (T : Txt K mg) : ∀ n, n ≤ 8 → Fx P w K mg base (L2.CX P w) "_law_parts" (n + 2) P__law_parts (lift K (F_parts n))
  | 0, _ => F.noneD fun ds W Q E ⟨_, _, _, _, _, z, _⟩ => z
  | n + 1, hn => by
    have G__law_parts := ok__law_parts F T n (by omega)
    refine F.okD sc__law_parts (fun ds W Q E h => by obtain ⟨d, pre, rs, ns, rfl, _⟩ := h; rfl) (fun f cdv A outer s H E e ds Qd Ed hr lk h => ?_)
    obtain ⟨d, pre, rs, ns, rfl, hp0, h3, hpl, k⟩ := h
    refine ⟨_, _, (pss_cons (ps_if (pt_val (pe_callB (call_isi1K K) (by rfl) T.b_isinstance (by decide +kernel) (pa_cons (pv 0) (pa_cons (pe_bltn (v := .ty "str") (by rfl) T.b_str (by decide +kernel) rfl) pa_nil)))) (pss_one (ps_ret (pe_lst pa_nil))) pss_nil)
      (pss_cons (ps_set (i := 2) sc__law_parts.nd rfl (Or.inl rfl) (pe_lst (pa_cons (pe_tup (pa_cons (pv 1) (pa_cons (pv 0) pa_nil))) pa_nil)))
      (pss_cons (ps_for (passes_of rfl) rfl (pi_range2 (by rfl) T.b_range (pa_cons pe_int (pa_cons (pe_callB (call_lenU K) (by rfl) T.b_len PySem.boot_len (pa_cons (pv 0) pa_nil)) pa_nil))) (pg_name (i := 3) sc__law_parts.nd rfl (Or.inl rfl)) (pss_one (ps_set (i := 2) sc__law_parts.nd rfl (Or.inl rfl) (pe_op (op_addU K) (pv 2) (fcallX (takes_of rfl rfl rfl rfl) G__law_parts (hr.mono (by first | decide | omega)) (by rfl) (pa_cons (pe_ix (ix_U K (hu_of hr)) (pe_ix (ix_U K (hu_of hr)) (pv 0) (pv 3) (fun _ _ => rfl)) pe_int (fun _ _ => rfl)) (pa_cons (pe_op (op_addU K) (pv 1) (pe_tup (pa_cons (pv 3) pa_nil))) pa_nil)))))))
      (pss_one (ps_ret (pv 2)))))), inferInstance, ?_⟩
    have h4n : (4 : Nat) ^ (n + 1) ≤ 4 ^ 8 := pow4_le hn
    have e48 : (4 : Nat) ^ 8 = 65536 := by decide
    have hlen := partsD_len (pre := pre) h3 hp0
    rcases hp0 with ⟨x, rfl, hx⟩ | ⟨p, ts, hpm, rfl, hl, hb, hq⟩ | ⟨d', kd, rfl, hp, hn, hk⟩
    · rw [partsD_str] at k
      walk_at "d"
      exact k
    · have l3 := h3 p hpm
      rw [partsD] at k hlen
      walk_at "d"
      refine ⟨⟨by omega, by omega, by simp only [List.length_map]; omega, by simp only [List.length_map]; omega⟩, ?_⟩
      rw [show ((((ts.map blk).length + 1 : Nat) : Int) - 1).toNat = ts.length by rw [List.length_map]; omega]
      refine for_rng (fun i S => ∃ v3, S = ⟨[some (.val (.tup (.str p.1 :: ts.map blk))), some (.val (.tup (pre.map D.int))), some (.val (.lst (((pre, .tup (.str p.1 :: ts.map blk)) :: (List.range i).flatMap fun i => partsD n (nrD ((ts.map blk).getD i .non)) (pre ++ [(i : Int) + 1])).map pthD))), v3], e.W⟩) ⟨_, rfl⟩ ?_ ?_
      · rintro i S hi ⟨v3, rfl⟩
        obtain ⟨q, eb⟩ : ∃ q, ts[i]? = some q := ⟨_, List.getElem?_eq_getElem hi⟩
        have ib : ∀ {z : Int}, z = ((i + 1 : Nat) : Int) → atI (.str p.1 :: ts.map blk) z = some (blk q) := fun hz => at_get hz (by rw [List.getElem?_cons_succ, List.getElem?_map, eb]; rfl)
        have ig : (ts.map blk).getD i .non = blk q := by rw [List.getD_eq_getElem?_getD, List.getElem?_map, eb]; rfl
        walk_at "d"
        rw [ib (by omega)]
        rw [show blk q = .tup [q.1, q.2.1, q.2.2] from rfl]
        walk_at "d"
        have hpre : pre.length ≤ 100 := by omega
        refine ⟨by simp; omega, q.2.2, pre ++ [(i : Int) + 1], rs, ns, by rw [List.map_append, Int.add_comm 1]; rfl, hq _ (List.mem_of_getElem? eb), h3, by simp; omega, ?_⟩
        have er : (List.range (i + 1)).flatMap (fun i => partsD n (nrD ((ts.map blk).getD i .non)) (pre ++ [(i : Int) + 1])) = (List.range i).flatMap (fun i => partsD n (nrD ((ts.map blk).getD i .non)) (pre ++ [(i : Int) + 1])) ++ partsD n q.2.2 (pre ++ [(i : Int) + 1]) := by
          rw [List.range_succ, List.flatMap_append, List.flatMap_cons, List.flatMap_nil, List.append_nil, ig]
          rfl
        have et : ((List.range (i + 1)).flatMap (fun i => partsD n (nrD ((ts.map blk).getD i .non)) (pre ++ [(i : Int) + 1]))).length ≤ ((List.range (ts.map blk).length).flatMap (fun i => partsD n (nrD ((ts.map blk).getD i .non)) (pre ++ [(i : Int) + 1]))).length := by
          have h0 : (List.range (ts.map blk).length) = List.range (i + 1) ++ (List.range (ts.map blk).length).drop (i + 1) := by
            have h1 := (List.take_append_drop (i + 1) (List.range (ts.map blk).length)).symm
            rw [List.take_range, show min (i + 1) (ts.map blk).length = i + 1 by rw [List.length_map]; omega] at h1
            exact h1
          rw [h0, List.flatMap_append, List.length_append]
          omega
        rw [List.length_cons] at hlen
        rw [er, List.length_append] at et
        rw [er]
        walk_at "d"
        refine ⟨by rw [List.length_map, List.length_map]; omega, some (.val (.int (1 + (i : Int)))), ?_⟩
        rw [List.map_append]
      · rintro S ⟨v3, rfl⟩
        rw [List.length_map] at k
        walk_at "d"
        exact k
    · exact hk.elim
abbrev s__law_around : Stmt := top 80
abbrev N__law_around : List Str := ["_law_part_here", "_law_path", "_law_kind", "_law_k", "_law_block"]
abbrev P__law_around : List Str := ["_law_part_here", "_law_path", "_law_kind"]
theorem sc__law_around : FnScope N__law_around P__law_around (defScope s__law_around) := ⟨rfl, rfl, rfl, by decide +kernel, rfl, by decide +kernel, by decide +kernel⟩
def F_around (n : Nat) : FSpec := fun ds W Q _ => ∃ (d e kd : D) (path : List Int) (rs : List RowR) (ns : List Str), ds = [d, .tup (path.map D.int), kd] ∧ SubP ns rs n d path e ∧ (∀ p ∈ rs, p.2.1.length ≤ 3) ∧ path.length ≤ 100 ∧ Q (arD kd path d) W
theorem ok__law_around (F : Fz K mg "_law_around" s__law_around P__law_around) (T : Txt K mg) : ∀ n, Fx P w K mg base (L2.CX P w) "_law_around" (n + 2) P__law_around (lift K (F_around n))
  | 0 => F.noneD fun ds W Q E ⟨_, _, _, path, _, _, _, z, _⟩ => by
    cases path with
    | nil => exact z.2.1
    | cons k ks => exact z
  | n + 1 => by
    have G__law_around := ok__law_around F T n
    refine F.okD sc__law_around (fun ds W Q E h => by obtain ⟨d, e, kd, path, rs, ns, rfl, _⟩ := h; rfl) (fun f cdv A outer s H E e ds Qd Ed hr lk h => ?_)
    obtain ⟨d, e1, kd, path, rs, ns, rfl, hs, h3, hpl, k⟩ := h
    refine ⟨_, _, (pss_cons (ps_if (pt_cmpR (op_eqU K hr.units) (pe_callB (call_lenU K) (by rfl) T.b_len PySem.boot_len (pa_cons (pv 1) pa_nil)) pe_int (nomark _)) (pss_one (ps_ret (pe_tup (pa_cons pe_str (pa_cons (pv 0) (pa_cons (pv 2) pa_nil)))))) pss_nil)
      (pss_cons (ps_set (i := 3) sc__law_around.nd rfl (Or.inl rfl) (pe_ix (ix_U K (hu_of hr)) (pv 1) pe_int (fun _ _ => rfl)))
      (pss_cons (ps_set (i := 4) sc__law_around.nd rfl (Or.inl rfl) (pe_tup (pa_cons (pe_ix (ix_U K (hu_of hr)) (pe_ix (ix_U K (hu_of hr)) (pv 0) (pv 3) (fun _ _ => rfl)) pe_int (fun _ _ => rfl)) (pa_cons (pe_ix (ix_U K (hu_of hr)) (pe_ix (ix_U K (hu_of hr)) (pv 0) (pv 3) (fun _ _ => rfl)) pe_int (fun _ _ => rfl)) (pa_cons (fcallX (takes_of rfl rfl rfl rfl) G__law_around (hr.mono (by first | decide | omega)) (by rfl) (pa_cons (pe_ix (ix_U K (hu_of hr)) (pe_ix (ix_U K (hu_of hr)) (pv 0) (pv 3) (fun _ _ => rfl)) pe_int (fun _ _ => rfl)) (pa_cons (pe_slice (sl_U K) (pv 1) (po_some pe_int) po_none) (pa_cons (pv 2) pa_nil)))) pa_nil)))))
      (pss_one (ps_ret (pe_op (op_addU K) (pe_op (op_addU K) (pe_slice (sl_U K) (pv 0) po_none (po_some (pv 3))) (pe_tup (pa_cons (pv 4) pa_nil))) (pe_slice (sl_U K) (pv 0) (po_some (pe_op (op_addU K) (pv 3) pe_int)) po_none))))))), inferInstance, ?_⟩
    cases path with
    | nil =>
      rw [arD] at k
      walk_at "d"
      refine iteB_T (by omega) ?_
      walk_at "d"
      exact k
    | cons z ks =>
      obtain ⟨p, ts, i, t, hpm, rfl, hl, hb, ht, rfl, hi, hsub⟩ := hs
      rw [arD_cons hi] at k
      have hil := (List.getElem?_eq_some_iff.mp hi).1
      have l3 := h3 p hpm
      have ib : ∀ {z : Int}, z = ((i + 1 : Nat) : Int) → atI (.str p.1 :: ts.map blk) z = some (blk t) := fun hz => at_get hz (by rw [List.getElem?_cons_succ, List.getElem?_map, hi]; rfl)
      walk_at "d"
      refine iteB_F (by omega) ?_
      walk_at "d"
      rw [ib (by omega)]
      rw [show blk t = .tup [t.1, t.2.1, t.2.2] from rfl]
      walk_at "d"
      rw [ib (by omega)]
      rw [show blk t = .tup [t.1, t.2.1, t.2.2] from rfl]
      walk_at "d"
      rw [ib (by omega)]
      rw [show blk t = .tup [t.1, t.2.1, t.2.2] from rfl]
      walk_at "d"
      refine ⟨t.2.2, e1, kd, ks, rs, ns, rfl, hsub, h3, by rw [List.length_cons] at hpl; omega, ?_⟩
      walk_at "d"
      rw [cut_to (i := i + 1) (by omega) (by simp; omega), cut_from (i := i + 1 + 1) (by omega) (by simp; omega), List.take_succ_cons, List.drop_succ_cons]
      have es : (ts.map blk).take i ++ D.tup [t.1, t.2.1, arD kd ks t.2.2] :: (ts.map blk).drop (i + 1) = (ts.set i (t.1, t.2.1, arD kd ks t.2.2)).map blk := map_set_blk (t := (t.1, t.2.1, arD kd ks t.2.2)) hil
      rw [← es] at k
      walk_at "d"
      refine ⟨by simp; omega, by simp; omega, ?_⟩
      rw [List.append_assoc]
      exact k
abbrev s__law_quiet : Stmt := top 78
abbrev N__law_quiet : List Str := ["_law_book_here", "_law_rules", "_law_ways", "_law_loud", "_law_values", "_law_due", "_law_rule_row", "_law_rows_here", "_law_case", "_law_node_here"]
abbrev P__law_quiet : List Str := ["_law_book_here", "_law_rules", "_law_ways"]
theorem sc__law_quiet : FnScope N__law_quiet P__law_quiet (defScope s__law_quiet) := ⟨rfl, rfl, rfl, by decide +kernel, rfl, by decide +kernel, by decide +kernel⟩
theorem atI_lst {α : Type} {xs : List α} {x : α} : atI (xs ++ [x]) (-1) = some x := by
  unfold atI
  have : ixN (xs ++ [x]).length (-1) = some xs.length := by
    unfold ixN
    rw [if_neg (by omega)]
    simp
    omega
  rw [this]
  simp
theorem isN_non {d : D} (h : isN d = true) : d = .non := by cases d <;> first | rfl | cases h
theorem tsL_get {qs : List (D × D)} {r : List Int} {L : D} {i : Nat} {q : D × D} (h : qs[i]? = some q) : (tsL qs r L)[i]? = some (if isN q.1 then .non else .str "y", .non, if r.getD i 0 = 1 then L else .str "x") := by
  have hi := (List.getElem?_eq_some_iff.mp h).1
  rw [tsL, List.getElem?_map, List.getElem?_range hi, Option.map_some, List.getD_eq_getElem?_getD, h]; rfl
theorem tsL_len {qs : List (D × D)} {r : List Int} {L : D} : (tsL qs r L).length = qs.length := by simp [tsL]
theorem mem_getD {r : List Int} {i : Nat} (h : r.getD i 0 = 1) : (1 : Int) ∈ r := by
  rw [List.getD_eq_getElem?_getD] at h
  cases c : r[i]? with
  | none => rw [c] at h; cases h
  | some v => rw [c] at h; have h : v = 1 := h; rw [← h]; exact List.mem_of_getElem? c
theorem tsL_bare {qs : List (D × D)} {r : List Int} {L : D} : ∀ t ∈ tsL qs r L, t.2.1 = .non := fun t ht => by
  obtain ⟨i, _, rfl⟩ := List.mem_map.mp ht
  rfl
theorem nodeL_part {ss : List (Str × Str)} {rs : List RowR} {n : Nat} {p : RowR} {r : List Int} {L : D} (hp : p ∈ rs) (hL : (1 : Int) ∈ r → PartP ss rs (n + 1) L) : PartP ss rs (n + 2) (nodeL p.2.1 p.1 r L) := by
  refine .inr (.inl ⟨p, tsL p.2.1 r L, hp, rfl, tsL_len, fun i q t a b => ?_, fun t ht => ?_⟩)
  · rw [tsL_get a] at b
    cases b
    by_cases c : isN q.1 = true
    · exact .inl ⟨isN_non c, if_pos c, rfl⟩
    · exact .inr ⟨fun z => c (by rw [z]; rfl), ⟨"y", if_neg c, by decide +kernel⟩, .inl rfl⟩
  · obtain ⟨i, _, rfl⟩ := List.mem_map.mp ht
    show PartP ss rs (n + 1) (if r.getD i 0 = 1 then L else .str "x")
    split
    · rename_i c
      exact hL (mem_getD c)
    · exact .inl ⟨"x", rfl, by decide +kernel⟩
theorem nodeL_need {g : Str → List Wy} {n : Nat} {p : RowR} {r : List Int} {L : D} (hw : isWord p.1 = true) (hl : r.length = p.2.1.length) (h01 : ∀ v ∈ r, v = 0 ∨ v = 1) (hL : (1 : Int) ∈ r → (needP g n L).2 - (needP g n L).1 = 1) : (needP g (n + 1) (nodeL p.2.1 p.1 r L)).2 - (needP g (n + 1) (nodeL p.2.1 p.1 r L)).1 = dif1 (g p.1) r := by
  unfold nodeL
  rw [need_bare hw tsL_bare, upN_dif]
  congr 1
  rw [List.map_map]
  refine List.ext_getElem? fun i => ?_
  rw [List.getElem?_map]
  by_cases hi : i < p.2.1.length
  · rw [tsL_get (List.getElem?_eq_getElem hi), List.getElem?_eq_getElem (by omega)]
    have hv := h01 r[i] (List.getElem_mem _)
    have hg : r.getD i 0 = r[i] := by rw [List.getD_eq_getElem?_getD, List.getElem?_eq_getElem (by omega)]; rfl
    show some ((needP g n (if r.getD i 0 = 1 then L else .str "x")).2 - (needP g n (if r.getD i 0 = 1 then L else .str "x")).1) = some r[i]
    rw [hg]
    rcases hv with h | h
    · rw [h, if_neg (by decide)]
      cases n <;> rfl
    · rw [h, if_pos rfl, hL (by rw [← h]; exact List.getElem_mem _)]
  · rw [List.getElem?_eq_none (by rw [tsL_len]; omega), List.getElem?_eq_none (by omega)]; rfl
theorem loud_facts {ss : List (Str × Str)} {g : Str → List Wy} {rs : List RowR} (wd : ∀ p ∈ rs, isWord p.1 = true) (h : (1 : Int) ∈ knownI g rs) : PartP ss rs 11 (loudD g rs) ∧ (needP g 11 (loudD g rs)).2 - (needP g 11 (loudD g rs)).1 = 1 := by
  obtain ⟨p, hp, e, hl⟩ := known_1 h
  unfold loudD
  rw [e]
  dsimp only
  have hz : ¬ (1 : Int) ∈ zerosI p.2.1.length := fun z => absurd (zeros_01.2 _ z) (by decide)
  refine ⟨nodeL_part (n := 9) hp fun z => absurd z hz, ?_⟩
  rw [nodeL_need (wd p hp) zeros_01.1 (fun v hv => .inl (zeros_01.2 v hv)) fun z => absurd z hz]
  exact of_decide_eq_true hl
def F_lquiet (CB CT CS : Addr) : FSpec := fun ds W Q _ => ∃ (a t b r : Addr) (ss us : List (Str × Str)) (rs : List RowR) (ws : List (Key × D)) (g : Str → List Wy) (y : D), ds = [.ref a, .lst (rs.map rowR), y] ∧ BkQ CB CT CS W a t b r ss us rs ws g ∧ WyR W y rs g ∧ rs.length ≤ 8 ∧ Q (.lst ((quietL g rs).map D.str)) W
theorem ok__law_quiet (F : Fz K mg "_law_quiet" s__law_quiet P__law_quiet) (T : Txt K mg) (G__law_loud_node : Fx P w K mg base (L2.CX P w) "_law_loud_node" 3 P__law_loud_node (lift K F_lloud)) (G__law_differences : Fx P w K mg base (L2.CX P w) "_law_differences" 2 P__law_differences (lift K F_ldif)) (G__law_node : Fx P w K mg base (L2.CX P w) "_law_node" 1 P__law_node (lift K F_lnode)) (M_Book_need : Mx P w K mg base (clsA mg "Book") "need" 24 P_Book_need [.bl false] (lift K (F_bkNeed (clsA mg "Book") (clsA mg "Table") (clsA mg "Stock") 12))) (MK_Book_need : MxK P w K mg base (clsA mg "Book") "need" 24 P_Book_need 2 ["told"] (lift K (F_bkNeed (clsA mg "Book") (clsA mg "Table") (clsA mg "Stock") 12))) : Fx P w K mg base (L2.CX P w) "_law_quiet" 25 P__law_quiet (lift K (F_lquiet (clsA mg "Book") (clsA mg "Table") (clsA mg "Stock"))) := by
  refine F.okD sc__law_quiet (fun ds W Q E h => by obtain ⟨a, t, b, r, ss, us, rs, ws, g, y, rfl, _⟩ := h; rfl) (fun f cdv A outer s H E e ds Qd Ed hr lk h => ?_)
  obtain ⟨a, t, b, r, ss, us, rs, ws, g, y, rfl, hq, hw, hl8, k⟩ := h
  refine ⟨_, _, (pss_cons (ps_set (i := 3) sc__law_quiet.nd rfl (Or.inl rfl) (fcallX (takes_of rfl rfl rfl rfl) G__law_loud_node (hr.mono (by first | decide | omega)) (by rfl) (pa_cons (pv 1) (pa_cons (pv 2) pa_nil))))
      (pss_cons (ps_set (i := 4) sc__law_quiet.nd rfl (Or.inl rfl) (pe_lst (pa_cons pe_int (pa_cons pe_int pa_nil))))
      (pss_cons (ps_if (pt_cmpR op_isNU (pv 3) pe_non (nomark _)) (pss_one (ps_set (i := 4) sc__law_quiet.nd rfl (Or.inl rfl) (pe_lst (pa_cons pe_int pa_nil)))) pss_nil)
      (pss_cons (setO_of (ps_set (i := 5) sc__law_quiet.nd rfl (Or.inl rfl) (pe_lst pa_nil)))
      (pss_cons (ps_for (passes_of rfl) rfl (pi_any K (pv 1)) (pg_name (i := 6) sc__law_quiet.nd rfl (Or.inl rfl)) (pss_cons (setO_of (ps_set (i := 7) sc__law_quiet.nd rfl (Or.inl rfl) (pe_lst pa_nil)))
      (pss_cons (ps_for (passes_of rfl) rfl (pi_any K (fcallX (takes_of rfl rfl rfl rfl) G__law_differences (hr.mono (by first | decide | omega)) (by rfl) (pa_cons (pe_ix (ix_U K (hu_of hr)) (pv 2) (pe_ix (ix_U K (hu_of hr)) (pv 6) pe_int (fun _ _ => rfl)) (fun _ _ => rfl)) (pa_cons (pe_callB (call_lenU K) (by rfl) T.b_len PySem.boot_len (pa_cons (pe_ix (ix_U K (hu_of hr)) (pe_ix (ix_U K (hu_of hr)) (pv 6) pe_int (fun _ _ => rfl)) pe_int (fun _ _ => rfl)) pa_nil)) (pa_cons (pv 4) pa_nil))))) (pg_name (i := 8) sc__law_quiet.nd rfl (Or.inl rfl)) (pss_one (ps_if (pt_cmpR (op_eqU K hr.units) (pe_ix (ix_U K (hu_of hr)) (pv 8) pe_int (fun _ _ => rfl)) pe_int (nomark _)) (pss_one (ps_expr (pe_bmK K PySem.F.plainAttrs_list PySem.F.slot_list_append PySem.F.type_list_append mt_append (pv 7) (pa_cons (pe_ix (ix_U K (hu_of hr)) (pv 8) pe_int (fun _ _ => rfl)) pa_nil)))) pss_nil)))
      (pss_one (ps_if (pt_cmpR (op_eqU K hr.units) (pe_callB (call_lenU K) (by rfl) T.b_len PySem.boot_len (pa_cons (pv 7) pa_nil)) pe_int (nomark _)) (pss_one (ps_expr (pe_bmK K PySem.F.plainAttrs_list PySem.F.slot_list_append PySem.F.type_list_append mt_append (pv 5) (pa_cons (pe_ix (ix_U K (hu_of hr)) (pv 6) pe_int (fun _ _ => rfl)) pa_nil)))) (pss_cons (ps_set (i := 9) sc__law_quiet.nd rfl (Or.inl rfl) (fcallX (takes_of rfl rfl rfl rfl) G__law_node (hr.mono (by first | decide | omega)) (by rfl) (pa_cons (pe_ix (ix_U K (hu_of hr)) (pv 6) pe_int (fun _ _ => rfl)) (pa_cons (pe_ix (ix_U K (hu_of hr)) (pv 6) pe_int (fun _ _ => rfl)) (pa_cons (pe_ix (ix_U K (hu_of hr)) (pv 7) (pe_un un_neg pe_int) (fun _ _ => rfl)) (pa_cons (pv 3) pa_nil))))))
      (pss_one (ps_if (pt_cmpR (op_neU K hr.units) (pe_op op_subU (mcallX (takes_of rfl rfl rfl rfl) T.k_Book M_Book_need (hr.mono (by first | decide | omega)) (pv 0) (pa_cons (pv 9) pa_nil)) (mcallKX (takes_of rfl rfl rfl rfl) T.k_Book MK_Book_need (hr.mono (by first | decide | omega)) (pv 0) (pa_cons (pv 9) pa_nil) (pk_cons pe_bl pk_nil))) pe_int (nomark _)) (pss_one (ps_ret pe_non)) pss_nil))))))))
      (pss_one (ps_ret (pv 5)))))))), inferInstance, ?_⟩
  have vo := hq.v.o
  unfold bkC at vo
  have wd : ∀ p ∈ rs, isWord p.1 = true := fun p hp => (hq.bk.tb.wd p hp).1
  have h3 : ∀ p ∈ rs, p.2.1.length ≤ 3 := fun p hp => (hq.bk.tb.wd p hp).2
  have lf := loud_facts (ss := ss) (g := g) wd
  walk_at "d"
  refine ⟨y, rs, g, rfl, hw, h3, ?_⟩
  walk_at "d"
  obtain ⟨ws2, vy, hws⟩ := hw
  have eN : isN (loudD g rs) = (loudP g rs).isNone := by
    unfold loudD
    cases loudP g rs <;> rfl
  generalize loudD g rs = L at lf eN ⊢
  refine iteB_by (fun c => ?_) (fun c => ?_)
  · have c : isN L = true := c
    rw [eN] at c
    have ek : [D.int 0] = (knownI g rs).map D.int := by
      unfold knownI
      rw [if_pos c]; rfl
    walk_at "d"
    rw [ek]
    refine for_map rowR rs (fun i S => ∃ v6 v7 v8 v9, S = ⟨[some (.val (.ref a)), some (.val (.lst (rs.map rowR))), some (.val y), some (.val L), some (.val (.lst ((knownI g rs).map D.int))), some (.ownL ((((rs.take i).filter (isQt g rs)).map (·.1)).map D.str)), v6, v7, v8, v9], e.W⟩) ⟨_, _, _, _, rfl⟩ ?_ ?_
    · rintro i p S hi ⟨v6, v7, v8, v9, rfl⟩
      have hpm := List.mem_of_getElem? hi
      have hil := (List.getElem?_eq_some_iff.mp hi).1
      obtain ⟨a', hl, ha, hw3⟩ := hws _ hpm
      have hq3 := h3 p hpm
      have hdl : ((rs.take i).filter (isQt g rs)).length ≤ 8 := by
        have h1 := List.length_filter_le (isQt g rs) (rs.take i)
        have h2 := List.length_take_le' i rs
        omega
      rw [take_succ_get hi, List.filter_append, List.filter_cons, List.filter_nil]
      generalize (rs.take i).filter (isQt g rs) = du at hdl ⊢
      rw [show rowR p = D.tup [.str p.1, .tup [.tup (p.2.1.map fun q => .tup [q.1, q.2]), p.2.2]] from rfl]
      walk_at "d"
      refine dd1B_at vy ?_
      walk_at "d"
      rw [hl]
      walk_at "d"
      refine ⟨a', g p.1, p.2.1.length, knownI g rs, by rw [List.length_map], ha, hw3, hq3, known_len, fun v hv => by rcases known_01.2 v hv with h | h <;> omega, ?_⟩
      walk_at "d"
      have hpl := prodA_len (knownI g rs) p.2.1.length
      have hp2 := pow_le625 (show (knownI g rs).length ≤ 5 by have := known_len (g := g) (rs := rs); omega) (show p.2.1.length ≤ 4 by omega)
      have hmem : ∀ r ∈ prodA (knownI g rs) p.2.1.length, r.length = p.2.1.length ∧ ∀ v ∈ r, v ∈ knownI g rs := fun r hr => mem_prodA.mp hr
      have eqt : isQt g rs p = (((prodA (knownI g rs) p.2.1.length).filter fun r => decide (dif1 (g p.1) r = 1)).isEmpty) := by
        unfold isQt
        rw [Bool.eq_iff_iff, List.isEmpty_iff, List.filter_eq_nil_iff, List.all_eq_true]
        exact forall₂_congr fun r hr => by simp
      refine for_map (fun r => D.tup [.int (dif1 (g p.1) r), .lst (r.map D.int)]) (prodA (knownI g rs) p.2.1.length) (fun j S => ∃ v8, S = ⟨[some (.val (.ref a)), some (.val (.lst (rs.map rowR))), some (.val y), some (.val L), some (.val (.lst ((knownI g rs).map D.int))), some (.ownL ((du.map (·.1)).map D.str)), some (.val (D.tup [.str p.1, .tup [.tup (p.2.1.map fun q => .tup [q.1, q.2]), p.2.2]])), some (.ownL ((((prodA (knownI g rs) p.2.1.length).take j).filter fun r => decide (dif1 (g p.1) r = 1)).map fun r => .lst (r.map D.int))), v8, v9], e.W⟩) ⟨_, rfl⟩ ?_ ?_
      · rintro j r2 S hj ⟨v8, rfl⟩
        rw [take_succ_get hj, List.filter_append, List.filter_cons, List.filter_nil]
        have hfl : (((prodA (knownI g rs) p.2.1.length).take j).filter fun r => decide (dif1 (g p.1) r = 1)).length ≤ 625 := by
          have h1 := List.length_filter_le (fun r => decide (dif1 (g p.1) r = 1)) ((prodA (knownI g rs) p.2.1.length).take j)
          have h2 := List.length_take_le' j (prodA (knownI g rs) p.2.1.length)
          omega
        generalize ((prodA (knownI g rs) p.2.1.length).take j).filter (fun r => decide (dif1 (g p.1) r = 1)) = fl at hfl ⊢
        walk_at "d"
        refine iteB_by (fun c2 => ?_) (fun c2 => ?_)
        · walk_at "d"
          rw [if_pos c2, List.map_append]
          exact ⟨by simp; omega, _, rfl⟩
        · walk_at "d"
          rw [if_neg c2, List.append_nil]
          exact ⟨_, rfl⟩
      · rintro S ⟨v8, rfl⟩
        rw [List.take_length]
        rw [eqt]
        have hfm : ∀ r ∈ (prodA (knownI g rs) p.2.1.length).filter (fun r => decide (dif1 (g p.1) r = 1)), dif1 (g p.1) r = 1 ∧ r.length = p.2.1.length ∧ ∀ v ∈ r, v ∈ knownI g rs := fun r hr => by
          obtain ⟨h1, h2⟩ := List.mem_filter.mp hr
          exact ⟨of_decide_eq_true h2, hmem r h1⟩
        generalize (prodA (knownI g rs) p.2.1.length).filter (fun r => decide (dif1 (g p.1) r = 1)) = fl at hfm ⊢
        walk_at "d"
        refine iteB_by (fun c2 => ?_) (fun c2 => ?_)
        · have hfn : fl = [] := by
            rw [List.length_map] at c2
            exact List.length_eq_zero_iff.mp (by omega)
          subst hfn
          walk_at "d"
          refine ⟨by simp; omega, some (.val (D.tup [.str p.1, .tup [.tup (p.2.1.map fun q => .tup [q.1, q.2]), p.2.2]])), some (.ownL []), v8, v9, ?_⟩
          rw [show (if ([] : List (List Int)).isEmpty = true then [p] else []) = [p] from rfl, List.map_append, List.map_append]
          rfl
        · have hfn : fl ≠ [] := fun z => by rw [z] at c2; exact c2 rfl
          obtain ⟨r0, hr0, elast⟩ : ∃ r0, r0 ∈ fl ∧ atI (fl.map fun r => D.lst (r.map D.int)) (-1) = some (.lst (r0.map D.int)) := by
            obtain ⟨l, r0, rfl⟩ : ∃ l r0, fl = l ++ [r0] := ⟨_, _, (List.dropLast_concat_getLast hfn).symm⟩
            exact ⟨r0, by simp, by rw [List.map_append]; exact atI_lst⟩
          obtain ⟨q1, q2, q3⟩ := hfm r0 hr0
          have q4 : ∀ v ∈ r0, v = 0 ∨ v = 1 := fun v hv => known_01.2 v (q3 v hv)
          walk_at "d"
          rw [elast]
          walk_at "d"
          refine ⟨p.2.1, p.2.2, L, p.1, r0, rfl, hq3, q2, q4, ?_⟩
          have q5 := nodeL_part (ss := ss) (r := r0) (L := L) (n := 10) hpm fun z => (lf (q3 1 z)).1
          have q6 := nodeL_need (g := g) (n := 11) (wd p hpm) q2 q4 fun z => (lf (q3 1 z)).2
          rw [q1] at q6
          walk_at "d"
          refine dd1B_at vo ?_
          walk_at "d"
          refine ⟨a, t, b, r, ss, us, rs, ws, g, _, false, rfl, hq.bk, q5, ?_⟩
          walk_at "d"
          refine dd1B_at vo ?_
          walk_at "d"
          refine ⟨a, t, b, r, ss, us, rs, ws, g, _, true, rfl, hq.bk, q5, ?_⟩
          walk_at "d"
          refine iteB_F (fun z => z q6) ?_
          walk_at "d"
          rw [show (if fl.isEmpty = true then [p] else []) = [] from if_neg (by rw [List.isEmpty_iff]; exact hfn), List.append_nil]
          exact ⟨_, _, _, _, rfl⟩
    · rintro S ⟨v6, v7, v8, v9, rfl⟩
      rw [List.take_length]
      walk_at "d"
      exact k
  · have c : ¬ isN L = true := c
    rw [eN] at c
    have ek : [D.int 0, D.int 1] = (knownI g rs).map D.int := by
      unfold knownI
      rw [if_neg c]; rfl
    walk_at "d"
    rw [ek]
    refine for_map rowR rs (fun i S => ∃ v6 v7 v8 v9, S = ⟨[some (.val (.ref a)), some (.val (.lst (rs.map rowR))), some (.val y), some (.val L), some (.val (.lst ((knownI g rs).map D.int))), some (.ownL ((((rs.take i).filter (isQt g rs)).map (·.1)).map D.str)), v6, v7, v8, v9], e.W⟩) ⟨_, _, _, _, rfl⟩ ?_ ?_
    · rintro i p S hi ⟨v6, v7, v8, v9, rfl⟩
      have hpm := List.mem_of_getElem? hi
      have hil := (List.getElem?_eq_some_iff.mp hi).1
      obtain ⟨a', hl, ha, hw3⟩ := hws _ hpm
      have hq3 := h3 p hpm
      have hdl : ((rs.take i).filter (isQt g rs)).length ≤ 8 := by
        have h1 := List.length_filter_le (isQt g rs) (rs.take i)
        have h2 := List.length_take_le' i rs
        omega
      rw [take_succ_get hi, List.filter_append, List.filter_cons, List.filter_nil]
      generalize (rs.take i).filter (isQt g rs) = du at hdl ⊢
      rw [show rowR p = D.tup [.str p.1, .tup [.tup (p.2.1.map fun q => .tup [q.1, q.2]), p.2.2]] from rfl]
      walk_at "d"
      refine dd1B_at vy ?_
      walk_at "d"
      rw [hl]
      walk_at "d"
      refine ⟨a', g p.1, p.2.1.length, knownI g rs, by rw [List.length_map], ha, hw3, hq3, known_len, fun v hv => by rcases known_01.2 v hv with h | h <;> omega, ?_⟩
      walk_at "d"
      have hpl := prodA_len (knownI g rs) p.2.1.length
      have hp2 := pow_le625 (show (knownI g rs).length ≤ 5 by have := known_len (g := g) (rs := rs); omega) (show p.2.1.length ≤ 4 by omega)
      have hmem : ∀ r ∈ prodA (knownI g rs) p.2.1.length, r.length = p.2.1.length ∧ ∀ v ∈ r, v ∈ knownI g rs := fun r hr => mem_prodA.mp hr
      have eqt : isQt g rs p = (((prodA (knownI g rs) p.2.1.length).filter fun r => decide (dif1 (g p.1) r = 1)).isEmpty) := by
        unfold isQt
        rw [Bool.eq_iff_iff, List.isEmpty_iff, List.filter_eq_nil_iff, List.all_eq_true]
        exact forall₂_congr fun r hr => by simp
      refine for_map (fun r => D.tup [.int (dif1 (g p.1) r), .lst (r.map D.int)]) (prodA (knownI g rs) p.2.1.length) (fun j S => ∃ v8, S = ⟨[some (.val (.ref a)), some (.val (.lst (rs.map rowR))), some (.val y), some (.val L), some (.val (.lst ((knownI g rs).map D.int))), some (.ownL ((du.map (·.1)).map D.str)), some (.val (D.tup [.str p.1, .tup [.tup (p.2.1.map fun q => .tup [q.1, q.2]), p.2.2]])), some (.ownL ((((prodA (knownI g rs) p.2.1.length).take j).filter fun r => decide (dif1 (g p.1) r = 1)).map fun r => .lst (r.map D.int))), v8, v9], e.W⟩) ⟨_, rfl⟩ ?_ ?_
      · rintro j r2 S hj ⟨v8, rfl⟩
        rw [take_succ_get hj, List.filter_append, List.filter_cons, List.filter_nil]
        have hfl : (((prodA (knownI g rs) p.2.1.length).take j).filter fun r => decide (dif1 (g p.1) r = 1)).length ≤ 625 := by
          have h1 := List.length_filter_le (fun r => decide (dif1 (g p.1) r = 1)) ((prodA (knownI g rs) p.2.1.length).take j)
          have h2 := List.length_take_le' j (prodA (knownI g rs) p.2.1.length)
          omega
        generalize ((prodA (knownI g rs) p.2.1.length).take j).filter (fun r => decide (dif1 (g p.1) r = 1)) = fl at hfl ⊢
        walk_at "d"
        refine iteB_by (fun c2 => ?_) (fun c2 => ?_)
        · walk_at "d"
          rw [if_pos c2, List.map_append]
          exact ⟨by simp; omega, _, rfl⟩
        · walk_at "d"
          rw [if_neg c2, List.append_nil]
          exact ⟨_, rfl⟩
      · rintro S ⟨v8, rfl⟩
        rw [List.take_length]
        rw [eqt]
        have hfm : ∀ r ∈ (prodA (knownI g rs) p.2.1.length).filter (fun r => decide (dif1 (g p.1) r = 1)), dif1 (g p.1) r = 1 ∧ r.length = p.2.1.length ∧ ∀ v ∈ r, v ∈ knownI g rs := fun r hr => by
          obtain ⟨h1, h2⟩ := List.mem_filter.mp hr
          exact ⟨of_decide_eq_true h2, hmem r h1⟩
        generalize (prodA (knownI g rs) p.2.1.length).filter (fun r => decide (dif1 (g p.1) r = 1)) = fl at hfm ⊢
        walk_at "d"
        refine iteB_by (fun c2 => ?_) (fun c2 => ?_)
        · have hfn : fl = [] := by
            rw [List.length_map] at c2
            exact List.length_eq_zero_iff.mp (by omega)
          subst hfn
          walk_at "d"
          refine ⟨by simp; omega, some (.val (D.tup [.str p.1, .tup [.tup (p.2.1.map fun q => .tup [q.1, q.2]), p.2.2]])), some (.ownL []), v8, v9, ?_⟩
          rw [show (if ([] : List (List Int)).isEmpty = true then [p] else []) = [p] from rfl, List.map_append, List.map_append]
          rfl
        · have hfn : fl ≠ [] := fun z => by rw [z] at c2; exact c2 rfl
          obtain ⟨r0, hr0, elast⟩ : ∃ r0, r0 ∈ fl ∧ atI (fl.map fun r => D.lst (r.map D.int)) (-1) = some (.lst (r0.map D.int)) := by
            obtain ⟨l, r0, rfl⟩ : ∃ l r0, fl = l ++ [r0] := ⟨_, _, (List.dropLast_concat_getLast hfn).symm⟩
            exact ⟨r0, by simp, by rw [List.map_append]; exact atI_lst⟩
          obtain ⟨q1, q2, q3⟩ := hfm r0 hr0
          have q4 : ∀ v ∈ r0, v = 0 ∨ v = 1 := fun v hv => known_01.2 v (q3 v hv)
          walk_at "d"
          rw [elast]
          walk_at "d"
          refine ⟨p.2.1, p.2.2, L, p.1, r0, rfl, hq3, q2, q4, ?_⟩
          have q5 := nodeL_part (ss := ss) (r := r0) (L := L) (n := 10) hpm fun z => (lf (q3 1 z)).1
          have q6 := nodeL_need (g := g) (n := 11) (wd p hpm) q2 q4 fun z => (lf (q3 1 z)).2
          rw [q1] at q6
          walk_at "d"
          refine dd1B_at vo ?_
          walk_at "d"
          refine ⟨a, t, b, r, ss, us, rs, ws, g, _, false, rfl, hq.bk, q5, ?_⟩
          walk_at "d"
          refine dd1B_at vo ?_
          walk_at "d"
          refine ⟨a, t, b, r, ss, us, rs, ws, g, _, true, rfl, hq.bk, q5, ?_⟩
          walk_at "d"
          refine iteB_F (fun z => z q6) ?_
          walk_at "d"
          rw [show (if fl.isEmpty = true then [p] else []) = [] from if_neg (by rw [List.isEmpty_iff]; exact hfn), List.append_nil]
          exact ⟨_, _, _, _, rfl⟩
    · rintro S ⟨v6, v7, v8, v9, rfl⟩
      rw [List.take_length]
      walk_at "d"
      exact k
abbrev s__law_right : Stmt := top 81
abbrev N__law_right : List Str := ["_law_book_here", "_law_rules", "_law_ways", "_law_program", "_law_kind", "_law_answer", "_law_whole_need", "_law_row"]
abbrev P__law_right : List Str := ["_law_book_here", "_law_rules", "_law_ways", "_law_program", "_law_kind"]
theorem sc__law_right : FnScope N__law_right P__law_right (defScope s__law_right) := ⟨rfl, rfl, rfl, by decide +kernel, rfl, by decide +kernel, by decide +kernel⟩
section
variable {g : Str → List Wy} {rs : List RowR} {ns : List Str}
theorem SubP.mono : ∀ {n m : Nat} {d : D} {path : List Int} {e : D}, SubP ns rs n d path e → n ≤ m → SubP ns rs m d path e
  | n, m, d, [], e, ⟨h1, h2, h3⟩, h => ⟨h1, h2.mono h, h3⟩
  | n + 1, m + 1, d, k :: ks, e, ⟨p, ts, i, t, h1, h2, h3, h4, h5, h6, h7, h8⟩, h => ⟨p, ts, i, t, h1, h2, h3, h4, fun t ht => (h5 t ht).mono (by omega), h6, h7, SubP.mono h8 (by omega)⟩
  | 0, _, _, _ :: _, _, h, _ => h.elim
  | n + 1, 0, _, _ :: _, _, _, h => by omega
theorem SubP.len : ∀ {n : Nat} {d : D} {path : List Int} {e : D}, SubP ns rs n d path e → path.length ≤ n
  | n, d, [], e, _ => Nat.zero_le _
  | n + 1, d, k :: ks, e, ⟨p, ts, i, t, h1, h2, h3, h4, h5, h6, h7, h8⟩ => by
    have := SubP.len h8
    rw [List.length_cons]
    omega
  | 0, _, _ :: _, _, h => h.elim
end
def F_right43 (CB CT CS : Addr) : FSpec := fun ds W Q _ => ∃ (a t b r : Addr) (ss us : List (Str × Str)) (rs : List RowR) (ws : List (Key × D)) (g : Str → List Wy) (y d kd : D) (ns : List Str), ds = [.ref a, .lst (rs.map rowR), y, d, kd] ∧ BkQ CB CT CS W a t b r ss us rs ws g ∧ WyR W y rs g ∧ rs.length ≤ 8 ∧ PartB ns rs 6 d ∧ (∀ x ∈ ns, isWord x = true) ∧ KindOk ss kd ∧ Q (.bl true) W
theorem ok__law_right43 (F : Fz K mg "_law_right" s__law_right P__law_right) (T : Txt K mg) (G_quiet_signs : Fx P w K mg base (L2.CX P w) "quiet_signs" 8 P_quiet_signs (lift K (F_quiet (clsA mg "Book") (clsA mg "Table") (clsA mg "Stock")))) (G__law_quiet : Fx P w K mg base (L2.CX P w) "_law_quiet" 25 P__law_quiet (lift K (F_lquiet (clsA mg "Book") (clsA mg "Table") (clsA mg "Stock")))) (G__law_parts : Fx P w K mg base (L2.CX P w) "_law_parts" 8 P__law_parts (lift K (F_parts 6))) (G__law_around : Fx P w K mg base (L2.CX P w) "_law_around" 8 P__law_around (lift K (F_around 6))) (M_Book_need : Mx P w K mg base (clsA mg "Book") "need" 24 P_Book_need [.bl false] (lift K (F_bkNeed (clsA mg "Book") (clsA mg "Table") (clsA mg "Stock") 12))) (MK_Book_need : MxK P w K mg base (clsA mg "Book") "need" 24 P_Book_need 2 ["told"] (lift K (F_bkNeed (clsA mg "Book") (clsA mg "Table") (clsA mg "Stock") 12))) : Fx P w K mg base (L2.CX P w) "_law_right" 26 P__law_right (lift K (F_right43 (clsA mg "Book") (clsA mg "Table") (clsA mg "Stock"))) := by
  refine F.okD sc__law_right (fun ds W Q E h => by obtain ⟨a, t, b, r, ss, us, rs, ws, g, y, d, kd, ns, rfl, _⟩ := h; rfl) (fun f cdv A outer s H E e ds Qd Ed hr lk h => ?_)
  obtain ⟨a, t, b, r, ss, us, rs, ws, g, y, d, kd, ns, rfl, hq, hw, hl8, hp, hns, hkd, k⟩ := h
  refine ⟨_, _, (pss_cons (ps_set (i := 5) sc__law_right.nd rfl (Or.inl rfl) (fcallX (takes_of rfl rfl rfl rfl) G_quiet_signs (hr.mono (by first | decide | omega)) (by rfl) (pa_cons (pv 0) pa_nil)))
      (pss_cons (ps_if (PW.pt (pw_or (pt_not (pt_val (pe_callB (call_isi1K K) (by rfl) T.b_isinstance (by decide +kernel) (pa_cons (pv 5) (pa_cons (pe_bltn (v := .ty "list") (by rfl) T.b_list (by decide +kernel) rfl) pa_nil))))) (pw_or1 (pt_cmpR (op_neU K hr.units) (pv 5) (fcallX (takes_of rfl rfl rfl rfl) G__law_quiet (hr.mono (by first | decide | omega)) (by rfl) (pa_cons (pv 0) (pa_cons (pv 1) (pa_cons (pv 2) pa_nil)))) (nomark _))))) (pss_one (ps_ret pe_bl)) pss_nil)
      (pss_cons (ps_set (i := 6) sc__law_right.nd rfl (Or.inl rfl) (mcallX (takes_of rfl rfl rfl rfl) T.k_Book M_Book_need (hr.mono (by first | decide | omega)) (pv 0) (pa_cons (pv 3) pa_nil)))
      (pss_cons (ps_for (passes_of rfl) rfl (pi_any K (fcallX (takes_of rfl rfl rfl rfl) G__law_parts (hr.mono (by first | decide | omega)) (by rfl) (pa_cons (pv 3) (pa_cons (pe_tup pa_nil) pa_nil)))) (pg_name (i := 7) sc__law_right.nd rfl (Or.inl rfl)) (pss_one (ps_if (pt_cmpR (op_inU K (hu65_of hr)) (pe_ix (ix_U K (hu_of hr)) (pe_ix (ix_U K (hu_of hr)) (pv 7) pe_int (fun _ _ => rfl)) pe_int (fun _ _ => rfl)) (pv 5) (by rfl)) (pss_cons (ps_if (pt_cmpR (op_neU K hr.units) (mcallX (takes_of rfl rfl rfl rfl) T.k_Book M_Book_need (hr.mono (by first | decide | omega)) (pv 0) (pa_cons (pe_ix (ix_U K (hu_of hr)) (pv 7) pe_int (fun _ _ => rfl)) pa_nil)) (mcallKX (takes_of rfl rfl rfl rfl) T.k_Book MK_Book_need (hr.mono (by first | decide | omega)) (pv 0) (pa_cons (pe_ix (ix_U K (hu_of hr)) (pv 7) pe_int (fun _ _ => rfl)) pa_nil) (pk_cons pe_bl pk_nil)) (nomark _)) (pss_one (ps_ret pe_bl)) pss_nil)
      (pss_one (ps_if (pt_cmpR (op_neU K hr.units) (mcallX (takes_of rfl rfl rfl rfl) T.k_Book M_Book_need (hr.mono (by first | decide | omega)) (pv 0) (pa_cons (fcallX (takes_of rfl rfl rfl rfl) G__law_around (hr.mono (by first | decide | omega)) (by rfl) (pa_cons (pv 3) (pa_cons (pe_ix (ix_U K (hu_of hr)) (pv 7) pe_int (fun _ _ => rfl)) (pa_cons (pv 4) pa_nil)))) pa_nil)) (pv 6) (nomark _)) (pss_one (ps_ret pe_bl)) pss_nil))) pss_nil)))
      (pss_one (ps_ret pe_bl)))))), inferInstance, ?_⟩
  have vo := hq.v.o
  unfold bkC at vo
  have wd : ∀ p ∈ rs, isWord p.1 = true := fun p hp => (hq.bk.tb.wd p hp).1
  have h3 : ∀ p ∈ rs, p.2.1.length ≤ 3 := fun p hp => (hq.bk.tb.wd p hp).2
  have hgn : ∀ p ∈ rs, g p.1 ≠ [] := fun p hp => (hq.w3 p hp).1
  have qz : ∀ {x : Str} {bs : List D} {n : Nat}, PartB ns rs n (.tup (.str x :: bs)) → x ∈ quietL g rs → (needP g n (.tup (.str x :: bs))).2 = (needP g n (.tup (.str x :: bs))).1 := fun hp hx => quiet_zero hgn wd hq.bk.tb.nd hp hx
  generalize hL : quietL g rs = ql at qz
  walk_at "d"
  refine ⟨a, t, b, r, ss, us, rs, ws, g, rfl, hq, hl8, ?_⟩
  walk_at "d"
  refine ⟨a, t, b, r, ss, us, rs, ws, g, y, rfl, hq, hw, hl8, ?_⟩
  rw [hL]
  walk_at "d"
  have hqw : ∀ x ∈ ql, isWord x = true := fun x hx => by
    rw [← hL] at hx
    obtain ⟨p, hp, rfl⟩ := List.mem_map.mp hx
    exact wd p (List.mem_filter.mp hp).1
  have hdp : dpD (.lst (ql.map D.str)) = 1 := by
    have h1 : dpL (ql.map D.str) = 0 := strs_dp (f := id) (xs := ql)
    show dpL (ql.map D.str) + 1 = 1
    rw [h1]
  refine ⟨eq_refl_ok (strs_ok (f := id) (xs := ql) fun x hx => word_ok (hqw x hx)) (by rw [hdp]; decide), ?_⟩
  have hP : ∀ {m : Nat} {e : D}, PartB ns rs m e → m ≤ 12 → PartP ss rs 12 e := fun h hm => partB_toP hns (h.mono hm)
  refine dd1B_at vo ?_
  walk_at "d"
  refine ⟨a, t, b, r, ss, us, rs, ws, g, d, false, rfl, hq.bk, hP hp (by decide), ?_⟩
  walk_at "d"
  refine ⟨d, [], rs, ns, rfl, hp, h3, by decide, ?_⟩
  walk_at "d"
  refine for_map pthD (partsD 6 d []) (fun i S => ∃ v7, S = ⟨[some (.val (.ref a)), some (.val (.lst (rs.map rowR))), some (.val y), some (.val d), some (.val kd), some (.val (.lst (ql.map D.str))), some (.val (.int (needP g 12 d).2)), v7], e.W⟩) ⟨_, rfl⟩ ?_ ?_
  · rintro i ⟨q1, q2⟩ S hi ⟨v7, rfl⟩
    obtain ⟨suf, e1, hs⟩ : ∃ suf, q1 = [] ++ suf ∧ SubP ns rs 6 d suf q2 := parts_sub hp (q1, q2) (List.mem_of_getElem? hi)
    rw [List.nil_append] at e1
    subst e1
    obtain ⟨x, bs, rfl, m, hm, hpe⟩ := hs.part
    rw [show pthD (q1, D.tup (.str x :: bs)) = .tup [.tup (q1.map D.int), .tup (.str x :: bs)] from rfl]
    walk_at "d"
    refine ⟨⟨false, .inl ⟨rfl, by rw [List.all_eq_true]; intro d hd; obtain ⟨x, _, rfl⟩ := List.mem_map.mp hd; rfl⟩⟩, ?_⟩
    refine iteB_by (fun c => ?_) (fun c => ?_)
    · have c : x ∈ ql := by
        obtain ⟨z, hz, ez⟩ := List.mem_map.mp c
        cases ez
        exact hz
      have hq12 := qz (hpe.mono (show m ≤ 12 by omega)) c
      have hpe12 := hP hpe (by omega)
      have hln := hs.len
      walk_at "d"
      refine dd1B_at vo ?_
      walk_at "d"
      refine ⟨a, t, b, r, ss, us, rs, ws, g, _, false, rfl, hq.bk, hpe12, ?_⟩
      walk_at "d"
      refine dd1B_at vo ?_
      walk_at "d"
      refine ⟨a, t, b, r, ss, us, rs, ws, g, _, true, rfl, hq.bk, hpe12, ?_⟩
      walk_at "d"
      rw [hq12]
      refine iteB_F (fun z => z rfl) ?_
      walk_at "d"
      refine dd1B_at vo ?_
      walk_at "d"
      refine ⟨d, _, kd, q1, rs, ns, rfl, hs, h3, by omega, ?_⟩
      have hpa : PartP ss rs 12 (arD kd q1 d) := (part_around (Kp := KindOk ss) wd hns hkd hs).mono (by decide)
      have hna : needP g 12 (arD kd q1 d) = needP g 12 d := need_around (n := 11) wd (hs.mono (by decide)) fun m h => qz h c
      walk_at "d"
      refine ⟨a, t, b, r, ss, us, rs, ws, g, _, false, rfl, hq.bk, hpa, ?_⟩
      rw [hna]
      walk_at "d"
      exact ⟨_, rfl⟩
    · walk_at "d"
      exact ⟨_, rfl⟩
  · rintro S ⟨v7, rfl⟩
    walk_at "d"
    exact k
def ksA (L : Str → Addr) (rs : List RowR) : List (Key × D) := rs.map fun p => (Sum.inr p.1, .ref (L p.1))
def ksV (g : Str → List Wy) (rs : List RowR) : List (Key × D) := rs.map fun p => (Sum.inr p.1, .tup ((g p.1).map wayD))
section
variable {α : Type}
theorem look_kf_none {h : Str → D} {x : Str} : ∀ {rs : List RowR}, x ∉ rs.map (·.1) → look (rs.map fun p => ((Sum.inr p.1 : Key), h p.1)) (.inr x) = none
  | [], _ => rfl
  | p :: l, hx => by
    rw [List.map_cons, List.mem_cons, not_or] at hx
    show (if (Sum.inr p.1 : Key) = Sum.inr x then _ else look (l.map fun p => ((Sum.inr p.1 : Key), h p.1)) (.inr x)) = none
    rw [if_neg (fun z => hx.1 (Sum.inr.inj z).symm), look_kf_none hx.2]
theorem look_kf {h : Str → D} {p : RowR} : ∀ {rs : List RowR}, p ∈ rs → look (rs.map fun p => ((Sum.inr p.1 : Key), h p.1)) (.inr p.1) = some (h p.1)
  | q :: l, hp => by
    show (if (Sum.inr q.1 : Key) = Sum.inr p.1 then some (h q.1) else look (l.map fun p => ((Sum.inr p.1 : Key), h p.1)) (.inr p.1)) = _
    by_cases c : q.1 = p.1
    · rw [if_pos (by rw [c]), c]
    · rw [if_neg (fun z => c (Sum.inr.inj z))]
      rcases List.mem_cons.mp hp with rfl | hp
      · exact absurd rfl c
      · exact look_kf hp
theorem put_kf {h h' : Str → D} {x : Str} {rs : List RowR} (hx : x ∈ rs.map (·.1)) (e : ∀ z, z ≠ x → h' z = h z) : put (rs.map fun p => ((Sum.inr p.1 : Key), h p.1)) (.inr x) (h' x) = rs.map fun p => ((Sum.inr p.1 : Key), h' p.1) := by
  unfold put
  rw [if_pos (show ((rs.map fun p => ((Sum.inr p.1 : Key), h p.1)).any fun p => decide (p.1 = Sum.inr x)) = true from any_key (f := fun p : RowR => p.1) (h := fun p : RowR => h p.1) hx), List.map_map]
  refine List.map_congr_left fun p _ => ?_
  show (if (Sum.inr p.1 : Key) = Sum.inr x then _ else _) = _
  by_cases c : p.1 = x
  · subst c
    rw [if_pos rfl]
  · rw [if_neg (fun z => c (Sum.inr.inj z)), e _ c]
end
theorem keys_ksA (L : Str → Addr) (rs : List RowR) : ((ksA L rs).map fun p => keyV p.1) = rs.map fun p => D.str p.1 := by
  unfold ksA
  rw [List.map_map]; rfl
abbrev s__law_book : Stmt := top 73
abbrev N__law_book : List Str := ["_law_table_here", "_law_ways", "_law_book_here", "_law_sign"]
abbrev P__law_book : List Str := ["_law_table_here", "_law_ways"]
theorem sc__law_book : FnScope N__law_book P__law_book (defScope s__law_book) := ⟨rfl, rfl, rfl, by decide +kernel, rfl, by decide +kernel, by decide +kernel⟩
def F_lbook43 (CB CT : Addr) : FSpec := fun ds W Q _ => ∃ (t r c : Addr) (st : D) (rs : List RowR) (L : Str → Addr) (g : Str → List Wy), ds = [.ref t, .ref c] ∧ TbAt CT W t r st (ksR rs) ∧ c ≠ r ∧ (rs.map (·.1)).Nodup ∧ rs.length ≤ 8 ∧ (∀ p ∈ rs, isWord p.1 = true ∧ p.2.1.length ≤ 3 ∧ ∀ q ∈ p.2.1, okD false q.1 = true) ∧ W.ω c = some (.dct (ksA L rs)) ∧ (∀ p ∈ rs, W.ω (L p.1) = some (.lst ((g p.1).map wayD)) ∧ (g p.1).length ≤ 100 ∧ ∀ y ∈ g p.1, WayOf p.2.1 y) ∧ ∀ a b, W.ω a = none → W.ω b = none → b ≠ a → Q (.ref a) ((W.put b (.dct (ksV g rs))).put a (.ins CB (bkC t b)))
theorem ok__law_book43 (F : Fz K mg "_law_book" s__law_book P__law_book) (T : Txt K mg) (K_Book1 : Kx P w K mg base (clsA mg "Book") 1 P_Book___init__ [] (lift K (F_bkNew (clsA mg "Book")))) (O_Book_set : Ox P w K mg base (clsA mg "Book") "__setitem__" 5 P_Book___setitem__ (lift K (F_bkSet (clsA mg "Book") (clsA mg "Table") (clsA mg "UnknownSign") (clsA mg "BadWay") false))) : Fx P w K mg base (L2.CX P w) "_law_book" 7 P__law_book (lift K (F_lbook43 (clsA mg "Book") (clsA mg "Table"))) := by
  refine F.okD sc__law_book (fun ds W Q E h => by obtain ⟨t, r, c, st, rs, L, g, rfl, _⟩ := h; rfl) (fun f cdv A outer s H E e ds Qd Ed hr lk h => ?_)
  obtain ⟨t, r, c, st, rs, L, g, rfl, ht, hcr, hnd, hl8, hrs, hc, hL, k⟩ := h
  refine ⟨_, _, (pss_cons (ps_set (i := 2) sc__law_book.nd rfl (Or.inl rfl) (makeX (takes_of rfl rfl rfl rfl) K_Book1 (hr.mono (by first | decide | omega)) (by rfl) T.g_Book (pa_cons (pv 0) pa_nil)))
      (pss_cons (ps_lock (ps_for (passes_of rfl) rfl (pi_dct K (pv 1)) (pg_name (i := 3) sc__law_book.nd rfl (Or.inl rfl)) (pss_one (osetX (takes_of rfl rfl rfl rfl) O_Book_set (hr.mono (by first | decide | omega)) (pv 2) (pv 3) (pe_callTy (call_listK K rfl) (by rfl) T.b_list (by decide +kernel) (pa_cons (pe_ix (ix_U K (hu_of hr)) (pv 1) (pv 3) (fun _ _ => rfl)) pa_nil))))))
      (pss_one (ps_ret (pv 2))))), inferInstance, ?_⟩
  walk_at "d"
  intro a ha _
  refine ⟨a, t, e.W, rfl, rfl, ha, fun b hb nb => ?_⟩
  have kk := k a b ha hb nb
  have nta : t ≠ a := fun z => by have := ht.o; rw [z, ha] at this; cases this
  have ntb : t ≠ b := fun z => by have := ht.o; rw [z, hb] at this; cases this
  have nra : r ≠ a := fun z => by have := ht.k; rw [z, ha] at this; cases this
  have nrb : r ≠ b := fun z => by have := ht.k; rw [z, hb] at this; cases this
  have nca : c ≠ a := fun z => by rw [z, ha] at hc; cases hc
  have ncb : c ≠ b := fun z => by rw [z, hb] at hc; cases hc
  have ntc : t ≠ c := cell_ne ht.o hc
  have W1 : ∀ i, ∃ W', W' = (e.W.put b (.dct (ksV g (rs.take i)))).put a (.ins (clsA mg "Book") (bkC t b)) := fun i => ⟨_, rfl⟩
  have hcW : ∀ ks : List (Key × D), ((e.W.put b (.dct ks)).put a (.ins (clsA mg "Book") (bkC t b))).ω c = some (.dct (ksA L rs)) := fun ks => (Wd.put_ne nca).trans ((Wd.put_ne ncb).trans hc)
  walk_at "d"
  refine dctCB_at (hcW _) ?_
  walk_at "d"
  intro od vk
  rw [keys_ksA]
  refine forL_ix (fun p : RowR => D.str p.1) (fun i S => ∃ v3, S = ⟨[some (.val (.ref t)), some (.val (.ref c)), some (.val (.ref a)), v3], ((e.W.put b (.dct (ksV g (rs.take i)))).put a (.ins (clsA mg "Book") (bkC t b))).put c (.lk od vk (ksA L rs))⟩) (fun i S h => by obtain ⟨v3, rfl⟩ := h; exact Wd.put_same) rs ⟨_, rfl⟩ ?_ ?_
  · rintro i p S hp ⟨v3, rfl⟩
    have hpm := List.mem_of_getElem? hp
    have hil := (List.getElem?_eq_some_iff.mp hp).1
    have nx := fst_take hp hnd
    have lp := look_ksR hnd hpm
    obtain ⟨hLp, hgl, hgw⟩ := hL p hpm
    obtain ⟨hw, hq3, hqo⟩ := hrs p hpm
    have hxl := word_len hw
    have nLa : L p.1 ≠ a := fun z => by rw [z, ha] at hLp; cases hLp
    have nLb : L p.1 ≠ b := fun z => by rw [z, hb] at hLp; cases hLp
    have nLc : L p.1 ≠ c := fun z => by rw [z, hc] at hLp; cases hLp
    have llk : look (ksA L rs) (.inr p.1) = some (.ref (L p.1)) := look_kf (h := fun z => .ref (L z)) hpm
    have e1 : put (ksV g (rs.take i)) (.inr p.1) (.tup ((g p.1).map wayD)) = ksV g (rs.take (i + 1)) := by
      rw [put_none (show look (ksV g (rs.take i)) (.inr p.1) = none from look_kf_none (h := fun z => .tup ((g z).map wayD)) nx), take_succ_get hp]
      simp [ksV]
    have lv : (ksV g (rs.take i)).length ≤ 8 := by simp [ksV]; omega
    have e2 : ∀ ks ks' : List (Key × D), (((e.W.put b (.dct ks)).put a (.ins (clsA mg "Book") (bkC t b))).put c (.lk od vk (ksA L rs))).put b (.dct ks') = ((e.W.put b (.dct ks')).put a (.ins (clsA mg "Book") (bkC t b))).put c (.lk od vk (ksA L rs)) := fun ks ks' => by
      rw [put_comm ncb, put_comm (Ne.symm nb), put_put]
    generalize hks : ksV g (rs.take i) = ks at e1 lv ⊢
    have bk : BkAt (clsA mg "Book") (((e.W.put b (.dct ks)).put a (.ins (clsA mg "Book") (bkC t b))).put c (.lk od vk (ksA L rs))) a t b ks := ⟨(Wd.put_ne (Ne.symm nca)).trans Wd.put_same, (Wd.put_ne (Ne.symm ncb)).trans ((Wd.put_ne nb).trans Wd.put_same)⟩
    have tb : TbAt (clsA mg "Table") (((e.W.put b (.dct ks)).put a (.ins (clsA mg "Book") (bkC t b))).put c (.lk od vk (ksA L rs))) t r st (ksR rs) := ⟨(Wd.put_ne ntc).trans ((Wd.put_ne nta).trans ((Wd.put_ne ntb).trans ht.o)), (Wd.put_ne (Ne.symm hcr)).trans ((Wd.put_ne nra).trans ((Wd.put_ne nrb).trans ht.k))⟩
    have lc : (((e.W.put b (.dct ks)).put a (.ins (clsA mg "Book") (bkC t b))).put c (.lk od vk (ksA L rs))).ω (L p.1) = some (.lst ((g p.1).map wayD)) := (Wd.put_ne nLc).trans ((Wd.put_ne nLa).trans ((Wd.put_ne nLb).trans hLp))
    have e3 := e2 ks (ksV g (rs.take (i + 1)))
    have vc : vD (((e.W.put b (.dct ks)).put a (.ins (clsA mg "Book") (bkC t b))).put c (.lk od vk (ksA L rs))) (.ref c) = some (.dct (ksA L rs)) := vD_lk Wd.put_same
    generalize ((e.W.put b (.dct ks)).put a (.ins (clsA mg "Book") (bkC t b))).put c (.lk od vk (ksA L rs)) = WL at bk tb lc e3 vc ⊢
    walk_at "d"
    refine dd1B_at vc ?_
    walk_at "d"
    rw [llk]
    walk_at "d"
    refine dd1B_at (vD_lst lc) ?_
    walk_at "d"
    refine dd1B_at (vD_ins bk.o) ?_
    walk_at "d"
    refine ⟨a, t, b, r, _, _, _, _, p.1, g p.1, rfl, bk, tb, by omega, by omega, by omega, fun y hy => ⟨by have := (hgw y hy).stl; omega, by have := (hgw y hy).ntl; omega⟩, .inl rfl, fun z => (by rw [lp] at z; cases z), fun d h => ?_⟩
    rw [lp] at h
    cases h
    refine ⟨p.2.1, p.2.2, rfl, by omega, hqo, fun _ => ?_, fun z => ?_⟩
    rotate_left
    · exact absurd z (by rw [List.all_eq_true.mpr fun y hy => (hgw y hy).fits hq3]; simp)
    rw [e1, e3]
    walk_at "d"
    exact ⟨_, rfl⟩
  · rintro S ⟨v3, rfl⟩
    rw [List.take_length]
    walk_at "d"
    rw [put_self (hcW _)]
    exact kk
theorem WayOf.stb {ps : List (D × D)} {y : Wy} (h : WayOf ps y) : ∀ q ∈ y.st, 0 ≤ q.1 ∧ q.1.toNat < ps.length := fun q hq => by
  have hm : q.1 ∈ rgI ps.length := h.pm.mem_iff.mp (List.mem_map.mpr ⟨q, hq, rfl⟩)
  obtain ⟨i, hi, e⟩ := List.mem_map.mp hm
  have := List.mem_range.mp hi
  omega
theorem RowsR.tbR {CT CS : Addr} {W : Wd} {t r : Addr} {ss us : List (Str × Str)} {rs : List RowR} (h : RowsR ss 3 rs) (sl : ∀ p ∈ ss, p.2.length ≤ 1000) (ht : TbAt CT W t r (.obj CS (stkC ss us)) (ksR rs)) : TbR CT CS W t r ss us rs :=
  ⟨ht, h.nd, fun p hp => ⟨h.wd p hp, (h.gr p hp).2.2⟩, sl, fun p hp q hq => by
    rcases ((h.gr p hp).1.pl q hq).1 with h | h
    · rw [h, okD]
    · exact h.ok⟩
def updS {α : Type} (f : Str → α) (x : Str) (v : α) : Str → α := fun z => if z = x then v else f z
theorem updS_same {α : Type} {f : Str → α} {x : Str} {v : α} : updS f x v x = v := if_pos rfl
theorem updS_ne {α : Type} {f : Str → α} {x z : Str} {v : α} (h : z ≠ x) : updS f x v z = f z := if_neg h
theorem wy3_of {ps : List (D × D)} {ys : List Wy} (h3 : ps.length ≤ 3) (h0 : ys ≠ []) (h : ∀ y ∈ ys, WayOf ps y) : Wy3 ps.length ys := ⟨h0, fun y hy => by
  have h1 := (h y hy).stl
  have h2 := (h y hy).ntl
  exact ⟨by omega, by omega, (h y hy).stb⟩⟩
theorem bkQ_of {CB CT CS : Addr} {W : Wd} {a t b r : Addr} {ss us : List (Str × Str)} {rs : List RowR} {g : Str → List Wy} (hR : RowsR ss 3 rs) (sl : ∀ p ∈ ss, p.2.length ≤ 1000) (tb : TbAt CT W t r (.obj CS (stkC ss us)) (ksR rs)) (bk : BkAt CB W a t b (ksV g rs)) (br : b ≠ r) (hl : ∀ p ∈ rs, g p.1 ≠ [] ∧ ∀ y ∈ g p.1, WayOf p.2.1 y) : BkQ CB CT CS W a t b r ss us rs (ksV g rs) g := by
  have w3 : ∀ p ∈ rs, Wy3 p.2.1.length (g p.1) := fun p hp => wy3_of (hR.gr p hp).2.2 (hl p hp).1 (hl p hp).2
  exact ⟨⟨bk, hR.tbR (us := us) sl tb, ⟨bk.k, fun p hp => look_kf (h := fun z => .tup ((g z).map wayD)) hp, fun p hp => (hl p hp).1⟩, fun p hp y hy => by
    obtain ⟨h1, h2, h3⟩ := (w3 p hp).2 y hy
    exact ⟨by omega, by omega, h3⟩⟩, br, w3⟩
theorem base_kind {ss us : List (Str × Str)} {f s : Str} (h : Law3 ss us f s) : KindOk ss (.tup [.str f]) := by
  obtain ⟨r, e⟩ := h.two
  have hl : lkS ss f = some NOMK := lkS_mem h.shp.nd (by rw [e]; exact List.mem_cons_self)
  have hkd : FormOf ss (Str.ofString "") 1 (.tup [.str f]) := .node hl rfl (fun z => absurd z (by decide)) (by simp)
  obtain ⟨a1, a2, a3, a4⟩ := form_fits h.shp (fun p hp => (h.word p hp).1) (show ∀ c ∈ (Str.ofString "").cps.toList, c ∈ LARGEc by decide +kernel) 1 _ hkd
  exact ⟨by rw [isKindD, a1, a2, show hasLetD (.tup [.str f]) = false by simp [hasLetD, hasLetL]]; rfl, a3, by omega, fun z => by cases z⟩
structure LwR (W : Wd) (c : Addr) (rs : List RowR) (L : Str → Addr) (g : Str → List Wy) : Prop where
  c : W.ω c = some (.dct (ksA L rs))
  l : ∀ p ∈ rs, W.ω (L p.1) = some (.lst ((g p.1).map wayD)) ∧ g p.1 ≠ [] ∧ (g p.1).length ≤ 10 ∧ ∀ y ∈ g p.1, WayOf p.2.1 y
theorem ksA_upd {L : Str → Addr} {x : Str} {l : Addr} {rs : List RowR} (h : x ∉ rs.map (·.1)) : ksA (updS L x l) rs = ksA L rs := List.map_congr_left fun p hp => by
  have hne : p.1 ≠ x := fun z => h (by rw [← z]; exact List.mem_map.mpr ⟨p, hp, rfl⟩)
  rw [updS_ne hne]
theorem LwR.ne {W : Wd} {c : Addr} {rs : List RowR} {L : Str → Addr} {g : Str → List Wy} (h : LwR W c rs L g) {p : RowR} (hp : p ∈ rs) : L p.1 ≠ c := fun z => by
  have := (h.l p hp).1
  rw [z, h.c] at this
  cases this
theorem LwR.snoc {W W' : Wd} {c l : Addr} {rs : List RowR} {i : Nat} {p : RowR} {L : Str → Addr} {g : Str → List Wy} {ys : List Wy} (h : LwR W c (rs.take i) L g) (hp : rs[i]? = some p) (hnd : (rs.map (·.1)).Nodup) (hk : ∀ a x, a ≠ c → W.ω a = some x → W'.ω a = some x) (hc : W'.ω c = some (.dct (put (ksA L (rs.take i)) (.inr p.1) (.ref l)))) (hl : W'.ω l = some (.lst (ys.map wayD))) (h0 : ys ≠ []) (h10 : ys.length ≤ 10) (hy : ∀ y ∈ ys, WayOf p.2.1 y) : LwR W' c (rs.take (i + 1)) (updS L p.1 l) (updS g p.1 ys) := by
  have nx := fst_take hp hnd
  refine ⟨?_, fun q hq => ?_⟩
  · rw [hc, put_none (show look (ksA L (rs.take i)) (.inr p.1) = none from look_kf_none (h := fun z => .ref (L z)) nx), ← ksA_upd (l := l) nx, take_succ_get hp]
    congr 2
    unfold ksA
    rw [List.map_append, List.map_cons, List.map_nil, updS_same]
  · rw [take_succ_get hp, List.mem_append, List.mem_singleton] at hq
    rcases hq with hq | rfl
    · have hne : q.1 ≠ p.1 := fun z => nx (z ▸ List.mem_map.mpr ⟨q, hq, rfl⟩)
      rw [updS_ne hne, updS_ne hne]
      obtain ⟨h1, h2⟩ := h.l q hq
      exact ⟨hk _ _ (h.ne hq) h1, h2⟩
    · rw [updS_same, updS_same]
      exact ⟨hl, h0, h10, hy⟩
theorem LwR.set {W W' : Wd} {c l : Addr} {rs : List RowR} {x : Str} {L : Str → Addr} {g : Str → List Wy} {ys : List Wy} (h : LwR W c rs L g) (hx : x ∈ rs.map (·.1)) (hk : ∀ a x, a ≠ c → W.ω a = some x → W'.ω a = some x) (hc : W'.ω c = some (.dct (put (ksA L rs) (.inr x) (.ref l)))) (hl : W'.ω l = some (.lst (ys.map wayD))) (h0 : ys ≠ []) (h10 : ys.length ≤ 10) (hy : ∀ p ∈ rs, p.1 = x → ∀ y ∈ ys, WayOf p.2.1 y) : LwR W' c rs (updS L x l) (updS g x ys) := by
  refine ⟨?_, fun q hq => ?_⟩
  · have e := put_kf (h := fun z => .ref (L z)) (h' := fun z => .ref (updS L x l z)) hx fun z hz => by rw [updS_ne hz]
    rw [updS_same] at e
    rw [hc, show put (ksA L rs) (.inr x) (.ref l) = ksA (updS L x l) rs from e]
  · by_cases hne : q.1 = x
    · rw [hne, updS_same, updS_same]
      exact ⟨hl, h0, h10, hy q hq hne⟩
    · rw [updS_ne hne, updS_ne hne]
      obtain ⟨h1, h2⟩ := h.l q hq
      exact ⟨hk _ _ (h.ne hq) h1, h2⟩
theorem LwR.ext {W W' : Wd} {c : Addr} {rs : List RowR} {L : Str → Addr} {g : Str → List Wy} (h : LwR W c rs L g) (hk : ∀ a x, W.ω a = some x → W'.ω a = some x) : LwR W' c rs L g := ⟨hk _ _ h.c, fun p hp => ⟨hk _ _ (h.l p hp).1, (h.l p hp).2⟩⟩
theorem LwR.wyR {W : Wd} {c : Addr} {rs : List RowR} {L : Str → Addr} {g : Str → List Wy} (h : LwR W c rs L g) (h3 : ∀ p ∈ rs, p.2.1.length ≤ 3) : WyR W (.ref c) rs g := ⟨ksA L rs, vD_dct h.c, fun p hp => ⟨L p.1, look_kf (h := fun z => .ref (L z)) hp, (h.l p hp).1, wy3_of (h3 p hp) (h.l p hp).2.1 (h.l p hp).2.2.2⟩⟩
abbrev s_law : Stmt := top 82
abbrev N_law : List Str := ["_law_script", "_law_tape_here", "_law_pair", "_law_signs", "_law_other", "_law_rules", "_law_k", "_law_last", "_law_finding", "_law_ways", "_law_row", "_law_book_here", "_law_drawn", "_law_program", "_law_kind", "_law_j", "_law_word"]
abbrev P_law : List Str := ["_law_script"]
theorem sc_law : FnScope N_law P_law (defScope s_law) := ⟨rfl, rfl, rfl, by decide +kernel, rfl, by decide +kernel, by decide +kernel⟩
theorem ok_law {f : Addr} {fd : FuncData} (F : Fun K "law" "law" s_law f fd) (T : Txt K mg) (G__law_tape : Fx P w K mg base (L2.CX P w) "_law_tape" 2 P__law_tape (lift K F_tape)) (G__law_take : Fx P w K mg base (L2.CX P w) "_law_take" 1 P__law_take (lift K F_take))
    (G__law_words : Fx P w K mg base (L2.CX P w) "_law_words" 2 P__law_words (lift K F_words)) (G__law_stock : Fx P w K mg base (L2.CX P w) "_law_stock" 3 P__law_stock (lift K F_stock)) (G__law_rule : Fx P w K mg base (L2.CX P w) "_law_rule" 4 P__law_rule (lift K (F_rule 0))) (G__law_way : Fx P w K mg base (L2.CX P w) "_law_way" 2 P__law_way (lift K F_way))
    (G__law_table : Fx P w K mg base (L2.CX P w) "_law_table" 12 P__law_table (lift K (F_table (clsA mg "Table") (clsA mg "Stock")))) (G__law_part : Fx P w K mg base (L2.CX P w) "_law_part" 6 P__law_part (lift K (F_partR 3)))
    (G__law_book : Fx P w K mg base (L2.CX P w) "_law_book" 7 P__law_book (lift K (F_lbook43 (clsA mg "Book") (clsA mg "Table")))) (G__law_right : Fx P w K mg base (L2.CX P w) "_law_right" 26 P__law_right (lift K (F_right43 (clsA mg "Book") (clsA mg "Table") (clsA mg "Stock"))))
    (O_Book_set : Ox P w K mg base (clsA mg "Book") "__setitem__" 5 P_Book___setitem__ (lift K (F_bkSet (clsA mg "Book") (clsA mg "Table") (clsA mg "UnknownSign") (clsA mg "BadWay") false))) : FnOk P w K mg base CX0 27 f fd P_law (spLaw K) := by
  refine okLaw F sc_law (fun cdv A outer s H E e hr => ?_)
  refine ⟨_, _, (pss_cons (ps_set (i := 1) sc_law.nd rfl (Or.inl rfl) (fcallX takes0 G__law_tape (hr.mono (by first | decide | omega)) (by rfl) (pa_cons (pv 0) (pa_cons pe_int (pa_cons pe_int pa_nil)))))
      (pss_cons (ps_set (i := 2) sc_law.nd rfl (Or.inl rfl) (fcallX takes0 G__law_stock (hr.mono (by first | decide | omega)) (by rfl) (pa_cons (pv 1) (pa_cons pe_bl (pa_cons (pe_lst (pa_cons pe_str (pa_cons pe_str pa_nil))) pa_nil)))))
      (pss_cons (ps_set (i := 3) sc_law.nd rfl (Or.inl rfl) (fcallX takes0 G__law_words (hr.mono (by first | decide | omega)) (by rfl) (pa_cons (fcallX takes0 G__law_tape (hr.mono (by first | decide | omega)) (by rfl) (pa_cons (pv 0) (pa_cons pe_int (pa_cons pe_int pa_nil)))) (pa_cons pe_int pa_nil))))
      (pss_cons (ps_set (i := 4) sc_law.nd rfl (Or.inl rfl) (fcallX takes0 G__law_tape (hr.mono (by first | decide | omega)) (by rfl) (pa_cons (pv 0) (pa_cons pe_int (pa_cons pe_int pa_nil)))))
      (pss_cons (setO_of (ps_set (i := 5) sc_law.nd rfl (Or.inl rfl) (pe_lst pa_nil)))
      (pss_cons (ps_for PassesOwn.never rfl (pi_range1 (by rfl) T.b_range (pa_cons (pe_ix (ix_U K (hu_of hr)) (pe_lst (pa_cons (fcallX takes0 G__law_take (hr.mono (by first | decide | omega)) (by rfl) (pa_cons (pv 4) (pa_cons pe_int pa_nil))) (pa_cons pe_int pa_nil))) (pe_callTy call_intU (by rfl) T.b_int (by decide +kernel) (pa_cons (pe_cmpR (op_eqU K hr.units) (fcallX takes0 G__law_take (hr.mono (by first | decide | omega)) (by rfl) (pa_cons (pv 4) (pa_cons pe_int pa_nil))) pe_int (nomark _)) pa_nil)) (fun _ _ => rfl)) pa_nil)) (pg_name (i := 6) sc_law.nd rfl (Or.inl rfl)) (pss_one (ps_expr (pe_bmK K PySem.F.plainAttrs_list PySem.F.slot_list_append PySem.F.type_list_append mt_append (pv 5) (pa_cons (pe_tup (pa_cons (pe_ix (ix_U K (hu_of hr)) (pv 3) (pv 6) (fun _ _ => rfl)) (pa_cons (fcallX takes0 G__law_rule (hr.mono (by first | decide | omega)) (by rfl) (pa_cons (pv 4) (pa_cons (pe_ix (ix_U K (hu_of hr)) (pv 2) pe_int (fun _ _ => rfl)) (pa_cons pe_str (pa_cons (pe_op (op_addU K) pe_int (pe_callTy call_intU (by rfl) T.b_int (by decide +kernel) (pa_cons (pe_cmpR (op_eqU K hr.units) (pv 6) pe_int (nomark _)) pa_nil))) (pa_cons pe_int pa_nil)))))) pa_nil))) pa_nil)))))
      (pss_cons (ps_set (i := 7) sc_law.nd rfl (Or.inr rfl) (fcallX takes0 G__law_tape (hr.mono (by first | decide | omega)) (by rfl) (pa_cons (pv 0) (pa_cons pe_int (pa_cons pe_int pa_nil)))))
      (pss_cons (ps_set (i := 8) sc_law.nd rfl (Or.inl rfl) (pe_cmpR (op_eqU K hr.units) (fcallX takes0 G__law_take (hr.mono (by first | decide | omega)) (by rfl) (pa_cons (pv 7) (pa_cons pe_int pa_nil))) pe_int (nomark _)))
      (pss_cons (ps_set (i := 9) sc_law.nd rfl (Or.inl rfl) (share_of pe_dnewK))
      (pss_cons (ps_for PassesOwn.never rfl (pi_any K (pv 5)) (pg_name (i := 10) sc_law.nd rfl (Or.inr rfl)) (pss_cons (ps_dput (hu_of hr) (pv 9) (pe_ix (ix_U K (hu_of hr)) (pv 10) pe_int (fun _ _ => rfl)) (share_of (pe_lc (own := [("_law_j", 15)]) (g := (gName 15)) (tt := tYes) rfl sc_law.nd (pi_range1 (by rfl) T.b_range (pa_cons (pe_op (op_addU K) pe_int (fcallX takes0 G__law_take (hr.mono (by first | decide | omega)) (by rfl) (pa_cons (pv 7) (pa_cons pe_int pa_nil)))) pa_nil)) (blkOk_by (own := [("_law_j", 15)]) (N := N_law) (sc := defScope s_law) (by decide +kernel)) (fun _ _ _ _ _ => (pg_name (i := 15) sc_law.nd rfl (by first | exact Or.inl rfl | exact Or.inr rfl))) (fun _ _ _ _ _ => pts_nil) (fun _ _ _ _ _ => (fcallX takes0 G__law_way (hr.mono (by first | decide | omega)) (by rfl) (pa_cons (pv 7) (pa_cons (pe_ix (ix_U K (hu_of hr)) (pv 10) pe_int (fun _ _ => rfl)) pa_nil)))))) rfl)
      (pss_one (ps_if (PW.pt (pw_and (pt_val (pv 8)) (pw_and1 (pt_cmpR (op_neU K hr.units) (fcallX takes0 G__law_take (hr.mono (by first | decide | omega)) (by rfl) (pa_cons (pv 7) (pa_cons pe_int pa_nil))) pe_int (nomark _))))) (pss_one (ps_expr (pe_bmK K PySem.F.plainAttrs_list PySem.F.slot_list_append PySem.F.type_list_append mt_append (pe_ix (ix_U K (hu_of hr)) (pv 9) (pe_ix (ix_U K (hu_of hr)) (pv 10) pe_int (fun _ _ => rfl)) (fun _ _ => rfl)) (pa_cons (pe_op (op_addU K) (pe_tup (pa_cons pe_str pa_nil)) (pe_slice (sl_U K) (pe_ix (ix_U K (hu_of hr)) (pe_ix (ix_U K (hu_of hr)) (pv 9) (pe_ix (ix_U K (hu_of hr)) (pv 10) pe_int (fun _ _ => rfl)) (fun _ _ => rfl)) pe_int (fun _ _ => rfl)) (po_some pe_int) po_none)) pa_nil)))) pss_nil))))
      (pss_cons (ps_set (i := 11) sc_law.nd rfl (Or.inl rfl) (fcallX takes0 G__law_book (hr.mono (by first | decide | omega)) (by rfl) (pa_cons (fcallX takes0 G__law_table (hr.mono (by first | decide | omega)) (by rfl) (pa_cons (pe_ix (ix_U K (hu_of hr)) (pv 2) pe_int (fun _ _ => rfl)) (pa_cons (pe_ix (ix_U K (hu_of hr)) (pv 2) pe_int (fun _ _ => rfl)) (pa_cons (pv 5) pa_nil)))) (pa_cons (pv 9) pa_nil))))
      (pss_cons (ps_set (i := 12) sc_law.nd rfl (Or.inl rfl) (fcallX takes0 G__law_tape (hr.mono (by first | decide | omega)) (by rfl) (pa_cons (pv 0) (pa_cons pe_int (pa_cons pe_int pa_nil)))))
      (pss_cons (ps_set (i := 13) sc_law.nd rfl (Or.inl rfl) (fcallX takes0 G__law_part (hr.mono (by first | decide | omega)) (by rfl) (pa_cons (pv 12) (pa_cons (pv 5) (pa_cons (pe_lst (pa_cons pe_str (pa_cons pe_str pa_nil))) (pa_cons (pe_op (op_addU K) pe_int (fcallX takes0 G__law_take (hr.mono (by first | decide | omega)) (by rfl) (pa_cons (pv 12) (pa_cons pe_int pa_nil)))) pa_nil))))))
      (pss_cons (ps_set (i := 14) sc_law.nd rfl (Or.inl rfl) (pe_tup (pa_cons (pe_ix (ix_U K (hu_of hr)) (pe_lc (own := [("_law_word", 16)]) (g := (gName 16)) (tt := tYes) rfl sc_law.nd (pi_any K (pe_ix (ix_U K (hu_of hr)) (pv 2) pe_int (fun _ _ => rfl))) (blkOk_by (own := [("_law_word", 16)]) (N := N_law) (sc := defScope s_law) (by decide +kernel)) (fun _ _ _ _ _ => (pg_name (i := 16) sc_law.nd rfl (by first | exact Or.inl rfl | exact Or.inr rfl))) (fun _ _ _ _ _ => pts_nil) (fun _ _ _ _ _ => (pv 16))) pe_int (fun _ _ => rfl)) pa_nil)))
      (pss_cons (ps_if (pt_not (pt_val (fcallX takes0 G__law_right (hr.mono (by first | decide | omega)) (by rfl) (pa_cons (pv 11) (pa_cons (pv 5) (pa_cons (pv 9) (pa_cons (pv 13) (pa_cons (pv 14) pa_nil)))))))) (pss_one (ps_ret pe_bl)) pss_nil)
      (pss_cons (ps_if (pt_cmpR (op_eqU K hr.units) (pe_callB (call_lenU K) (by rfl) T.b_len PySem.boot_len (pa_cons (pv 5) pa_nil)) pe_int (nomark _)) (pss_one (ps_ret pe_bl)) pss_nil)
      (pss_cons (ps_set (i := 10) sc_law.nd rfl (Or.inr rfl) (pe_ix (ix_U K (hu_of hr)) (pv 5) (fcallX takes0 G__law_take (hr.mono (by first | decide | omega)) (by rfl) (pa_cons (pv 12) (pa_cons (pe_callB (call_lenU K) (by rfl) T.b_len PySem.boot_len (pa_cons (pv 5) pa_nil)) pa_nil))) (fun _ _ => rfl)))
      (pss_cons (ps_dput (hu_of hr) (pv 9) (pe_ix (ix_U K (hu_of hr)) (pv 10) pe_int (fun _ _ => rfl)) (share_of (pe_lst (pa_cons (fcallX takes0 G__law_way (hr.mono (by first | decide | omega)) (by rfl) (pa_cons (pv 12) (pa_cons (pe_ix (ix_U K (hu_of hr)) (pv 10) pe_int (fun _ _ => rfl)) pa_nil))) pa_nil))) rfl)
      (pss_cons (osetX takes0 O_Book_set (hr.mono (by first | decide | omega)) (pv 11) (pe_ix (ix_U K (hu_of hr)) (pv 10) pe_int (fun _ _ => rfl)) (pe_callTy (call_listK K rfl) (by rfl) T.b_list (by decide +kernel) (pa_cons (pe_ix (ix_U K (hu_of hr)) (pv 9) (pe_ix (ix_U K (hu_of hr)) (pv 10) pe_int (fun _ _ => rfl)) (fun _ _ => rfl)) pa_nil)))
      (pss_one (ps_ret (fcallX takes0 G__law_right (hr.mono (by first | decide | omega)) (by rfl) (pa_cons (pv 11) (pa_cons (pv 5) (pa_cons (pv 9) (pa_cons (pv 13) (pa_cons (pv 14) pa_nil))))))))))))))))))))))))))), inferInstance, ?_⟩
  walk_at "d"
  refine ⟨0, 30, rfl, by decide, by decide, by decide, fun Tp1 hT1 => ?_⟩
  walk_at "d"
  refine ⟨_, ["+", "-+"], rfl, by decide, by decide, fun ws b mu un hs => ?_⟩
  obtain ⟨wf, wt, L3⟩ := law3_of hs (by decide +kernel)
  generalize shapesOf ws b mu = ss at *
  generalize underOf ws un = us at *
  have hsh := L3.shp
  walk_at "d"
  refine ⟨1, 9, rfl, by decide, by decide, by decide, fun Tp2 hT2 => ?_⟩
  walk_at "d"
  refine ⟨8, rfl, by decide, fun sg hsg => ?_⟩
  have hsl := hsg.len
  walk_at "d"
  refine ⟨2, 90, rfl, by decide, by decide, by decide, fun Tp4 hT4 => ?_⟩
  walk_at "d"
  refine ⟨5, rfl, by decide, fun n n0 n1 => ?_⟩
  walk_at "d"
  refine ⟨8, rfl, by decide, fun n8 n80 n81 => ?_⟩
  walk_at "d"
  have hm : ∃ m : Int, 0 ≤ m ∧ m ≤ 8 ∧ atI [D.int n, D.int 8] (if n8 = 1 then 1 else 0) = some (.int m) := by
    by_cases c : n8 = 1
    · exact ⟨8, by decide, by decide, by rw [if_pos c]; rfl⟩
    · exact ⟨n, n0, by omega, by rw [if_neg c]; rfl⟩
  obtain ⟨m, m0, m8, em⟩ := hm
  rw [em]
  walk_at "d"
  refine ⟨by omega, by omega, ?_⟩
  refine for_rng (fun i S => ∃ v6 rs, S = ⟨[some (.val .scr), some (.val .tape), some (.val (.tup [.dct (dkS ss), .dct (dkS us)])), some (.val (.lst (sg.map D.str))), some (.val .tape), some (.ownL (rs.map rowR)), v6, none, none, none, none, none, none, none, none, none, none], ⟨Tp4, e.W.ω⟩⟩ ∧ rs.map (·.1) = sg.take i ∧ ∀ p ∈ rs, GR p.2.1 p.2.2 ∧ FR ss p.2.1 p.2.2 ∧ p.2.1.length ≤ 3) ⟨_, [], rfl, rfl, fun p hp => by cases hp⟩ ?_ ?_
  · rintro i S hi ⟨v6, rs, rfl, ers, hrs⟩
    have hi : i < 8 := by omega
    have hrl : rs.length ≤ 8 := by
      have := congrArg List.length ers
      rw [List.length_map, List.length_take] at this
      omega
    walk_at "d"
    rw [at_get (j := i) (by omega) (show (sg.map D.str)[i]? = some (D.str (sg.getD i "")) by rw [List.getElem?_map, ws_ix hsl (by omega)]; rfl)]
    walk_at "d"
    have hk : ∃ km : Nat, km ≤ 3 ∧ ((2 : Int) + if (0 : Int) + (i : Int) = 1 then 1 else 0) = (km : Int) := by
      split
      · exact ⟨3, by decide, rfl⟩
      · exact ⟨2, by decide, rfl⟩
    obtain ⟨km, hk3, ek⟩ := hk
    rw [ek]
    refine ⟨ss, "AB", km, rfl, hsh, by decide +kernel, by omega, fun ps wd hpl hps hwd => ?_⟩
    obtain ⟨qs, eq, eql, gr, fr⟩ := rule_of_drawn L3 (L := "AB") (by decide +kernel) (by decide) hps (by omega) hwd
    rw [eq]
    walk_at "d"
    refine ⟨by rw [List.length_map]; omega, some (.val (.int (0 + (i : Int)))), rs ++ [(sg.getD i "", qs, wd)], by rw [List.map_append]; rfl, by rw [List.map_append, ers, take_succ_get (ws_ix hsl hi)]; rfl, fun p hp => ?_⟩
    rcases List.mem_append.mp hp with hp | hp
    · exact hrs p hp
    · rw [List.mem_singleton.mp hp]
      exact ⟨gr, fr, by show qs.length ≤ 3; omega⟩
  · rintro S ⟨v6, rs, rfl, ers, hrs⟩
    have rl : rs.length = m.toNat := by
      have := congrArg List.length ers
      rw [List.length_map, List.length_take] at this
      omega
    have hR : RowsR ss 3 rs := ⟨by rw [ers]; exact hsg.nodup.sublist (List.take_sublist _ _), fun p hp => by
      have : p.1 ∈ rs.map (·.1) := List.mem_map.mpr ⟨p, hp, rfl⟩
      rw [ers] at this
      exact hsg.word _ (List.mem_of_mem_take this), hrs, by omega⟩
    have h3 : ∀ p ∈ rs, p.2.1.length ≤ 3 := fun p hp => (hR.gr p hp).2.2
    walk_at "d"
    refine ⟨3, 250, rfl, by decide, by decide, by decide, fun Tp5 hT5 => ?_⟩
    walk_at "d"
    refine ⟨3, rfl, by decide, fun q3 q30 q31 => ?_⟩
    walk_at "d"
    intro c hc _
    have lw0 : LwR (Wd.put ⟨Tp5, e.W.ω⟩ c (.dct [])) c (rs.take 0) (fun _ => c) (fun _ => []) := ⟨Wd.put_same, fun p hp => by simp at hp⟩
    generalize Wd.put ⟨Tp5, e.W.ω⟩ c (.dct []) = W5 at lw0 ⊢
    refine for_map rowR rs (fun i S => ∃ v10 v11 W' L g, S = ⟨[some (.val .scr), some (.val .tape), some (.val (.tup [.dct (dkS ss), .dct (dkS us)])), some (.val (.lst (sg.map D.str))), some (.val .tape), some (.val (.lst (rs.map rowR))), v6, some (.val .tape), some (.val (.bl (decide (q3 = 1)))), some (.val (.ref c)), v10, v11, none, none, none, none, none], W'⟩ ∧ LwR W' c (rs.take i) L g) ⟨_, _, _, _, _, rfl, lw0⟩ ?_ ?_
    · rintro i p S hp ⟨v10, v11, W', L, g, rfl, lw⟩
      have hpm := List.mem_of_getElem? hp
      obtain ⟨g1, g2, g3⟩ := hR.gr _ hpm
      have qo : ∀ q ∈ p.2.1, okD false q.1 = true := fun q hq => by
        rcases (g1.pl q hq).1 with h | h
        · rw [h, okD]
        · exact h.ok
      rw [show rowR p = D.tup [.str p.1, ruleD p.2.1 p.2.2] from rfl]
      walk_at "d"
      refine ⟨3, rfl, by decide, fun j j0 j1 => ?_⟩
      walk_at "d"
      refine ⟨by omega, by omega, ?_⟩
      refine comp_rel (fun i : Nat => D.int (0 + (i : Int))) (fun _ d => ∃ y, d = wayD y ∧ WayOf p.2.1 y) (List.range (1 + j).toNat) (by simp; omega) (fun i hi N M hN => ?_) (fun bs hbs => ?_)
      · walk_at "d"
        refine ⟨p.2.1, p.2.2, rfl, by omega, qo, fun y hy => ?_⟩
        walk_at "d"
        exact hN _ ⟨y, rfl, hy⟩
      have bl := hbs.len
      rw [List.length_range] at bl
      obtain ⟨ys, rfl, hys⟩ := ways_of hbs
      rw [List.length_map] at bl
      walk_at "d"
      intro l hl _
      have ncl : c ≠ l := fun z => by have := lw.c; rw [z, hl] at this; cases this
      have hc1 : (W'.put l (.lst (ys.map wayD))).ω c = some (.dct (ksA L (rs.take i))) := (Wd.put_ne ncl).trans lw.c
      have hkl : (ksA L (rs.take i)).length ≤ 8 := by
        have := hR.len
        simp [ksA]; omega
      have hil := (List.getElem?_eq_some_iff.mp hp).1
      refine mutDB_at hc1 ?_
      walk_at "d"
      refine ⟨by omega, ?_⟩
      have hne : ys ≠ [] := fun z => by rw [z] at bl; simp at bl; omega
      have kp : ∀ (cc : Cell) (a : Addr) (x : Cell), a ≠ c → W'.ω a = some x → ((W'.put l cc).put c (.dct (put (ksA L (rs.take i)) (.inr p.1) (.ref l)))).ω a = some x := fun cc a x hac hx => (Wd.put_ne hac).trans ((Wd.put_ne fun z => by rw [z, hl] at hx; cases hx).trans hx)
      have lw1 : LwR ((W'.put l (.lst (ys.map wayD))).put c (.dct (put (ksA L (rs.take i)) (.inr p.1) (.ref l)))) c (rs.take (i + 1)) (updS L p.1 l) (updS g p.1 ys) := lw.snoc hp hR.nd (kp _) Wd.put_same ((Wd.put_ne (Ne.symm ncl)).trans Wd.put_same) hne (by omega) hys
      refine iteB_by (fun c1 => ?_) (fun c1 => ?_)
      · walk_at "d"
        refine ⟨4, rfl, by decide, fun z z0 z1 => ?_⟩
        walk_at "d"
        refine iteB_by (fun c2 => ?_) (fun c2 => ?_)
        · walk_at "d"
          rw [put_any]
          walk_at "d"
          have hl1 : ((W'.put l (.lst (ys.map wayD))).put c (.dct (put (ksA L (rs.take i)) (.inr p.1) (.ref l)))).ω l = some (.lst (ys.map wayD)) := (Wd.put_ne (Ne.symm ncl)).trans Wd.put_same
          refine ⟨deref_lst hl1, ?_⟩
          rw [put_any]
          walk_at "d"
          refine dd1B_at (vD_lst hl1) ?_
          obtain ⟨y0, hy0⟩ : ∃ y0, ys[0]? = some y0 := ⟨_, List.getElem?_eq_getElem (by omega)⟩
          have hy0m := hys _ (List.mem_of_getElem? hy0)
          walk_at "d"
          rw [show atI (ys.map wayD) 0 = some (wayD y0) from at_get (j := 0) rfl (show (ys.map wayD)[0]? = some (wayD y0) by rw [List.getElem?_map, hy0]; rfl)]
          rw [show wayD y0 = D.tup [.str y0.wh, .tup (y0.st.map stpD), .tup (y0.nt.map D.int)] from rfl]
          walk_at "d"
          refine mutLB_at hl1 ?_
          walk_at "d"
          refine ⟨by rw [List.length_map]; omega, _, _, _, _, _, rfl, lw.snoc (l := l) (ys := ys ++ [⟨Str.ofString "found", y0.st, y0.nt⟩]) hp hR.nd (fun a x hac hx => (Wd.put_ne fun z => by rw [z, hl] at hx; cases hx).trans (kp _ a x hac hx)) ((Wd.put_ne ncl).trans Wd.put_same) ?_ (by simp) (by rw [List.length_append]; simp; omega) fun y hy => ?_⟩
          · rw [List.map_append]
            exact Wd.put_same
          · rcases List.mem_append.mp hy with hy | hy
            · exact hys y hy
            · rw [List.mem_singleton.mp hy]
              exact ⟨rfl, hy0m.md, hy0m.pm, hy0m.nt, hy0m.nb⟩
        · walk_at "d"
          exact ⟨_, _, _, _, _, rfl, lw1⟩
      · walk_at "d"
        exact ⟨_, _, _, _, _, rfl, lw1⟩
    · rintro S ⟨v10, v11, W', L, g, rfl, lw⟩
      rw [List.take_length] at lw
      walk_at "d"
      refine ⟨ss, us, wf, wt, 3, rs, rfl, L3, hR, fun t r ht hr' nrt => ?_⟩
      walk_at "d"
      have nct : c ≠ t := fun z => by have := lw.c; rw [z, ht] at this; cases this
      have ncr : c ≠ r := fun z => by have := lw.c; rw [z, hr'] at this; cases this
      have lw2 := lw.ext (W' := (W'.put r (.dct (ksR rs))).put t (.ins (clsA mg "Table") (tbC (.obj (clsA mg "Stock") (stkC ss us)) r))) fun a x h => (Wd.put_ne fun z => by rw [z, ht] at h; cases h).trans ((Wd.put_ne fun z => by rw [z, hr'] at h; cases h).trans h)
      have tb : TbAt (clsA mg "Table") ((W'.put r (.dct (ksR rs))).put t (.ins (clsA mg "Table") (tbC (.obj (clsA mg "Stock") (stkC ss us)) r))) t r (.obj (clsA mg "Stock") (stkC ss us)) (ksR rs) := ⟨Wd.put_same, (Wd.put_ne nrt).trans Wd.put_same⟩
      generalize (W'.put r (.dct (ksR rs))).put t (.ins (clsA mg "Table") (tbC (.obj (clsA mg "Stock") (stkC ss us)) r)) = W6 at lw2 tb ⊢
      clear lw lw0 ht hr'
      have qo : ∀ p ∈ rs, ∀ q ∈ p.2.1, okD false q.1 = true := fun p hp q hq => by
        rcases ((hR.gr p hp).1.pl q hq).1 with h | h
        · rw [h, okD]
        · exact h.ok
      refine ⟨t, r, c, .obj (clsA mg "Stock") (stkC ss us), rs, L, g, rfl, tb, ncr, hR.nd, by have := hR.len; omega, fun p hp => ⟨hR.wd p hp, h3 p hp, qo p hp⟩, lw2.c, fun p hp => ⟨(lw2.l p hp).1, by have := (lw2.l p hp).2.2.1; omega, (lw2.l p hp).2.2.2⟩, fun a b ha hb nb => ?_⟩
      walk_at "d"
      have nta : t ≠ a := fun z => by have := tb.o; rw [z, ha] at this; cases this
      have ntb : t ≠ b := fun z => by have := tb.o; rw [z, hb] at this; cases this
      have nra : r ≠ a := fun z => by have := tb.k; rw [z, ha] at this; cases this
      have nrb : r ≠ b := fun z => by have := tb.k; rw [z, hb] at this; cases this
      have lw3 := lw2.ext (W' := (W6.put b (.dct (ksV g rs))).put a (.ins (clsA mg "Book") (bkC t b))) fun d x h => (Wd.put_ne fun z => by rw [z, ha] at h; cases h).trans ((Wd.put_ne fun z => by rw [z, hb] at h; cases h).trans h)
      have tb3 : TbAt (clsA mg "Table") ((W6.put b (.dct (ksV g rs))).put a (.ins (clsA mg "Book") (bkC t b))) t r (.obj (clsA mg "Stock") (stkC ss us)) (ksR rs) := ⟨(Wd.put_ne nta).trans ((Wd.put_ne ntb).trans tb.o), (Wd.put_ne nra).trans ((Wd.put_ne nrb).trans tb.k)⟩
      have bk3 : BkAt (clsA mg "Book") ((W6.put b (.dct (ksV g rs))).put a (.ins (clsA mg "Book") (bkC t b))) a t b (ksV g rs) := ⟨Wd.put_same, (Wd.put_ne nb).trans Wd.put_same⟩
      have nrb := Ne.symm nrb
      have nca : c ≠ a := fun z => by have := lw2.c; rw [z, ha] at this; cases this
      have ncb : c ≠ b := fun z => by have := lw2.c; rw [z, hb] at this; cases this
      generalize (W6.put b (.dct (ksV g rs))).put a (.ins (clsA mg "Book") (bkC t b)) = W7 at lw3 tb3 bk3 ⊢
      clear lw2 tb ha hb
      refine ⟨4, 90, rfl, by decide, by decide, by decide, fun Tp9 hT9 => ?_⟩
      have lw4 := lw3.ext (W' := ⟨Tp9, W7.ω⟩) fun _ _ h => h
      have tb4 : TbAt (clsA mg "Table") ⟨Tp9, W7.ω⟩ t r (.obj (clsA mg "Stock") (stkC ss us)) (ksR rs) := ⟨tb3.o, tb3.k⟩
      have bk4 : BkAt (clsA mg "Book") ⟨Tp9, W7.ω⟩ a t b (ksV g rs) := ⟨bk3.o, bk3.k⟩
      walk_at "d"
      generalize (⟨Tp9, W7.ω⟩ : Wd) = W8 at lw4 tb4 bk4 ⊢
      clear lw3 tb3 bk3
      refine ⟨3, rfl, by decide, fun q q0 q1 => ?_⟩
      walk_at "d"
      have eqn : (1 + q : Int) = ((1 + q).toNat : Int) := by omega
      rw [eqn]
      refine ⟨rs, [Str.ofString "x", Str.ofString "y"], (1 + q).toNat, rfl, by omega, by have := hR.len; omega, h3, by decide, by decide, fun d hd => ?_⟩
      have hd : PartB [Str.ofString "x", Str.ofString "y"] rs 6 d := hd.mono (show (1 + q).toNat + 1 ≤ 6 by omega)
      walk_at "d"
      obtain ⟨rr, e2⟩ := L3.two
      rw [keys_dkS]
      refine comp_map (fun p : Str × Str => D.str p.1) (fun p => .str p.1) ss (by have := L3.len; simp; omega) (fun p hp N M h => ?_) ?_
      · walk_at "d"
        exact h
      walk_at "d"
      rw [show atI (ss.map fun p : Str × Str => D.str p.1) 0 = some (.str wf) from at_get (j := 0) rfl (by rw [e2]; rfl)]
      walk_at "d"
      have sl : ∀ p ∈ ss, p.2.length ≤ 1000 := fun p hp => by have := hsh.small p hp; omega
      have hkk := base_kind L3
      have rl8 : rs.length ≤ 8 := by omega
      have hnx : ∀ x ∈ [Str.ofString "x", Str.ofString "y"], isWord x = true := by decide +kernel
      refine ⟨a, t, b, r, ss, us, rs, ksV g rs, g, .ref c, d, .tup [.str wf], [Str.ofString "x", Str.ofString "y"], rfl, bkQ_of hR sl tb4 bk4 nrb fun p hp => ⟨(lw4.l p hp).2.1, (lw4.l p hp).2.2.2⟩, lw4.wyR h3, rl8, hd, hnx, hkk, ?_⟩
      walk_at "d"
      rw [List.length_map]
      refine iteB_by (fun c1 => ?_) (fun c1 => ?_)
      · walk_at "d"
      · walk_at "d"
        refine ⟨_, rfl, by rw [List.length_map]; omega, fun z z0 z1 => ?_⟩
        rw [List.length_map] at z1
        obtain ⟨⟨x, qs, wdd⟩, ep, hpm⟩ := row_at (rs := rs) z0 (by omega)
        walk_at "d"
        rw [ep, show rowR (x, qs, wdd) = .tup [.str x, ruleD qs wdd] from rfl]
        have lx : look (ksR rs) (.inr x) = some (ruleD qs wdd) := look_ksR hR.nd hpm
        have nd : ∀ p ∈ rs, p.1 = x → p.2.1 = qs := fun p hp e => by
          have h1 : look (ksR rs) (.inr p.1) = some (ruleD p.2.1 p.2.2) := look_ksR hR.nd hp
          rw [e, lx] at h1
          have := D.tup.inj (Option.some.inj h1)
          simp only [List.cons.injEq, and_true] at this
          exact ((List.map_inj_right (fun a b e => by
            have := D.tup.inj e
            simp only [List.cons.injEq, and_true] at this
            exact Prod.ext this.1 this.2)).mp (D.tup.inj this.1)).symm
        have hgr := hR.gr _ hpm
        have g3 : qs.length ≤ 3 := hgr.2.2
        walk_at "d"
        refine ⟨qs, wdd, rfl, by omega, qo _ hpm, fun y hy => ?_⟩
        walk_at "d"
        intro l hl _
        have ncl : c ≠ l := fun z => by have := lw4.c; rw [z, hl] at this; cases this
        have hc1 : (W8.put l (.lst [wayD y])).ω c = some (.dct (ksA L rs)) := (Wd.put_ne ncl).trans lw4.c
        have kp : ∀ (d : Addr) (o : Cell), d ≠ c → W8.ω d = some o → ((W8.put l (.lst [wayD y])).put c (.dct (put (ksA L rs) (.inr x) (.ref l)))).ω d = some o := fun d o hac hx => (Wd.put_ne hac).trans ((Wd.put_ne fun z => by rw [z, hl] at hx; cases hx).trans hx)
        have hxm : x ∈ rs.map (·.1) := List.mem_map.mpr ⟨_, hpm, rfl⟩
        have lw5 : LwR ((W8.put l (.lst [wayD y])).put c (.dct (put (ksA L rs) (.inr x) (.ref l)))) c rs (updS L x l) (updS g x [y]) := lw4.set hxm kp Wd.put_same ((Wd.put_ne (Ne.symm ncl)).trans Wd.put_same) (by simp) (by simp) fun p hp e y' hy' => by
          rw [List.mem_singleton.mp hy', nd p hp e]
          exact hy
        refine mutDB_at hc1 ?_
        walk_at "d"
        refine ⟨by simp [ksA]; omega, ?_⟩
        have tb5 : TbAt (clsA mg "Table") ((W8.put l (.lst [wayD y])).put c (.dct (put (ksA L rs) (.inr x) (.ref l)))) t r (.obj (clsA mg "Stock") (stkC ss us)) (ksR rs) := ⟨kp _ _ (Ne.symm nct) tb4.o, kp _ _ (Ne.symm ncr) tb4.k⟩
        have bk5 : BkAt (clsA mg "Book") ((W8.put l (.lst [wayD y])).put c (.dct (put (ksA L rs) (.inr x) (.ref l)))) a t b (ksV g rs) := ⟨kp _ _ (Ne.symm nca) bk4.o, kp _ _ (Ne.symm ncb) bk4.k⟩
        have hl1 : ((W8.put l (.lst [wayD y])).put c (.dct (put (ksA L rs) (.inr x) (.ref l)))).ω l = some (.lst [wayD y]) := (Wd.put_ne (Ne.symm ncl)).trans Wd.put_same
        rw [put_any]
        walk_at "d"
        refine dd1B_at (vD_lst hl1) ?_
        walk_at "d"
        refine dd1B_at (vD_ins bk5.o) ?_
        walk_at "d"
        refine ⟨a, t, b, r, _, _, _, _, x, [y], rfl, bk5, tb5, by have := word_len (hR.wd _ hpm); simp at this; omega, by simp [ksV]; omega, by simp, fun y' hy' => ?_, .inl rfl, fun z => (by rw [lx] at z; cases z), fun d h => ?_⟩
        · rw [List.mem_singleton.mp hy']
          exact ⟨by have := hy.stl; omega, by have := hy.ntl; omega⟩
        rw [lx] at h
        cases h
        refine ⟨qs, wdd, rfl, by omega, qo _ hpm, fun _ => ?_, fun z => ?_⟩
        rotate_left
        · exact absurd z (by rw [List.all_eq_true.mpr fun y' hy' => by rw [List.mem_singleton.mp hy']; exact hy.fits g3]; simp)
        have ekv : put (ksV g rs) (.inr x) (.tup ([y].map wayD)) = ksV (updS g x [y]) rs := by
          have e := put_kf (h := fun z => .tup ((g z).map wayD)) (h' := fun z => .tup ((updS g x [y] z).map wayD)) hxm fun z hz => by rw [updS_ne hz]
          rw [updS_same] at e
          exact e
        rw [ekv]
        have nbl : ∀ p ∈ rs, updS L x l p.1 ≠ b := fun p hp z => by
          have := (lw5.l p hp).1
          rw [z, bk5.k] at this
          cases this
        have ntb5 : t ≠ b := fun z => by have := tb5.o; rw [z, bk5.k] at this; cases this
        have nab5 : a ≠ b := fun z => by have := bk5.o; rw [z, bk5.k] at this; cases this
        generalize (W8.put l (.lst [wayD y])).put c (.dct (put (ksA L rs) (.inr x) (.ref l))) = W9 at lw5 tb5 bk5 ⊢
        have lw6 : LwR (W9.put b (.dct (ksV (updS g x [y]) rs))) c rs (updS L x l) (updS g x [y]) := ⟨(Wd.put_ne ncb).trans lw5.c, fun p hp => ⟨(Wd.put_ne (nbl p hp)).trans (lw5.l p hp).1, (lw5.l p hp).2⟩⟩
        have tb6 : TbAt (clsA mg "Table") (W9.put b (.dct (ksV (updS g x [y]) rs))) t r (.obj (clsA mg "Stock") (stkC ss us)) (ksR rs) := ⟨(Wd.put_ne ntb5).trans tb5.o, (Wd.put_ne (Ne.symm nrb)).trans tb5.k⟩
        have bk6 : BkAt (clsA mg "Book") (W9.put b (.dct (ksV (updS g x [y]) rs))) a t b (ksV (updS g x [y]) rs) := ⟨(Wd.put_ne nab5).trans bk5.o, Wd.put_same⟩
        walk_at "d"
        generalize W9.put b (.dct (ksV (updS g x [y]) rs)) = W10 at lw6 tb6 bk6 ⊢
        refine ⟨a, t, b, r, ss, us, rs, ksV (updS g x [y]) rs, updS g x [y], .ref c, d, .tup [.str wf], [Str.ofString "x", Str.ofString "y"], rfl, bkQ_of hR sl tb6 bk6 nrb fun p hp => ⟨(lw6.l p hp).2.1, (lw6.l p hp).2.2.2⟩, lw6.wyR h3, rl8, hd, hnx, hkk, ?_⟩
        walk_at "d"
end Kn
set_option synthInstance.maxHeartbeats 0
set_option synthInstance.maxSize 100000
set_option Elab.async false
set_option maxRecDepth 100000
set_option linter.all false
set_option maxHeartbeats 0
set_option pp.maxSteps 30
set_option pp.deepTerms false
set_option pp.proofs false
namespace Kn
open PySem L2
theorem facts {l : PySem.W.OpenLaw} (hl : l.prog = PySem.Challenge.pw_kindnotes_k43_whole_quiet_signs) {w : World} {K : PySem.W.Frag} {h : Heap} {mg : Str → Option Value} {fa : Addr} (X : K.In h) (G : h.Ns mainGlobals mg) (hfa : mg "law" = some (.ref fa)) (c : obsK hds hbs K = wantK hds) :
    ∃ fd : FuncData, (∀ (s : Shared) (v : Value), BindsTo s fd ⟨[v], []⟩ [("_law_script", v)]) ∧ ∀ base : Heap, K.In base → base.Ns mainGlobals mg → FnOk l.prog w K mg base CX0 27 fa fd ["_law_script"] (spLaw K) := by
  obtain ⟨fd_is_word, fu_is_word⟩ := Dq.funD (d := ⟨gA "is_word", "is_word", "is_word", s_is_word, [], [], []⟩) rfl (saysD c 0 (d := ⟨gA "is_word", "is_word", "is_word", s_is_word, [], [], []⟩)).1 (saysD c 0 (d := ⟨gA "is_word", "is_word", "is_word", s_is_word, [], [], []⟩)).2
  have fu_is_word : FunD K "is_word" "is_word" (defArgs s_is_word) (defBody s_is_word) (defScope s_is_word) [] [] (gA "is_word" K) fd_is_word := fu_is_word
  have F_is_word : Fz K mg "is_word" s_is_word P_is_word := ⟨_, _, funD_plain fu_is_word, He.glo_ok X G (saysB c 0 (b := bFa (.glo "is_word"))), fu_is_word.bindsN fun _ _ _ _ _ _ us hl => match us, hl with | [_], _ => rfl⟩
  obtain ⟨fd_is_letter, fu_is_letter⟩ := Dq.funD (d := ⟨gA "is_letter", "is_letter", "is_letter", s_is_letter, [], [], []⟩) rfl (saysD c 1 (d := ⟨gA "is_letter", "is_letter", "is_letter", s_is_letter, [], [], []⟩)).1 (saysD c 1 (d := ⟨gA "is_letter", "is_letter", "is_letter", s_is_letter, [], [], []⟩)).2
  have fu_is_letter : FunD K "is_letter" "is_letter" (defArgs s_is_letter) (defBody s_is_letter) (defScope s_is_letter) [] [] (gA "is_letter" K) fd_is_letter := fu_is_letter
  have F_is_letter : Fz K mg "is_letter" s_is_letter P_is_letter := ⟨_, _, funD_plain fu_is_letter, He.glo_ok X G (saysB c 1 (b := bFa (.glo "is_letter"))), fu_is_letter.bindsN fun _ _ _ _ _ _ us hl => match us, hl with | [_], _ => rfl⟩
  obtain ⟨fd_is_form, fu_is_form⟩ := Dq.funD (d := ⟨gA "is_form", "is_form", "is_form", s_is_form, [], [], []⟩) rfl (saysD c 2 (d := ⟨gA "is_form", "is_form", "is_form", s_is_form, [], [], []⟩)).1 (saysD c 2 (d := ⟨gA "is_form", "is_form", "is_form", s_is_form, [], [], []⟩)).2
  have fu_is_form : FunD K "is_form" "is_form" (defArgs s_is_form) (defBody s_is_form) (defScope s_is_form) [] [] (gA "is_form" K) fd_is_form := fu_is_form
  have F_is_form : Fz K mg "is_form" s_is_form P_is_form := ⟨_, _, funD_plain fu_is_form, He.glo_ok X G (saysB c 2 (b := bFa (.glo "is_form"))), fu_is_form.bindsN fun _ _ _ _ _ _ us hl => match us, hl with | [_], _ => rfl⟩
  obtain ⟨fd_has_letters, fu_has_letters⟩ := Dq.funD (d := ⟨gA "has_letters", "has_letters", "has_letters", s_has_letters, [], [], []⟩) rfl (saysD c 3 (d := ⟨gA "has_letters", "has_letters", "has_letters", s_has_letters, [], [], []⟩)).1 (saysD c 3 (d := ⟨gA "has_letters", "has_letters", "has_letters", s_has_letters, [], [], []⟩)).2
  have fu_has_letters : FunD K "has_letters" "has_letters" (defArgs s_has_letters) (defBody s_has_letters) (defScope s_has_letters) [] [] (gA "has_letters" K) fd_has_letters := fu_has_letters
  have F_has_letters : Fz K mg "has_letters" s_has_letters P_has_letters := ⟨_, _, funD_plain fu_has_letters, He.glo_ok X G (saysB c 3 (b := bFa (.glo "has_letters"))), fu_has_letters.bindsN fun _ _ _ _ _ _ us hl => match us, hl with | [_], _ => rfl⟩
  obtain ⟨fd_fits_shapes, fu_fits_shapes⟩ := Dq.funD (d := ⟨gA "fits_shapes", "fits_shapes", "fits_shapes", s_fits_shapes, [], [], []⟩) rfl (saysD c 4 (d := ⟨gA "fits_shapes", "fits_shapes", "fits_shapes", s_fits_shapes, [], [], []⟩)).1 (saysD c 4 (d := ⟨gA "fits_shapes", "fits_shapes", "fits_shapes", s_fits_shapes, [], [], []⟩)).2
  have fu_fits_shapes : FunD K "fits_shapes" "fits_shapes" (defArgs s_fits_shapes) (defBody s_fits_shapes) (defScope s_fits_shapes) [] [] (gA "fits_shapes" K) fd_fits_shapes := fu_fits_shapes
  have F_fits_shapes : Fz K mg "fits_shapes" s_fits_shapes P_fits_shapes := ⟨_, _, funD_plain fu_fits_shapes, He.glo_ok X G (saysB c 4 (b := bFa (.glo "fits_shapes"))), fu_fits_shapes.bindsN fun _ _ _ _ _ _ us hl => match us, hl with | [_, _], _ => rfl⟩
  obtain ⟨fd_is_kind, fu_is_kind⟩ := Dq.funD (d := ⟨gA "is_kind", "is_kind", "is_kind", s_is_kind, [], [], []⟩) rfl (saysD c 5 (d := ⟨gA "is_kind", "is_kind", "is_kind", s_is_kind, [], [], []⟩)).1 (saysD c 5 (d := ⟨gA "is_kind", "is_kind", "is_kind", s_is_kind, [], [], []⟩)).2
  have fu_is_kind : FunD K "is_kind" "is_kind" (defArgs s_is_kind) (defBody s_is_kind) (defScope s_is_kind) [] [] (gA "is_kind" K) fd_is_kind := fu_is_kind
  have F_is_kind : Fz K mg "is_kind" s_is_kind P_is_kind := ⟨_, _, funD_plain fu_is_kind, He.glo_ok X G (saysB c 5 (b := bFa (.glo "is_kind"))), fu_is_kind.bindsN fun _ _ _ _ _ _ us hl => match us, hl with | [_, _], _ => rfl⟩
  obtain ⟨fd_leads_back, fu_leads_back⟩ := Dq.funD (d := ⟨gA "leads_back", "leads_back", "leads_back", s_leads_back, [], [], []⟩) rfl (saysD c 6 (d := ⟨gA "leads_back", "leads_back", "leads_back", s_leads_back, [], [], []⟩)).1 (saysD c 6 (d := ⟨gA "leads_back", "leads_back", "leads_back", s_leads_back, [], [], []⟩)).2
  have fu_leads_back : FunD K "leads_back" "leads_back" (defArgs s_leads_back) (defBody s_leads_back) (defScope s_leads_back) [] [] (gA "leads_back" K) fd_leads_back := fu_leads_back
  have F_leads_back : Fz K mg "leads_back" s_leads_back P_leads_back := ⟨_, _, funD_plain fu_leads_back, He.glo_ok X G (saysB c 6 (b := bFa (.glo "leads_back"))), fu_leads_back.bindsN fun _ _ _ _ _ _ us hl => match us, hl with | [_], _ => rfl⟩
  obtain ⟨fd_sound_shapes, fu_sound_shapes⟩ := Dq.funD (d := ⟨gA "sound_shapes", "sound_shapes", "sound_shapes", s_sound_shapes, [], [], []⟩) rfl (saysD c 7 (d := ⟨gA "sound_shapes", "sound_shapes", "sound_shapes", s_sound_shapes, [], [], []⟩)).1 (saysD c 7 (d := ⟨gA "sound_shapes", "sound_shapes", "sound_shapes", s_sound_shapes, [], [], []⟩)).2
  have fu_sound_shapes : FunD K "sound_shapes" "sound_shapes" (defArgs s_sound_shapes) (defBody s_sound_shapes) (defScope s_sound_shapes) [] [] (gA "sound_shapes" K) fd_sound_shapes := fu_sound_shapes
  have F_sound_shapes : Fz K mg "sound_shapes" s_sound_shapes P_sound_shapes := ⟨_, _, funD_plain fu_sound_shapes, He.glo_ok X G (saysB c 7 (b := bFa (.glo "sound_shapes"))), fu_sound_shapes.bindsN fun _ _ _ _ _ _ us hl => match us, hl with | [_], _ => rfl⟩
  obtain ⟨fd_sound_order, fu_sound_order⟩ := Dq.funD (d := ⟨gA "sound_order", "sound_order", "sound_order", s_sound_order, [], [], []⟩) rfl (saysD c 8 (d := ⟨gA "sound_order", "sound_order", "sound_order", s_sound_order, [], [], []⟩)).1 (saysD c 8 (d := ⟨gA "sound_order", "sound_order", "sound_order", s_sound_order, [], [], []⟩)).2
  have fu_sound_order : FunD K "sound_order" "sound_order" (defArgs s_sound_order) (defBody s_sound_order) (defScope s_sound_order) [] [] (gA "sound_order" K) fd_sound_order := fu_sound_order
  have F_sound_order : Fz K mg "sound_order" s_sound_order P_sound_order := ⟨_, _, funD_plain fu_sound_order, He.glo_ok X G (saysB c 8 (b := bFa (.glo "sound_order"))), fu_sound_order.bindsN fun _ _ _ _ _ _ us hl => match us, hl with | [_, _], _ => rfl⟩
  obtain ⟨fd_rule_fits, fu_rule_fits⟩ := Dq.funD (d := ⟨gA "rule_fits", "rule_fits", "rule_fits", s_rule_fits, [], [], []⟩) rfl (saysD c 9 (d := ⟨gA "rule_fits", "rule_fits", "rule_fits", s_rule_fits, [], [], []⟩)).1 (saysD c 9 (d := ⟨gA "rule_fits", "rule_fits", "rule_fits", s_rule_fits, [], [], []⟩)).2
  have fu_rule_fits : FunD K "rule_fits" "rule_fits" (defArgs s_rule_fits) (defBody s_rule_fits) (defScope s_rule_fits) [] [] (gA "rule_fits" K) fd_rule_fits := fu_rule_fits
  have F_rule_fits : Fz K mg "rule_fits" s_rule_fits P_rule_fits := ⟨_, _, funD_plain fu_rule_fits, He.glo_ok X G (saysB c 9 (b := bFa (.glo "rule_fits"))), fu_rule_fits.bindsN fun _ _ _ _ _ _ us hl => match us, hl with | [_, _], _ => rfl⟩
  obtain ⟨fd_are_steps, fu_are_steps⟩ := Dq.funD (d := ⟨gA "are_steps", "are_steps", "are_steps", s_are_steps, [], [], []⟩) rfl (saysD c 10 (d := ⟨gA "are_steps", "are_steps", "are_steps", s_are_steps, [], [], []⟩)).1 (saysD c 10 (d := ⟨gA "are_steps", "are_steps", "are_steps", s_are_steps, [], [], []⟩)).2
  have fu_are_steps : FunD K "are_steps" "are_steps" (defArgs s_are_steps) (defBody s_are_steps) (defScope s_are_steps) [] [] (gA "are_steps" K) fd_are_steps := fu_are_steps
  have F_are_steps : Fz K mg "are_steps" s_are_steps P_are_steps := ⟨_, _, funD_plain fu_are_steps, He.glo_ok X G (saysB c 10 (b := bFa (.glo "are_steps"))), fu_are_steps.bindsN fun _ _ _ _ _ _ us hl => match us, hl with | [_], _ => rfl⟩
  obtain ⟨fd_are_integers, fu_are_integers⟩ := Dq.funD (d := ⟨gA "are_integers", "are_integers", "are_integers", s_are_integers, [], [], []⟩) rfl (saysD c 11 (d := ⟨gA "are_integers", "are_integers", "are_integers", s_are_integers, [], [], []⟩)).1 (saysD c 11 (d := ⟨gA "are_integers", "are_integers", "are_integers", s_are_integers, [], [], []⟩)).2
  have fu_are_integers : FunD K "are_integers" "are_integers" (defArgs s_are_integers) (defBody s_are_integers) (defScope s_are_integers) [] [] (gA "are_integers" K) fd_are_integers := fu_are_integers
  have F_are_integers : Fz K mg "are_integers" s_are_integers P_are_integers := ⟨_, _, funD_plain fu_are_integers, He.glo_ok X G (saysB c 11 (b := bFa (.glo "are_integers"))), fu_are_integers.bindsN fun _ _ _ _ _ _ us hl => match us, hl with | [_], _ => rfl⟩
  obtain ⟨fd_ascending, fu_ascending⟩ := Dq.funD (d := ⟨gA "ascending", "ascending", "ascending", s_ascending, [], [], []⟩) rfl (saysD c 12 (d := ⟨gA "ascending", "ascending", "ascending", s_ascending, [], [], []⟩)).1 (saysD c 12 (d := ⟨gA "ascending", "ascending", "ascending", s_ascending, [], [], []⟩)).2
  have fu_ascending : FunD K "ascending" "ascending" (defArgs s_ascending) (defBody s_ascending) (defScope s_ascending) [] [] (gA "ascending" K) fd_ascending := fu_ascending
  have F_ascending : Fz K mg "ascending" s_ascending P_ascending := ⟨_, _, funD_plain fu_ascending, He.glo_ok X G (saysB c 12 (b := bFa (.glo "ascending"))), fu_ascending.bindsN fun _ _ _ _ _ _ us hl => match us, hl with | [_], _ => rfl⟩
  obtain ⟨fd_is_way, fu_is_way⟩ := Dq.funD (d := ⟨gA "is_way", "is_way", "is_way", s_is_way, [], [], []⟩) rfl (saysD c 13 (d := ⟨gA "is_way", "is_way", "is_way", s_is_way, [], [], []⟩)).1 (saysD c 13 (d := ⟨gA "is_way", "is_way", "is_way", s_is_way, [], [], []⟩)).2
  have fu_is_way : FunD K "is_way" "is_way" (defArgs s_is_way) (defBody s_is_way) (defScope s_is_way) [] [] (gA "is_way" K) fd_is_way := fu_is_way
  have F_is_way : Fz K mg "is_way" s_is_way P_is_way := ⟨_, _, funD_plain fu_is_way, He.glo_ok X G (saysB c 13 (b := bFa (.glo "is_way"))), fu_is_way.bindsN fun _ _ _ _ _ _ us hl => match us, hl with | [_, _, _], _ => rfl⟩
  obtain ⟨fd_way_fits, fu_way_fits⟩ := Dq.funD (d := ⟨gA "way_fits", "way_fits", "way_fits", s_way_fits, [], [], []⟩) rfl (saysD c 14 (d := ⟨gA "way_fits", "way_fits", "way_fits", s_way_fits, [], [], []⟩)).1 (saysD c 14 (d := ⟨gA "way_fits", "way_fits", "way_fits", s_way_fits, [], [], []⟩)).2
  have fu_way_fits : FunD K "way_fits" "way_fits" (defArgs s_way_fits) (defBody s_way_fits) (defScope s_way_fits) [] [] (gA "way_fits" K) fd_way_fits := fu_way_fits
  have F_way_fits : Fz K mg "way_fits" s_way_fits P_way_fits := ⟨_, _, funD_plain fu_way_fits, He.glo_ok X G (saysB c 14 (b := bFa (.glo "way_fits"))), fu_way_fits.bindsN fun _ _ _ _ _ _ us hl => match us, hl with | [_, _], _ => rfl⟩
  obtain ⟨fd_is_noted, fu_is_noted⟩ := Dq.funD (d := ⟨gA "is_noted", "is_noted", "is_noted", s_is_noted, [], [], []⟩) rfl (saysD c 15 (d := ⟨gA "is_noted", "is_noted", "is_noted", s_is_noted, [], [], []⟩)).1 (saysD c 15 (d := ⟨gA "is_noted", "is_noted", "is_noted", s_is_noted, [], [], []⟩)).2
  have fu_is_noted : FunD K "is_noted" "is_noted" (defArgs s_is_noted) (defBody s_is_noted) (defScope s_is_noted) [] [] (gA "is_noted" K) fd_is_noted := fu_is_noted
  have F_is_noted : Fz K mg "is_noted" s_is_noted P_is_noted := ⟨_, _, funD_plain fu_is_noted, He.glo_ok X G (saysB c 15 (b := bFa (.glo "is_noted"))), fu_is_noted.bindsN fun _ _ _ _ _ _ us hl => match us, hl with | [_], _ => rfl⟩
  obtain ⟨fd_check_node, fu_check_node⟩ := Dq.funD (d := ⟨gA "check_node", "check_node", "check_node", s_check_node, [], [], []⟩) rfl (saysD c 16 (d := ⟨gA "check_node", "check_node", "check_node", s_check_node, [], [], []⟩)).1 (saysD c 16 (d := ⟨gA "check_node", "check_node", "check_node", s_check_node, [], [], []⟩)).2
  have fu_check_node : FunD K "check_node" "check_node" (defArgs s_check_node) (defBody s_check_node) (defScope s_check_node) [] [] (gA "check_node" K) fd_check_node := fu_check_node
  have F_check_node : Fz K mg "check_node" s_check_node P_check_node := ⟨_, _, funD_plain fu_check_node, He.glo_ok X G (saysB c 16 (b := bFa (.glo "check_node"))), fu_check_node.bindsN fun _ _ _ _ _ _ us hl => match us, hl with | [_, _], _ => rfl⟩
  obtain ⟨fd_check_part, fu_check_part⟩ := Dq.funD (d := ⟨gA "check_part", "check_part", "check_part", s_check_part, [], [], []⟩) rfl (saysD c 17 (d := ⟨gA "check_part", "check_part", "check_part", s_check_part, [], [], []⟩)).1 (saysD c 17 (d := ⟨gA "check_part", "check_part", "check_part", s_check_part, [], [], []⟩)).2
  have fu_check_part : FunD K "check_part" "check_part" (defArgs s_check_part) (defBody s_check_part) (defScope s_check_part) [] [] (gA "check_part" K) fd_check_part := fu_check_part
  have F_check_part : Fz K mg "check_part" s_check_part P_check_part := ⟨_, _, funD_plain fu_check_part, He.glo_ok X G (saysB c 17 (b := bFa (.glo "check_part"))), fu_check_part.bindsN fun _ _ _ _ _ _ us hl => match us, hl with | [_, _], _ => rfl⟩
  obtain ⟨fd_check_ways, fu_check_ways⟩ := Dq.funD (d := ⟨gA "check_ways", "check_ways", "check_ways", s_check_ways, [], [], []⟩) rfl (saysD c 18 (d := ⟨gA "check_ways", "check_ways", "check_ways", s_check_ways, [], [], []⟩)).1 (saysD c 18 (d := ⟨gA "check_ways", "check_ways", "check_ways", s_check_ways, [], [], []⟩)).2
  have fu_check_ways : FunD K "check_ways" "check_ways" (defArgs s_check_ways) (defBody s_check_ways) (defScope s_check_ways) [] [] (gA "check_ways" K) fd_check_ways := fu_check_ways
  have F_check_ways : Fz K mg "check_ways" s_check_ways P_check_ways := ⟨_, _, funD_plain fu_check_ways, He.glo_ok X G (saysB c 18 (b := bFa (.glo "check_ways"))), fu_check_ways.bindsN fun _ _ _ _ _ _ us hl => match us, hl with | [_, _], _ => rfl⟩
  obtain ⟨fd_node_need, fu_node_need⟩ := Dq.funD (d := ⟨gA "node_need", "node_need", "node_need", s_node_need, [], [], []⟩) rfl (saysD c 19 (d := ⟨gA "node_need", "node_need", "node_need", s_node_need, [], [], []⟩)).1 (saysD c 19 (d := ⟨gA "node_need", "node_need", "node_need", s_node_need, [], [], []⟩)).2
  have fu_node_need : FunD K "node_need" "node_need" (defArgs s_node_need) (defBody s_node_need) (defScope s_node_need) [] [] (gA "node_need" K) fd_node_need := fu_node_need
  have F_node_need : Fz K mg "node_need" s_node_need P_node_need := ⟨_, _, funD_plain fu_node_need, He.glo_ok X G (saysB c 19 (b := bFa (.glo "node_need"))), fu_node_need.bindsN fun _ _ _ _ _ _ us hl => match us, hl with | [_, _, _], _ => rfl⟩
  obtain ⟨fd_own_need, fu_own_need⟩ := Dq.funD (d := ⟨gA "own_need", "own_need", "own_need", s_own_need, [], [], []⟩) rfl (saysD c 20 (d := ⟨gA "own_need", "own_need", "own_need", s_own_need, [], [], []⟩)).1 (saysD c 20 (d := ⟨gA "own_need", "own_need", "own_need", s_own_need, [], [], []⟩)).2
  have fu_own_need : FunD K "own_need" "own_need" (defArgs s_own_need) (defBody s_own_need) (defScope s_own_need) [] [] (gA "own_need" K) fd_own_need := fu_own_need
  have F_own_need : Fz K mg "own_need" s_own_need P_own_need := ⟨_, _, funD_plain fu_own_need, He.glo_ok X G (saysB c 20 (b := bFa (.glo "own_need"))), fu_own_need.bindsN fun _ _ _ _ _ _ us hl => match us, hl with | [_, _], _ => rfl⟩
  obtain ⟨fd_part_needs, fu_part_needs⟩ := Dq.funD (d := ⟨gA "part_needs", "part_needs", "part_needs", s_part_needs, [], [], []⟩) rfl (saysD c 21 (d := ⟨gA "part_needs", "part_needs", "part_needs", s_part_needs, [], [], []⟩)).1 (saysD c 21 (d := ⟨gA "part_needs", "part_needs", "part_needs", s_part_needs, [], [], []⟩)).2
  have fu_part_needs : FunD K "part_needs" "part_needs" (defArgs s_part_needs) (defBody s_part_needs) (defScope s_part_needs) [] [] (gA "part_needs" K) fd_part_needs := fu_part_needs
  have F_part_needs : Fz K mg "part_needs" s_part_needs P_part_needs := ⟨_, _, funD_plain fu_part_needs, He.glo_ok X G (saysB c 21 (b := bFa (.glo "part_needs"))), fu_part_needs.bindsN fun _ _ _ _ _ _ us hl => match us, hl with | [_, _], _ => rfl⟩
  obtain ⟨fd_check_all_ways, fu_check_all_ways⟩ := Dq.funD (d := ⟨gA "check_all_ways", "check_all_ways", "check_all_ways", s_check_all_ways, [], [], []⟩) rfl (saysD c 22 (d := ⟨gA "check_all_ways", "check_all_ways", "check_all_ways", s_check_all_ways, [], [], []⟩)).1 (saysD c 22 (d := ⟨gA "check_all_ways", "check_all_ways", "check_all_ways", s_check_all_ways, [], [], []⟩)).2
  have fu_check_all_ways : FunD K "check_all_ways" "check_all_ways" (defArgs s_check_all_ways) (defBody s_check_all_ways) (defScope s_check_all_ways) [] [] (gA "check_all_ways" K) fd_check_all_ways := fu_check_all_ways
  have F_check_all_ways : Fz K mg "check_all_ways" s_check_all_ways P_check_all_ways := ⟨_, _, funD_plain fu_check_all_ways, He.glo_ok X G (saysB c 22 (b := bFa (.glo "check_all_ways"))), fu_check_all_ways.bindsN fun _ _ _ _ _ _ us hl => match us, hl with | [_], _ => rfl⟩
  obtain ⟨fd_rows_of, fu_rows_of⟩ := Dq.funD (d := ⟨gA "rows_of", "rows_of", "rows_of", s_rows_of, [], [], []⟩) rfl (saysD c 23 (d := ⟨gA "rows_of", "rows_of", "rows_of", s_rows_of, [], [], []⟩)).1 (saysD c 23 (d := ⟨gA "rows_of", "rows_of", "rows_of", s_rows_of, [], [], []⟩)).2
  have fu_rows_of : FunD K "rows_of" "rows_of" (defArgs s_rows_of) (defBody s_rows_of) (defScope s_rows_of) [] [] (gA "rows_of" K) fd_rows_of := fu_rows_of
  have F_rows_of : Fz K mg "rows_of" s_rows_of P_rows_of := ⟨_, _, funD_plain fu_rows_of, He.glo_ok X G (saysB c 23 (b := bFa (.glo "rows_of"))), fu_rows_of.bindsN fun _ _ _ _ _ _ us hl => match us, hl with | [_, _], _ => rfl⟩
  obtain ⟨fd_node_differences, fu_node_differences⟩ := Dq.funD (d := ⟨gA "node_differences", "node_differences", "node_differences", s_node_differences, [], [], []⟩) rfl (saysD c 24 (d := ⟨gA "node_differences", "node_differences", "node_differences", s_node_differences, [], [], []⟩)).1 (saysD c 24 (d := ⟨gA "node_differences", "node_differences", "node_differences", s_node_differences, [], [], []⟩)).2
  have fu_node_differences : FunD K "node_differences" "node_differences" (defArgs s_node_differences) (defBody s_node_differences) (defScope s_node_differences) [] [] (gA "node_differences" K) fd_node_differences := fu_node_differences
  have F_node_differences : Fz K mg "node_differences" s_node_differences P_node_differences := ⟨_, _, funD_plain fu_node_differences, He.glo_ok X G (saysB c 24 (b := bFa (.glo "node_differences"))), fu_node_differences.bindsN fun _ _ _ _ _ _ us hl => match us, hl with | [_, _, _], _ => rfl⟩
  obtain ⟨fd_quiet_signs, fu_quiet_signs⟩ := Dq.funD (d := ⟨gA "quiet_signs", "quiet_signs", "quiet_signs", s_quiet_signs, [], [], []⟩) rfl (saysD c 25 (d := ⟨gA "quiet_signs", "quiet_signs", "quiet_signs", s_quiet_signs, [], [], []⟩)).1 (saysD c 25 (d := ⟨gA "quiet_signs", "quiet_signs", "quiet_signs", s_quiet_signs, [], [], []⟩)).2
  have fu_quiet_signs : FunD K "quiet_signs" "quiet_signs" (defArgs s_quiet_signs) (defBody s_quiet_signs) (defScope s_quiet_signs) [] [] (gA "quiet_signs" K) fd_quiet_signs := fu_quiet_signs
  have F_quiet_signs : Fz K mg "quiet_signs" s_quiet_signs P_quiet_signs := ⟨_, _, funD_plain fu_quiet_signs, He.glo_ok X G (saysB c 25 (b := bFa (.glo "quiet_signs"))), fu_quiet_signs.bindsN fun _ _ _ _ _ _ us hl => match us, hl with | [_], _ => rfl⟩
  obtain ⟨fd__law_cell, fu__law_cell⟩ := Dq.funD (d := ⟨gA "_law_cell", "_law_cell", "_law_cell", s__law_cell, [], [], []⟩) rfl (saysD c 26 (d := ⟨gA "_law_cell", "_law_cell", "_law_cell", s__law_cell, [], [], []⟩)).1 (saysD c 26 (d := ⟨gA "_law_cell", "_law_cell", "_law_cell", s__law_cell, [], [], []⟩)).2
  have fu__law_cell : FunD K "_law_cell" "_law_cell" (defArgs s__law_cell) (defBody s__law_cell) (defScope s__law_cell) [] [] (gA "_law_cell" K) fd__law_cell := fu__law_cell
  have F__law_cell : Fz K mg "_law_cell" s__law_cell P__law_cell := ⟨_, _, funD_plain fu__law_cell, He.glo_ok X G (saysB c 26 (b := bFa (.glo "_law_cell"))), fu__law_cell.bindsN fun _ _ _ _ _ _ us hl => match us, hl with | [_, _], _ => rfl⟩
  obtain ⟨fd__law_tape, fu__law_tape⟩ := Dq.funD (d := ⟨gA "_law_tape", "_law_tape", "_law_tape", s__law_tape, [], [], []⟩) rfl (saysD c 27 (d := ⟨gA "_law_tape", "_law_tape", "_law_tape", s__law_tape, [], [], []⟩)).1 (saysD c 27 (d := ⟨gA "_law_tape", "_law_tape", "_law_tape", s__law_tape, [], [], []⟩)).2
  have fu__law_tape : FunD K "_law_tape" "_law_tape" (defArgs s__law_tape) (defBody s__law_tape) (defScope s__law_tape) [] [] (gA "_law_tape" K) fd__law_tape := fu__law_tape
  have F__law_tape : Fz K mg "_law_tape" s__law_tape P__law_tape := ⟨_, _, funD_plain fu__law_tape, He.glo_ok X G (saysB c 27 (b := bFa (.glo "_law_tape"))), fu__law_tape.bindsN fun _ _ _ _ _ _ us hl => match us, hl with | [_, _, _], _ => rfl⟩
  obtain ⟨fd__law_take, fu__law_take⟩ := Dq.funD (d := ⟨gA "_law_take", "_law_take", "_law_take", s__law_take, [], [], []⟩) rfl (saysD c 28 (d := ⟨gA "_law_take", "_law_take", "_law_take", s__law_take, [], [], []⟩)).1 (saysD c 28 (d := ⟨gA "_law_take", "_law_take", "_law_take", s__law_take, [], [], []⟩)).2
  have fu__law_take : FunD K "_law_take" "_law_take" (defArgs s__law_take) (defBody s__law_take) (defScope s__law_take) [] [] (gA "_law_take" K) fd__law_take := fu__law_take
  have F__law_take : Fz K mg "_law_take" s__law_take P__law_take := ⟨_, _, funD_plain fu__law_take, He.glo_ok X G (saysB c 28 (b := bFa (.glo "_law_take"))), fu__law_take.bindsN fun _ _ _ _ _ _ us hl => match us, hl with | [_, _], _ => rfl⟩
  obtain ⟨fd__law_words, fu__law_words⟩ := Dq.funD (d := ⟨gA "_law_words", "_law_words", "_law_words", s__law_words, [], [], []⟩) rfl (saysD c 29 (d := ⟨gA "_law_words", "_law_words", "_law_words", s__law_words, [], [], []⟩)).1 (saysD c 29 (d := ⟨gA "_law_words", "_law_words", "_law_words", s__law_words, [], [], []⟩)).2
  have fu__law_words : FunD K "_law_words" "_law_words" (defArgs s__law_words) (defBody s__law_words) (defScope s__law_words) [] [] (gA "_law_words" K) fd__law_words := fu__law_words
  have F__law_words : Fz K mg "_law_words" s__law_words P__law_words := ⟨_, _, funD_plain fu__law_words, He.glo_ok X G (saysB c 29 (b := bFa (.glo "_law_words"))), fu__law_words.bindsN fun _ _ _ _ _ _ us hl => match us, hl with | [_, _], _ => rfl⟩
  obtain ⟨fd__law_stock, fu__law_stock⟩ := Dq.funD (d := ⟨gA "_law_stock", "_law_stock", "_law_stock", s__law_stock, [], [], []⟩) rfl (saysD c 30 (d := ⟨gA "_law_stock", "_law_stock", "_law_stock", s__law_stock, [], [], []⟩)).1 (saysD c 30 (d := ⟨gA "_law_stock", "_law_stock", "_law_stock", s__law_stock, [], [], []⟩)).2
  have fu__law_stock : FunD K "_law_stock" "_law_stock" (defArgs s__law_stock) (defBody s__law_stock) (defScope s__law_stock) [] [] (gA "_law_stock" K) fd__law_stock := fu__law_stock
  have F__law_stock : Fz K mg "_law_stock" s__law_stock P__law_stock := ⟨_, _, funD_plain fu__law_stock, He.glo_ok X G (saysB c 30 (b := bFa (.glo "_law_stock"))), fu__law_stock.bindsN fun _ _ _ _ _ _ us hl => match us, hl with | [_, _, _], _ => rfl⟩
  obtain ⟨fd__law_form, fu__law_form⟩ := Dq.funD (d := ⟨gA "_law_form", "_law_form", "_law_form", s__law_form, [], [], []⟩) rfl (saysD c 31 (d := ⟨gA "_law_form", "_law_form", "_law_form", s__law_form, [], [], []⟩)).1 (saysD c 31 (d := ⟨gA "_law_form", "_law_form", "_law_form", s__law_form, [], [], []⟩)).2
  have fu__law_form : FunD K "_law_form" "_law_form" (defArgs s__law_form) (defBody s__law_form) (defScope s__law_form) [] [] (gA "_law_form" K) fd__law_form := fu__law_form
  have F__law_form : Fz K mg "_law_form" s__law_form P__law_form := ⟨_, _, funD_plain fu__law_form, He.glo_ok X G (saysB c 31 (b := bFa (.glo "_law_form"))), fu__law_form.bindsN fun _ _ _ _ _ _ us hl => match us, hl with | [_, _, _, _], _ => rfl⟩
  obtain ⟨fd__law_rule, fu__law_rule⟩ := Dq.funD (d := ⟨gA "_law_rule", "_law_rule", "_law_rule", s__law_rule, [], [], []⟩) rfl (saysD c 32 (d := ⟨gA "_law_rule", "_law_rule", "_law_rule", s__law_rule, [], [], []⟩)).1 (saysD c 32 (d := ⟨gA "_law_rule", "_law_rule", "_law_rule", s__law_rule, [], [], []⟩)).2
  have fu__law_rule : FunD K "_law_rule" "_law_rule" (defArgs s__law_rule) (defBody s__law_rule) (defScope s__law_rule) [] [] (gA "_law_rule" K) fd__law_rule := fu__law_rule
  have F__law_rule : Fz K mg "_law_rule" s__law_rule P__law_rule := ⟨_, _, funD_plain fu__law_rule, He.glo_ok X G (saysB c 32 (b := bFa (.glo "_law_rule"))), fu__law_rule.bindsN fun _ _ _ _ _ _ us hl => match us, hl with | [_, _, _, _, _], _ => rfl⟩
  obtain ⟨fd__law_way, fu__law_way⟩ := Dq.funD (d := ⟨gA "_law_way", "_law_way", "_law_way", s__law_way, [], [], []⟩) rfl (saysD c 33 (d := ⟨gA "_law_way", "_law_way", "_law_way", s__law_way, [], [], []⟩)).1 (saysD c 33 (d := ⟨gA "_law_way", "_law_way", "_law_way", s__law_way, [], [], []⟩)).2
  have fu__law_way : FunD K "_law_way" "_law_way" (defArgs s__law_way) (defBody s__law_way) (defScope s__law_way) [] [] (gA "_law_way" K) fd__law_way := fu__law_way
  have F__law_way : Fz K mg "_law_way" s__law_way P__law_way := ⟨_, _, funD_plain fu__law_way, He.glo_ok X G (saysB c 33 (b := bFa (.glo "_law_way"))), fu__law_way.bindsN fun _ _ _ _ _ _ us hl => match us, hl with | [_, _], _ => rfl⟩
  obtain ⟨fd__law_part, fu__law_part⟩ := Dq.funD (d := ⟨gA "_law_part", "_law_part", "_law_part", s__law_part, [], [], []⟩) rfl (saysD c 34 (d := ⟨gA "_law_part", "_law_part", "_law_part", s__law_part, [], [], []⟩)).1 (saysD c 34 (d := ⟨gA "_law_part", "_law_part", "_law_part", s__law_part, [], [], []⟩)).2
  have fu__law_part : FunD K "_law_part" "_law_part" (defArgs s__law_part) (defBody s__law_part) (defScope s__law_part) [] [] (gA "_law_part" K) fd__law_part := fu__law_part
  have F__law_part : Fz K mg "_law_part" s__law_part P__law_part := ⟨_, _, funD_plain fu__law_part, He.glo_ok X G (saysB c 34 (b := bFa (.glo "_law_part"))), fu__law_part.bindsN fun _ _ _ _ _ _ us hl => match us, hl with | [_, _, _, _], _ => rfl⟩
  obtain ⟨fd__law_adds, fu__law_adds⟩ := Dq.funD (d := ⟨gA "_law_adds", "_law_adds", "_law_adds", s__law_adds, [], [], []⟩) rfl (saysD c 35 (d := ⟨gA "_law_adds", "_law_adds", "_law_adds", s__law_adds, [], [], []⟩)).1 (saysD c 35 (d := ⟨gA "_law_adds", "_law_adds", "_law_adds", s__law_adds, [], [], []⟩)).2
  have fu__law_adds : FunD K "_law_adds" "_law_adds" (defArgs s__law_adds) (defBody s__law_adds) (defScope s__law_adds) [] [] (gA "_law_adds" K) fd__law_adds := fu__law_adds
  have F__law_adds : Fz K mg "_law_adds" s__law_adds P__law_adds := ⟨_, _, funD_plain fu__law_adds, He.glo_ok X G (saysB c 35 (b := bFa (.glo "_law_adds"))), fu__law_adds.bindsN fun _ _ _ _ _ _ us hl => match us, hl with | [_, _, _], _ => rfl⟩
  obtain ⟨fd__law_table, fu__law_table⟩ := Dq.funD (d := ⟨gA "_law_table", "_law_table", "_law_table", s__law_table, [], [], []⟩) rfl (saysD c 36 (d := ⟨gA "_law_table", "_law_table", "_law_table", s__law_table, [], [], []⟩)).1 (saysD c 36 (d := ⟨gA "_law_table", "_law_table", "_law_table", s__law_table, [], [], []⟩)).2
  have fu__law_table : FunD K "_law_table" "_law_table" (defArgs s__law_table) (defBody s__law_table) (defScope s__law_table) [] [] (gA "_law_table" K) fd__law_table := fu__law_table
  have F__law_table : Fz K mg "_law_table" s__law_table P__law_table := ⟨_, _, funD_plain fu__law_table, He.glo_ok X G (saysB c 36 (b := bFa (.glo "_law_table"))), fu__law_table.bindsN fun _ _ _ _ _ _ us hl => match us, hl with | [_, _, _], _ => rfl⟩
  obtain ⟨fd__law_book, fu__law_book⟩ := Dq.funD (d := ⟨gA "_law_book", "_law_book", "_law_book", s__law_book, [], [], []⟩) rfl (saysD c 37 (d := ⟨gA "_law_book", "_law_book", "_law_book", s__law_book, [], [], []⟩)).1 (saysD c 37 (d := ⟨gA "_law_book", "_law_book", "_law_book", s__law_book, [], [], []⟩)).2
  have fu__law_book : FunD K "_law_book" "_law_book" (defArgs s__law_book) (defBody s__law_book) (defScope s__law_book) [] [] (gA "_law_book" K) fd__law_book := fu__law_book
  have F__law_book : Fz K mg "_law_book" s__law_book P__law_book := ⟨_, _, funD_plain fu__law_book, He.glo_ok X G (saysB c 37 (b := bFa (.glo "_law_book"))), fu__law_book.bindsN fun _ _ _ _ _ _ us hl => match us, hl with | [_, _], _ => rfl⟩
  obtain ⟨fd__law_rows, fu__law_rows⟩ := Dq.funD (d := ⟨gA "_law_rows", "_law_rows", "_law_rows", s__law_rows, [], [], []⟩) rfl (saysD c 38 (d := ⟨gA "_law_rows", "_law_rows", "_law_rows", s__law_rows, [], [], []⟩)).1 (saysD c 38 (d := ⟨gA "_law_rows", "_law_rows", "_law_rows", s__law_rows, [], [], []⟩)).2
  have fu__law_rows : FunD K "_law_rows" "_law_rows" (defArgs s__law_rows) (defBody s__law_rows) (defScope s__law_rows) [] [] (gA "_law_rows" K) fd__law_rows := fu__law_rows
  have F__law_rows : Fz K mg "_law_rows" s__law_rows P__law_rows := ⟨_, _, funD_plain fu__law_rows, He.glo_ok X G (saysB c 38 (b := bFa (.glo "_law_rows"))), fu__law_rows.bindsN fun _ _ _ _ _ _ us hl => match us, hl with | [_, _], _ => rfl⟩
  obtain ⟨fd__law_differences, fu__law_differences⟩ := Dq.funD (d := ⟨gA "_law_differences", "_law_differences", "_law_differences", s__law_differences, [], [], []⟩) rfl (saysD c 39 (d := ⟨gA "_law_differences", "_law_differences", "_law_differences", s__law_differences, [], [], []⟩)).1 (saysD c 39 (d := ⟨gA "_law_differences", "_law_differences", "_law_differences", s__law_differences, [], [], []⟩)).2
  have fu__law_differences : FunD K "_law_differences" "_law_differences" (defArgs s__law_differences) (defBody s__law_differences) (defScope s__law_differences) [] [] (gA "_law_differences" K) fd__law_differences := fu__law_differences
  have F__law_differences : Fz K mg "_law_differences" s__law_differences P__law_differences := ⟨_, _, funD_plain fu__law_differences, He.glo_ok X G (saysB c 39 (b := bFa (.glo "_law_differences"))), fu__law_differences.bindsN fun _ _ _ _ _ _ us hl => match us, hl with | [_, _, _], _ => rfl⟩
  obtain ⟨fd__law_node, fu__law_node⟩ := Dq.funD (d := ⟨gA "_law_node", "_law_node", "_law_node", s__law_node, [], [], []⟩) rfl (saysD c 40 (d := ⟨gA "_law_node", "_law_node", "_law_node", s__law_node, [], [], []⟩)).1 (saysD c 40 (d := ⟨gA "_law_node", "_law_node", "_law_node", s__law_node, [], [], []⟩)).2
  have fu__law_node : FunD K "_law_node" "_law_node" (defArgs s__law_node) (defBody s__law_node) (defScope s__law_node) [] [] (gA "_law_node" K) fd__law_node := fu__law_node
  have F__law_node : Fz K mg "_law_node" s__law_node P__law_node := ⟨_, _, funD_plain fu__law_node, He.glo_ok X G (saysB c 40 (b := bFa (.glo "_law_node"))), fu__law_node.bindsN fun _ _ _ _ _ _ us hl => match us, hl with | [_, _, _, _], _ => rfl⟩
  obtain ⟨fd__law_loud_node, fu__law_loud_node⟩ := Dq.funD (d := ⟨gA "_law_loud_node", "_law_loud_node", "_law_loud_node", s__law_loud_node, [], [], []⟩) rfl (saysD c 41 (d := ⟨gA "_law_loud_node", "_law_loud_node", "_law_loud_node", s__law_loud_node, [], [], []⟩)).1 (saysD c 41 (d := ⟨gA "_law_loud_node", "_law_loud_node", "_law_loud_node", s__law_loud_node, [], [], []⟩)).2
  have fu__law_loud_node : FunD K "_law_loud_node" "_law_loud_node" (defArgs s__law_loud_node) (defBody s__law_loud_node) (defScope s__law_loud_node) [] [] (gA "_law_loud_node" K) fd__law_loud_node := fu__law_loud_node
  have F__law_loud_node : Fz K mg "_law_loud_node" s__law_loud_node P__law_loud_node := ⟨_, _, funD_plain fu__law_loud_node, He.glo_ok X G (saysB c 41 (b := bFa (.glo "_law_loud_node"))), fu__law_loud_node.bindsN fun _ _ _ _ _ _ us hl => match us, hl with | [_, _], _ => rfl⟩
  obtain ⟨fd__law_quiet, fu__law_quiet⟩ := Dq.funD (d := ⟨gA "_law_quiet", "_law_quiet", "_law_quiet", s__law_quiet, [], [], []⟩) rfl (saysD c 42 (d := ⟨gA "_law_quiet", "_law_quiet", "_law_quiet", s__law_quiet, [], [], []⟩)).1 (saysD c 42 (d := ⟨gA "_law_quiet", "_law_quiet", "_law_quiet", s__law_quiet, [], [], []⟩)).2
  have fu__law_quiet : FunD K "_law_quiet" "_law_quiet" (defArgs s__law_quiet) (defBody s__law_quiet) (defScope s__law_quiet) [] [] (gA "_law_quiet" K) fd__law_quiet := fu__law_quiet
  have F__law_quiet : Fz K mg "_law_quiet" s__law_quiet P__law_quiet := ⟨_, _, funD_plain fu__law_quiet, He.glo_ok X G (saysB c 42 (b := bFa (.glo "_law_quiet"))), fu__law_quiet.bindsN fun _ _ _ _ _ _ us hl => match us, hl with | [_, _, _], _ => rfl⟩
  obtain ⟨fd__law_parts, fu__law_parts⟩ := Dq.funD (d := ⟨gA "_law_parts", "_law_parts", "_law_parts", s__law_parts, [], [], []⟩) rfl (saysD c 43 (d := ⟨gA "_law_parts", "_law_parts", "_law_parts", s__law_parts, [], [], []⟩)).1 (saysD c 43 (d := ⟨gA "_law_parts", "_law_parts", "_law_parts", s__law_parts, [], [], []⟩)).2
  have fu__law_parts : FunD K "_law_parts" "_law_parts" (defArgs s__law_parts) (defBody s__law_parts) (defScope s__law_parts) [] [] (gA "_law_parts" K) fd__law_parts := fu__law_parts
  have F__law_parts : Fz K mg "_law_parts" s__law_parts P__law_parts := ⟨_, _, funD_plain fu__law_parts, He.glo_ok X G (saysB c 43 (b := bFa (.glo "_law_parts"))), fu__law_parts.bindsN fun _ _ _ _ _ _ us hl => match us, hl with | [_, _], _ => rfl⟩
  obtain ⟨fd__law_around, fu__law_around⟩ := Dq.funD (d := ⟨gA "_law_around", "_law_around", "_law_around", s__law_around, [], [], []⟩) rfl (saysD c 44 (d := ⟨gA "_law_around", "_law_around", "_law_around", s__law_around, [], [], []⟩)).1 (saysD c 44 (d := ⟨gA "_law_around", "_law_around", "_law_around", s__law_around, [], [], []⟩)).2
  have fu__law_around : FunD K "_law_around" "_law_around" (defArgs s__law_around) (defBody s__law_around) (defScope s__law_around) [] [] (gA "_law_around" K) fd__law_around := fu__law_around
  have F__law_around : Fz K mg "_law_around" s__law_around P__law_around := ⟨_, _, funD_plain fu__law_around, He.glo_ok X G (saysB c 44 (b := bFa (.glo "_law_around"))), fu__law_around.bindsN fun _ _ _ _ _ _ us hl => match us, hl with | [_, _, _], _ => rfl⟩
  obtain ⟨fd__law_right, fu__law_right⟩ := Dq.funD (d := ⟨gA "_law_right", "_law_right", "_law_right", s__law_right, [], [], []⟩) rfl (saysD c 45 (d := ⟨gA "_law_right", "_law_right", "_law_right", s__law_right, [], [], []⟩)).1 (saysD c 45 (d := ⟨gA "_law_right", "_law_right", "_law_right", s__law_right, [], [], []⟩)).2
  have fu__law_right : FunD K "_law_right" "_law_right" (defArgs s__law_right) (defBody s__law_right) (defScope s__law_right) [] [] (gA "_law_right" K) fd__law_right := fu__law_right
  have F__law_right : Fz K mg "_law_right" s__law_right P__law_right := ⟨_, _, funD_plain fu__law_right, He.glo_ok X G (saysB c 45 (b := bFa (.glo "_law_right"))), fu__law_right.bindsN fun _ _ _ _ _ _ us hl => match us, hl with | [_, _, _, _, _], _ => rfl⟩
  obtain ⟨fd_law, fu_law⟩ := Dq.funD (d := ⟨gA "law", "law", "law", s_law, [], [], []⟩) rfl (saysD c 46 (d := ⟨gA "law", "law", "law", s_law, [], [], []⟩)).1 (saysD c 46 (d := ⟨gA "law", "law", "law", s_law, [], [], []⟩)).2
  have fu_law : FunD K "law" "law" (defArgs s_law) (defBody s_law) (defScope s_law) [] [] (gA "law" K) fd_law := fu_law
  have cn_FOUND := bCon_ok X G (saysB c 47 (b := bCon "FOUND" (.str "found")))
  have cn_LARGE := bCon_ok X G (saysB c 48 (b := bCon "LARGE" (.str "ABCDEFGHIJKLMNOPQRSTUVWXYZ")))
  have cn_LONGEST_WORD := bCon_ok X G (saysB c 49 (b := bCon "LONGEST_WORD" (.int 12)))
  have cn_MOST_PARTS := bCon_ok X G (saysB c 50 (b := bCon "MOST_PARTS" (.int 3)))
  have cn_MOST_PLACES := bCon_ok X G (saysB c 51 (b := bCon "MOST_PLACES" (.int 3)))
  have cn_MOST_SIGNS := bCon_ok X G (saysB c 52 (b := bCon "MOST_SIGNS" (.int 8)))
  have cn_MOST_WORDS := bCon_ok X G (saysB c 53 (b := bCon "MOST_WORDS" (.int 12)))
  have cn_NOTE := bCon_ok X G (saysB c 54 (b := bCon "NOTE" (.str ":")))
  have cn_SMALL := bCon_ok X G (saysB c 55 (b := bCon "SMALL" (.str "abcdefghijklmnopqrstuvwxyz")))
  have cn_TOLD := bCon_ok X G (saysB c 56 (b := bCon "TOLD" (.str "told")))
  have bn_all : mg "all" = none := He.free_ok X G (saysB c 57 (b := bFa (.free "all")))
  have bn_any : mg "any" = none := He.free_ok X G (saysB c 58 (b := bFa (.free "any")))
  have bn_bool : mg "bool" = none := He.free_ok X G (saysB c 59 (b := bFa (.free "bool")))
  have bn_dict : mg "dict" = none := He.free_ok X G (saysB c 60 (b := bFa (.free "dict")))
  have bn_int : mg "int" = none := He.free_ok X G (saysB c 61 (b := bFa (.free "int")))
  have bn_isinstance : mg "isinstance" = none := He.free_ok X G (saysB c 62 (b := bFa (.free "isinstance")))
  have bn_len : mg "len" = none := He.free_ok X G (saysB c 63 (b := bFa (.free "len")))
  have bn_list : mg "list" = none := He.free_ok X G (saysB c 64 (b := bFa (.free "list")))
  have bn_min : mg "min" = none := He.free_ok X G (saysB c 65 (b := bFa (.free "min")))
  have bn_range : mg "range" = none := He.free_ok X G (saysB c 66 (b := bFa (.free "range")))
  have bn_sorted : mg "sorted" = none := He.free_ok X G (saysB c 67 (b := bFa (.free "sorted")))
  have bn_str : mg "str" = none := He.free_ok X G (saysB c 68 (b := bFa (.free "str")))
  have bn_sum : mg "sum" = none := He.free_ok X G (saysB c 69 (b := bFa (.free "sum")))
  have bn_tuple : mg "tuple" = none := He.free_ok X G (saysB c 70 (b := bFa (.free "tuple")))
  have en_BadKind : ExcF K mg "BadKind" := excG X G (saysB c 71 (b := bFa (.glo "BadKind"))) (saysB c 72 (b := bFa (.exc "BadKind")))
  have en_BadRule : ExcF K mg "BadRule" := excG X G (saysB c 73 (b := bFa (.glo "BadRule"))) (saysB c 74 (b := bFa (.exc "BadRule")))
  have en_BadWay : ExcF K mg "BadWay" := excG X G (saysB c 75 (b := bFa (.glo "BadWay"))) (saysB c 76 (b := bFa (.exc "BadWay")))
  have en_BadProgram : ExcF K mg "BadProgram" := excG X G (saysB c 77 (b := bFa (.glo "BadProgram"))) (saysB c 78 (b := bFa (.exc "BadProgram")))
  have ce_NotesError : clsA mg "NotesError" = He.ga K "NotesError" := clsG X G (saysB c 79 (b := bFa (.glo "NotesError")))
  have gn_NotesError : mg "NotesError" = some (.ref (clsA mg "NotesError")) := clsG2 X G (saysB c 79 (b := bFa (.glo "NotesError")))
  have ce_BadKind : clsA mg "BadKind" = He.ga K "BadKind" := clsG X G (saysB c 71 (b := bFa (.glo "BadKind")))
  have gn_BadKind : mg "BadKind" = some (.ref (clsA mg "BadKind")) := clsG2 X G (saysB c 71 (b := bFa (.glo "BadKind")))
  have ce_BadRule : clsA mg "BadRule" = He.ga K "BadRule" := clsG X G (saysB c 73 (b := bFa (.glo "BadRule")))
  have gn_BadRule : mg "BadRule" = some (.ref (clsA mg "BadRule")) := clsG2 X G (saysB c 73 (b := bFa (.glo "BadRule")))
  have ce_BadWay : clsA mg "BadWay" = He.ga K "BadWay" := clsG X G (saysB c 75 (b := bFa (.glo "BadWay")))
  have gn_BadWay : mg "BadWay" = some (.ref (clsA mg "BadWay")) := clsG2 X G (saysB c 75 (b := bFa (.glo "BadWay")))
  have ce_BadProgram : clsA mg "BadProgram" = He.ga K "BadProgram" := clsG X G (saysB c 77 (b := bFa (.glo "BadProgram")))
  have gn_BadProgram : mg "BadProgram" = some (.ref (clsA mg "BadProgram")) := clsG2 X G (saysB c 77 (b := bFa (.glo "BadProgram")))
  have ce_UnknownSign : clsA mg "UnknownSign" = He.ga K "UnknownSign" := clsG X G (saysB c 80 (b := bFa (.glo "UnknownSign")))
  have gn_UnknownSign : mg "UnknownSign" = some (.ref (clsA mg "UnknownSign")) := clsG2 X G (saysB c 80 (b := bFa (.glo "UnknownSign")))
  have ce_NoWay : clsA mg "NoWay" = He.ga K "NoWay" := clsG X G (saysB c 81 (b := bFa (.glo "NoWay")))
  have gn_NoWay : mg "NoWay" = some (.ref (clsA mg "NoWay")) := clsG2 X G (saysB c 81 (b := bFa (.glo "NoWay")))
  have ce_Stock : clsA mg "Stock" = He.ga K "Stock" := clsG X G (saysB c 82 (b := bFa (.glo "Stock")))
  have gn_Stock : mg "Stock" = some (.ref (clsA mg "Stock")) := clsG2 X G (saysB c 82 (b := bFa (.glo "Stock")))
  have ce_Table : clsA mg "Table" = He.ga K "Table" := clsG X G (saysB c 83 (b := bFa (.glo "Table")))
  have gn_Table : mg "Table" = some (.ref (clsA mg "Table")) := clsG2 X G (saysB c 83 (b := bFa (.glo "Table")))
  have ce_Book : clsA mg "Book" = He.ga K "Book" := clsG X G (saysB c 84 (b := bFa (.glo "Book")))
  have gn_Book : mg "Book" = some (.ref (clsA mg "Book")) := clsG2 X G (saysB c 84 (b := bFa (.glo "Book")))
  have ru_UnknownSign : ∀ base, RaiseT l.prog w K mg base "UnknownSign" ["sign"] false := fun base => by
    have T := supG (P := l.prog) X G (saysB c 80 (b := bFa (.glo "UnknownSign"))) (saysB c 89 (b := bFa (.free "super"))) (saysB c 85 (b := bSup "UnknownSign")) (saysB c 86 (b := bSup2 "UnknownSign")) (by rw [hl]; decide +kernel)
    obtain ⟨oc, od, osl, kV, doc, pm, an, ct, cda, cc, lk, hcd, ⟨cl, cld, csl, hcell⟩, ccl, cdd, vs, ccs, x, t, hcode, hvs, hfile⟩ := Dq.supF (C := "UnknownSign") (st := s_UnknownSign_init) (q := "UnknownSign.__init__") (saysD c 47).1 (saysD c 47).2 (saysB c 87 (b := bInit "UnknownSign" PySem.Challenge.pw_kindnotes_k43_whole_quiet_signs.main.file))
    have mt := He.meth_ok (saysB c 88 (b := bFa (.meth "UnknownSign" "__init__")))
    exact mk_raise_UnknownSign (clsG2 X G (saysB c 80 (b := bFa (.glo "UnknownSign")))) T (by rw [ce_UnknownSign]; exact mt.at_) (beq_iff_eq.mp mt.fn) (by rw [ce_UnknownSign]; exact He.eqO_ok (saysB c 90 (b := bFind "UnknownSign" "sign" (some none)))) lk hcd hcode hvs (by rw [hl]; exact hfile) (by rw [ce_UnknownSign]; exact hcell)
  have ru_NoWay : ∀ base, RaiseT l.prog w K mg base "NoWay" ["sign"] false := fun base => by
    have T := supG (P := l.prog) X G (saysB c 81 (b := bFa (.glo "NoWay"))) (saysB c 89 (b := bFa (.free "super"))) (saysB c 91 (b := bSup "NoWay")) (saysB c 92 (b := bSup2 "NoWay")) (by rw [hl]; decide +kernel)
    obtain ⟨oc, od, osl, kV, doc, pm, an, ct, cda, cc, lk, hcd, ⟨cl, cld, csl, hcell⟩, ccl, cdd, vs, ccs, x, t, hcode, hvs, hfile⟩ := Dq.supF (C := "NoWay") (st := s_NoWay_init) (q := "NoWay.__init__") (saysD c 48).1 (saysD c 48).2 (saysB c 93 (b := bInit "NoWay" PySem.Challenge.pw_kindnotes_k43_whole_quiet_signs.main.file))
    have mt := He.meth_ok (saysB c 94 (b := bFa (.meth "NoWay" "__init__")))
    exact mk_raise_NoWay (clsG2 X G (saysB c 81 (b := bFa (.glo "NoWay")))) T (by rw [ce_NoWay]; exact mt.at_) (beq_iff_eq.mp mt.fn) (by rw [ce_NoWay]; exact He.eqO_ok (saysB c 95 (b := bFind "NoWay" "sign" (some none)))) lk hcd hcode hvs (by rw [hl]; exact hfile) (by rw [ce_NoWay]; exact hcell)
  have ko_Stock : Cls K (clsA mg "Stock") := by rw [ce_Stock]; exact He.cls_ok (saysB c 96 (b := bFa (.cls "Stock")))
  have fo_Stock_shapes : Fd K (clsA mg "Stock") "shapes" := ⟨ko_Stock, by rw [ce_Stock]; exact He.noat_ok (saysB c 97 (b := bFa (.noat "Stock" "shapes")))⟩
  have fo_Stock_above : Fd K (clsA mg "Stock") "above" := ⟨ko_Stock, by rw [ce_Stock]; exact He.noat_ok (saysB c 98 (b := bFa (.noat "Stock" "above")))⟩
  obtain ⟨fd_Stock___init__, fu_Stock___init__⟩ := Dq.funD (d := ⟨mA "Stock" "__init__", "__init__", "Stock.__init__", s_Stock___init__, [.non], [], []⟩) rfl (saysD c 49 (d := ⟨mA "Stock" "__init__", "__init__", "Stock.__init__", s_Stock___init__, [.non], [], []⟩)).1 (saysD c 49 (d := ⟨mA "Stock" "__init__", "__init__", "Stock.__init__", s_Stock___init__, [.non], [], []⟩)).2
  have fu_Stock___init__ : FunD K "__init__" "Stock.__init__" (defArgs s_Stock___init__) (defBody s_Stock___init__) (defScope s_Stock___init__) [.non] [] (mA "Stock" "__init__" K) fd_Stock___init__ := fu_Stock___init__
  have bb_Stock___init__2 := FunD.binds1 (ps := P_Stock___init__) fu_Stock___init__ 3 1 (by simp) rfl fun T kV doc pm an cdv ct us its hl hi => by
    match us, hl, its, hi with
    | [_, _, _], _, [_], _ => exact ⟨_, rfl, rfl⟩
  have Z_Stock2 : Kz K (clsA mg "Stock") "Stock.__init__" s_Stock___init__ P_Stock___init__ [] := by rw [ce_Stock]; exact ⟨_, _, _, ⟨_, _, fu_Stock___init__⟩, He.mkr_ok (saysB c 99 (b := bFa (.mkr "Stock"))), bb_Stock___init__2.choose_spec.2, bb_Stock___init__2.choose_spec.1⟩
  have ko_Table : Cls K (clsA mg "Table") := by rw [ce_Table]; exact He.cls_ok (saysB c 100 (b := bFa (.cls "Table")))
  have fo_Table_stock : Fd K (clsA mg "Table") "stock" := ⟨ko_Table, by rw [ce_Table]; exact He.noat_ok (saysB c 101 (b := bFa (.noat "Table" "stock")))⟩
  have fo_Table_rules : Fd K (clsA mg "Table") "rules" := ⟨ko_Table, by rw [ce_Table]; exact He.noat_ok (saysB c 102 (b := bFa (.noat "Table" "rules")))⟩
  have so_Table : PySem.W.noSeq K (clsA mg "Table") = true := by rw [ce_Table]; exact (saysB c 103 (b := bNoSeq "Table"))
  obtain ⟨fd_Table___init__, fu_Table___init__⟩ := Dq.funD (d := ⟨mA "Table" "__init__", "__init__", "Table.__init__", s_Table___init__, [], [], []⟩) rfl (saysD c 50 (d := ⟨mA "Table" "__init__", "__init__", "Table.__init__", s_Table___init__, [], [], []⟩)).1 (saysD c 50 (d := ⟨mA "Table" "__init__", "__init__", "Table.__init__", s_Table___init__, [], [], []⟩)).2
  have fu_Table___init__ : FunD K "__init__" "Table.__init__" (defArgs s_Table___init__) (defBody s_Table___init__) (defScope s_Table___init__) [] [] (mA "Table" "__init__" K) fd_Table___init__ := fu_Table___init__
  have Z_Table1 : Kz K (clsA mg "Table") "Table.__init__" s_Table___init__ P_Table___init__ [] := by rw [ce_Table]; exact ⟨_, _, _, ⟨_, _, fu_Table___init__⟩, He.mkr_ok (saysB c 104 (b := bFa (.mkr "Table"))), (fu_Table___init__.bindsN fun _ _ _ _ _ _ us hl => match us, hl with | [_, _], _ => rfl), .nil⟩
  obtain ⟨fd_Table___setitem__, fu_Table___setitem__⟩ := Dq.funD (d := ⟨mA "Table" "__setitem__", "__setitem__", "Table.__setitem__", s_Table___setitem__, [], [], []⟩) rfl (saysD c 51 (d := ⟨mA "Table" "__setitem__", "__setitem__", "Table.__setitem__", s_Table___setitem__, [], [], []⟩)).1 (saysD c 51 (d := ⟨mA "Table" "__setitem__", "__setitem__", "Table.__setitem__", s_Table___setitem__, [], [], []⟩)).2
  have fu_Table___setitem__ : FunD K "__setitem__" "Table.__setitem__" (defArgs s_Table___setitem__) (defBody s_Table___setitem__) (defScope s_Table___setitem__) [] [] (mA "Table" "__setitem__" K) fd_Table___setitem__ := fu_Table___setitem__
  have Z_Table___setitem__ : Mz K (clsA mg "Table") "__setitem__" "Table.__setitem__" s_Table___setitem__ P_Table___setitem__ [] := by rw [ce_Table]; exact ⟨_, _, _, ⟨_, _, fu_Table___setitem__⟩, He.meth_ok (saysB c 105 (b := bFa (.meth "Table" "__setitem__"))), fu_Table___setitem__.bindsN fun _ _ _ _ _ _ us hl => match us, hl with | [_, _, _], _ => rfl, .nil⟩
  have ko_Book : Cls K (clsA mg "Book") := by rw [ce_Book]; exact He.cls_ok (saysB c 106 (b := bFa (.cls "Book")))
  have fo_Book_table : Fd K (clsA mg "Book") "table" := ⟨ko_Book, by rw [ce_Book]; exact He.noat_ok (saysB c 107 (b := bFa (.noat "Book" "table")))⟩
  have fo_Book_ways : Fd K (clsA mg "Book") "ways" := ⟨ko_Book, by rw [ce_Book]; exact He.noat_ok (saysB c 108 (b := bFa (.noat "Book" "ways")))⟩
  have so_Book : PySem.W.noSeq K (clsA mg "Book") = true := by rw [ce_Book]; exact (saysB c 109 (b := bNoSeq "Book"))
  obtain ⟨fd_Book___init__, fu_Book___init__⟩ := Dq.funD (d := ⟨mA "Book" "__init__", "__init__", "Book.__init__", s_Book___init__, [], [], []⟩) rfl (saysD c 52 (d := ⟨mA "Book" "__init__", "__init__", "Book.__init__", s_Book___init__, [], [], []⟩)).1 (saysD c 52 (d := ⟨mA "Book" "__init__", "__init__", "Book.__init__", s_Book___init__, [], [], []⟩)).2
  have fu_Book___init__ : FunD K "__init__" "Book.__init__" (defArgs s_Book___init__) (defBody s_Book___init__) (defScope s_Book___init__) [] [] (mA "Book" "__init__" K) fd_Book___init__ := fu_Book___init__
  have Z_Book1 : Kz K (clsA mg "Book") "Book.__init__" s_Book___init__ P_Book___init__ [] := by rw [ce_Book]; exact ⟨_, _, _, ⟨_, _, fu_Book___init__⟩, He.mkr_ok (saysB c 110 (b := bFa (.mkr "Book"))), (fu_Book___init__.bindsN fun _ _ _ _ _ _ us hl => match us, hl with | [_, _], _ => rfl), .nil⟩
  obtain ⟨fd_Book___getitem__, fu_Book___getitem__⟩ := Dq.funD (d := ⟨mA "Book" "__getitem__", "__getitem__", "Book.__getitem__", s_Book___getitem__, [], [], []⟩) rfl (saysD c 53 (d := ⟨mA "Book" "__getitem__", "__getitem__", "Book.__getitem__", s_Book___getitem__, [], [], []⟩)).1 (saysD c 53 (d := ⟨mA "Book" "__getitem__", "__getitem__", "Book.__getitem__", s_Book___getitem__, [], [], []⟩)).2
  have fu_Book___getitem__ : FunD K "__getitem__" "Book.__getitem__" (defArgs s_Book___getitem__) (defBody s_Book___getitem__) (defScope s_Book___getitem__) [] [] (mA "Book" "__getitem__" K) fd_Book___getitem__ := fu_Book___getitem__
  have Z_Book___getitem__ : Mz K (clsA mg "Book") "__getitem__" "Book.__getitem__" s_Book___getitem__ P_Book___getitem__ [] := by rw [ce_Book]; exact ⟨_, _, _, ⟨_, _, fu_Book___getitem__⟩, He.meth_ok (saysB c 111 (b := bFa (.meth "Book" "__getitem__"))), fu_Book___getitem__.bindsN fun _ _ _ _ _ _ us hl => match us, hl with | [_, _], _ => rfl, .nil⟩
  obtain ⟨fd_Book___setitem__, fu_Book___setitem__⟩ := Dq.funD (d := ⟨mA "Book" "__setitem__", "__setitem__", "Book.__setitem__", s_Book___setitem__, [], [], []⟩) rfl (saysD c 54 (d := ⟨mA "Book" "__setitem__", "__setitem__", "Book.__setitem__", s_Book___setitem__, [], [], []⟩)).1 (saysD c 54 (d := ⟨mA "Book" "__setitem__", "__setitem__", "Book.__setitem__", s_Book___setitem__, [], [], []⟩)).2
  have fu_Book___setitem__ : FunD K "__setitem__" "Book.__setitem__" (defArgs s_Book___setitem__) (defBody s_Book___setitem__) (defScope s_Book___setitem__) [] [] (mA "Book" "__setitem__" K) fd_Book___setitem__ := fu_Book___setitem__
  have Z_Book___setitem__ : Mz K (clsA mg "Book") "__setitem__" "Book.__setitem__" s_Book___setitem__ P_Book___setitem__ [] := by rw [ce_Book]; exact ⟨_, _, _, ⟨_, _, fu_Book___setitem__⟩, He.meth_ok (saysB c 112 (b := bFa (.meth "Book" "__setitem__"))), fu_Book___setitem__.bindsN fun _ _ _ _ _ _ us hl => match us, hl with | [_, _, _], _ => rfl, .nil⟩
  obtain ⟨fd_Book_need, fu_Book_need⟩ := Dq.funD (d := ⟨mA "Book" "need", "need", "Book.need", s_Book_need, [], [("told", .bl false)], []⟩) rfl (saysD c 55 (d := ⟨mA "Book" "need", "need", "Book.need", s_Book_need, [], [("told", .bl false)], []⟩)).1 (saysD c 55 (d := ⟨mA "Book" "need", "need", "Book.need", s_Book_need, [], [("told", .bl false)], []⟩)).2
  have fu_Book_need : FunD K "need" "Book.need" (defArgs s_Book_need) (defBody s_Book_need) (defScope s_Book_need) [] [("told", .bl false)] (mA "Book" "need" K) fd_Book_need := fu_Book_need
  have bb_Book_need := FunD.binds0 (ps := P_Book_need) fu_Book_need 2 (by simp) rfl fun D doc pm an cdv ct us ks h1 h2 => by
    match us, h1, ks, h2 with
    | [_, _], _, [_], _ => exact ⟨_, _, _, _, _, _, rfl, rfl, rfl⟩
  have Z_Book_need : Mz K (clsA mg "Book") "need" "Book.need" s_Book_need P_Book_need [.bl false] := by rw [ce_Book]; exact ⟨_, _, _, ⟨_, _, fu_Book_need⟩, He.meth_ok (saysB c 113 (b := bFa (.meth "Book" "need"))), bb_Book_need.choose_spec.2, bb_Book_need.choose_spec.1⟩
  have ZK_Book_need : MzK K (clsA mg "Book") "need" "Book.need" s_Book_need P_Book_need 2 ["told"] := by
    rw [ce_Book]
    refine ⟨_, _, ⟨_, _, fu_Book_need⟩, He.meth_ok (saysB c 113 (b := bFa (.meth "Book" "need"))), ?_⟩
    obtain ⟨oc, od, dV, kV, doc, pm, an, cdv, ct, osl, rfl, lk, hcd, hD, hK⟩ := fu_Book_need.ex
    rcases hD with ⟨_, rfl⟩ | ⟨e, _⟩
    · exact ⟨fun s us ws XXH h1 h2 => by
        match us, h1, ws, h2 with
        | [_, _], _, [_], _ => exact .of_eq rfl, fun r1 r2 => r1.append r2⟩
    · exact absurd rfl e
  have e := hfa.symm.trans (He.glo_ok X G (saysB c 46 (b := bFa (.glo "law"))))
  cases e
  have FL : Fun K "law" "law" s_law (gA "law" K) fd_law := funD_plain fu_law
  have T := (⟨bn_all, bn_any, bn_bool, bn_dict, bn_int, bn_isinstance, bn_len, bn_list, bn_min, bn_range, bn_sorted, bn_str, bn_sum, bn_tuple, cn_FOUND, cn_LARGE, cn_LONGEST_WORD, cn_MOST_PARTS, cn_MOST_PLACES, cn_MOST_SIGNS, cn_MOST_WORDS, cn_NOTE, cn_SMALL, cn_TOLD, en_BadKind, en_BadRule, en_BadWay, en_BadProgram, gn_NotesError, gn_BadKind, gn_BadRule, gn_BadWay, gn_BadProgram, gn_UnknownSign, gn_NoWay, gn_Stock, gn_Table, gn_Book, ko_Stock, fo_Stock_shapes, fo_Stock_above, ko_Table, fo_Table_stock, fo_Table_rules, so_Table, ko_Book, fo_Book_table, fo_Book_ways, so_Book⟩ : Txt K mg)
  refine ⟨fd_law, fun s v => FunD.bindsA (ps := ["_law_script"]) fu_law (fun _ _ _ _ _ _ us hl => match us, hl with | [_], _ => rfl) s [v] rfl, fun base _ _ => ?_⟩
  exact (have R := ru_UnknownSign base
    have RN := ru_NoWay base
    have G1 := okD__law_take (P := l.prog) (w := w) (base := base) F__law_take T
    have G2 := ok__law_cell (P := l.prog) (w := w) (base := base) F__law_cell T
    have G3 := okD__law_tape F__law_tape T G2
    have G4 := ok__law_words F__law_words T G1
    have G5 := ok__law_stock F__law_stock T G1 G4
    have G6 := ok__law_form F__law_form T G1 0
    have G7 := ok__law_rule F__law_rule T G1 0 G6
    have I1 := ok_is_word (P := l.prog) (w := w) (base := base) F_is_word T
    have I2 := ok_is_letter (P := l.prog) (w := w) (base := base) F_is_letter T
    have I3 := ok_is_form F_is_form T I1 I2 6
    have I4 := ok_fits_shapes F_fits_shapes T I2 6
    have I5 := ok_sound_shapes F_sound_shapes T I1
    have I6 := ok_leads_back (P := l.prog) (w := w) (base := base) F_leads_back T
    have I7 := ok_sound_order F_sound_order T I6
    have I8 := ok_rule_fits F_rule_fits T I4
    have H8 := ok_has_letters F_has_letters T I2 6
    have I9 := ok_is_kind F_is_kind T I3 H8 I4
    have J1 := ok_are_integers (P := l.prog) (w := w) (base := base) F_are_integers T
    have J2 := ok_are_steps F_are_steps T J1
    have J3 := ok_ascending (P := l.prog) (w := w) (base := base) F_ascending T
    have J4 := ok_is_way F_is_way T J3
    have J5 := ok_way_fits F_way_fits T J1 J2 J3 J4
    have N1 := ok_is_noted (P := l.prog) (w := w) (base := base) F_is_noted T
    have N2 := ok_check_node F_check_node T R I1 I9
    have N3 := ok_check_part F_check_part T I1 N1 I9 N2 12
    have N4 := ok_check_ways F_check_ways T RN N1 12
    have N5 := ok_node_need (P := l.prog) (w := w) (base := base) F_node_need T
    have N6 := ok_part_needs F_part_needs T N1 N5 12
    have C2 := ok_mkStock2 Z_Stock2 T I5 I7
    have C3 := ok_tbNew (P := l.prog) (w := w) (base := base) Z_Table1 T
    have C5 := ok_tbSet Z_Table___setitem__ T I1 I8
    have B1 := ok_bkNew (P := l.prog) (w := w) (base := base) Z_Book1 T
    have B2 := ok_bkGetV Z_Book___getitem__ T R
    have B3 := ok_bkSet Z_Book___setitem__ T R J5
    have B5 := ok_bkNeed T 12 N3 N4 N6 Z_Book_need
    have B6 := ok_bkNeedK T 12 N3 N4 N6 ZK_Book_need
    have L1 := ok__law_way F__law_way T G1
    have L2 := ok__law_table F__law_table T C2 C3 C5
    have L3 := ok__law_partR F__law_part T G1 3
    have M1 := ok_rows_of (P := l.prog) (w := w) (base := base) F_rows_of T
    have M2 := ok__law_rows (P := l.prog) (w := w) (base := base) F__law_rows T
    have M3 := ok__law_adds (P := l.prog) (w := w) (base := base) F__law_adds T
    have M4 := ok__law_differences F__law_differences T M2 M3
    have M5 := ok__law_node (P := l.prog) (w := w) (base := base) F__law_node T
    have M6 := ok__law_loud_node F__law_loud_node T M4 M5
    have M7 := ok_node_needT (P := l.prog) (w := w) (base := base) F_node_need T
    have M8 := ok_own_need F_own_need T M7
    have M9 := ok_node_differences F_node_differences T M1 M8 B2
    have S1 := ok_check_all_ways F_check_all_ways T RN
    have S2 := ok_quiet_signs F_quiet_signs T S1 M9
    have S3 := ok__law_quiet F__law_quiet T M6 M4 M5 B5 B6
    have S4 := ok__law_parts (P := l.prog) (w := w) (base := base) F__law_parts T 6 (by decide)
    have S5 := ok__law_around (P := l.prog) (w := w) (base := base) F__law_around T 6
    have S6 := ok__law_right43 F__law_right T S2 S3 S4 S5 B5 B6
    have S7 := ok__law_book43 F__law_book T B1 B3
    ok_law FL T G3 G1 G4 G5 G7 L1 L2 L3 S7 S6 B3)
end Kn
set_option synthInstance.maxHeartbeats 0
set_option synthInstance.maxSize 100000
set_option Elab.async false
set_option maxRecDepth 100000
set_option linter.all false
open PySem PySem.W PyProof.Rows
set_option maxRecDepth 100000 in
set_option maxHeartbeats 0 in
theorem PySem.Challenge.cw_kindnotes_k43_whole_quiet_signs_holds : PySem.Challenge.rw_kindnotes_k43_whole_quiet_signs.Holds := by
  refine Kn.headA ?hc
  case hc =>
    refine L2.walk_ofE (l := PySem.Challenge.rw_kindnotes_k43_whole_quiet_signs) (n := 63) (k := 27) (x := "_law_script") (CX := L2.CX0) rfl (by decide) (by kernel_rfl) ⟨rfl, by decide, by decide⟩ ?F (fun _ _ _ _ z => z)
    intro w mg fa h Y G hmg0
    obtain ⟨K, KX, c⟩ := Y
    have hmg : mg ("law" : PySem.Str) = some (.ref fa) := by
      have e : (HandSHeadRun.topDef (OpenLaw.row PySem.Challenge.rw_kindnotes_k43_whole_quiet_signs).prog 82).name = ("law" : PySem.Str) := by kernel_rfl
      rw [← e]
      exact hmg0
    obtain ⟨fd, hb, hF⟩ := Kn.facts (l := PySem.Challenge.rw_kindnotes_k43_whole_quiet_signs) rfl (w := w) KX G hmg c
    exact ⟨K, fd, Kn.spLaw K, KX, hb, fun H a ns hl _ hS => ⟨a, ns, rfl, hS, hl, fun _ => rfl⟩, hF⟩
#print axioms PySem.Challenge.cw_kindnotes_k43_whole_quiet_signs_holds


