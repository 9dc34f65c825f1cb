import PyProof.Rows.All
import Wide.All
import OpenK.AllK
import Wide.FinOn
import HandS.HeadHook1
import HandS.HeadHook2
import HandS.HeadHook3
import HandS.HeadHook4
import HandS.Words
import HandS.ForMost
import HandS.ForExc
import HandS.IsInst
import HandS.TupAny
import HandS.TupLe
import HandS.Deep
import HandS.TupMul
import HandS.Style
import HandS.Text
import KE.KRevSl
import PyProof.SliceStr2
import HandS.Flow
import HandS.CallSlots
import HandS.Rev
import HandS.Iter
import HandS.TryMany
import HandS.ExcOwn
import HandS.ExcInit
import HandS.ExcField
import HandS.ClsMeth
import KE.KExcIs
import HandS.Defaults
import HandS.Set
import HandS.SetFor
import HandS.TupSets
import PyProof.Rows.SortShellAny
import HandS.SortOrd
import HandS.SortRule
import HandS.SortKw
import KE.KSortTup
import HandS.HotCalls
import KE.KCallOwn
import KE.KSortKey
import PyProof.Rows.SortStr
import PyProof.Rows.SortRunsAny
import HandS.MakeKw
import HandS.WordsExc
import HandS.HeadEnd
import KE.KStateDown
import Lean
import HandS.Head0
import HandS.Head1
import HandS.Head2
import PySem.Challenge.RW_copyhands_k28_whole_two_books
set_option Elab.async false
set_option linter.all false
set_option maxRecDepth 100000
/-! HD: what the head's run is asked (definitions alone; they stand ahead of everything, so that a law's run is reckoned first). -/
namespace CH
open PySem L2
/-- the field of each class that has one -/
def fldOf : Nat → Option Str
  | 3 => some "way"
  | 5 => some "name"
  | _ => none
def subc (c d : Nat) : Bool := c == d || d == 0
/-- one def of the text -/
structure Entry where
  x : Str
  id : Nat
  ps : List Str
  N : List Str
  dfl : List PyData
  st : Stmt
  kw : Option (Nat × Str)
  /-- a method: its class, its qualified name -/
  of_ : Option (Str × Str)
  /-- the fields that an __init__ sets -/
  flds : List Str
  /-- names that hold list objects -/
  ol : List Str
  /-- the def's own name -/
  nm : Str
  /-- names that hold instances -/
  oi : List (Str × Str)
def Entry.qn (e : Entry) : Str := match e.of_ with
  | none => e.nm
  | some (_, q) => q
def toDv : PyData → He.Dv
  | .none => .non
  | .bool b => .bl b
  | .int i => .int i
  | .str x => .str x
  | _ => .non
def ddOf (e : Entry) : He.DefD := ⟨(match e.of_ with | none => (e.x, none) | some (c, _) => (c, some e.x)), e.nm, e.qn, defArgs e.st, defBody e.st, defScope e.st, e.dfl.map toDv, []⟩
def faE (e : Entry) : List He.Fa := match e.of_ with
  | none => [.glo e.x]
  | some (c, _) => [.glo c, .cls c, .meth c e.x] ++ ((if e.x = "__init__" then [.mkr c] else []) ++ e.flds.map (.noat c))
def faOf (es : List Entry) (fr : List Str) : List He.Fa := es.flatMap faE ++ fr.map He.Fa.free
/-- a constant of the module as it stands in the written part -/
def drB (K : PySem.W.Frag) : Nat → Value → PyData → Bool
  | 0, _, _ => false
  | n + 1, u, d => match u, d with
    | .none, .none => true
    | .bool b, .bool c => decide (b = c)
    | .int i _, .int j => decide (i = j)
    | .str x _, .str y => decide (x = y) && PyData.strOk y
    | .ref a, .tuple ds => (match K.lookup a with
      | some ⟨.type c, _, .seq its _, _⟩ => decide (c = "tuple") && (decide (its.size ≤ sizeLine) && (decide (its.toList.length = ds.length) && (its.toList.zip ds).all fun p => drB K n p.1 p.2))
      | _ => false)
    | _, _ => false
def gcB (gc : List (Str × PyData)) (K : PySem.W.Frag) : Bool := gc.all fun p => match PySem.W.nsIn K mainGlobals p.1 with
  | some (some u) => drB K 12 u p.2
  | _ => false
/-- a class with a field and its own __init__: its name, number, the qualified name, the field, the def -/
structure Ini where
  x : Str
  n : Nat
  q : Str
  f : Str
  st : Stmt
/-- the first def of a class's body -/
def clsDef : Stmt → Stmt
  | .ClassDef _ _ _ body _ _ _ _ _ _ _ => (body.find? fun s => match s with
    | .FunctionDef _ _ _ _ _ _ _ _ _ _ => true
    | _ => false).getD (.Pass ⟨0, 0, 0, 0⟩)
  | s => s
/-- a def of a class's body, by its name -/
def clsMet : Stmt → Str → Stmt
  | .ClassDef _ _ _ body _ _ _ _ _ _ _, m => (body.find? fun s => match s with
    | .FunctionDef n _ _ _ _ _ _ _ _ _ => decide (n = m)
    | _ => false).getD (.Pass ⟨0, 0, 0, 0⟩)
  | s, _ => s
def ddI (i : Ini) : He.DefD := ⟨(i.x, some "__init__"), "__init__", i.q, defArgs i.st, defBody i.st, defScope i.st, [], []⟩
def eqB {α : Type} [DecidableEq α] (a b : α) : Bool := decide (a = b)
theorem eqB_ok {α : Type} [DecidableEq α] {a b : α} (h : eqB a b = true) : a = b := of_decide_eq_true h
def exkB (K : PySem.W.Frag) (C : Addr) : Bool := PySem.W.keepIn K (.ref C) && (eqB (PySem.W.subIn K (.ref C) (.type "BaseException")) (some true) && (eqB (PySem.W.typeIn K (.ref C)) (some (.type "type")) && ((PySem.W.clsIn K C).isSome && (PySem.W.hasDictIn K C &&
  (He.eqO (PySem.W.findIn K (.ref C) "__getattribute__") (some (some (.builtin "BaseException.__getattribute__"))) && (He.eqO (PySem.W.findIn K (.ref C) "__getattr__") (some none) && (He.eqO (PySem.W.findIn K (.ref C) "__class__") (some (some (.builtin "object.__class__"))) && eqB (PySem.W.mroIn K C (.type "object")) (some true))))))))
def oexB (K : PySem.W.Frag) (C : Addr) (f : Str) : Bool := (match K.lookup C with
  | some ⟨.type t, _, .cls cd, sl⟩ => decide (t = "type") && (match cd.mro, sl.toList with
    | .ref C' :: bm, [_, _, _, _, some (.builtin n), _] => decide (C' = C) && (decide (n = "ValueError.__new__") && (!cd.hasDel && (cd.hasDict && PySem.HandSPX.refsVE bm)))
    | _, _ => false)
  | _ => false) && (He.eqO (PySem.W.findIn K (.ref C) "__setattr__") (some (some (.builtin "object.__setattr__"))) && He.eqO (PySem.W.findIn K (.ref C) f) (some none))
/-- CopyError.__init__ is ValueError's -/
def baseB (K : PySem.W.Frag) (B : Addr) : Bool := PySem.W.readsIn K B (.type "type") && (He.eqO (PySem.W.specialIn K (.ref B) "__getattribute__") (some (some (.builtin "type.__getattribute__"))) && (match PySem.W.findCls K (.ref B) (.type "type") "__init__" with
  | some (.val v) => decide (v = .builtin "ValueError.__init__")
  | _ => false))
def clsB (cl : List (Str × Nat)) (ins : List Ini) (K : PySem.W.Frag) : Bool :=
  (cl.all fun q => (He.Fa.glo q.1).ok K && (exkB K (He.ga K q.1) && ((match fldOf q.2 with
    | none => PySem.W.excIn K (He.ga K q.1) He.veBase "ValueError.__new__"
    | some f => oexB K (He.ga K q.1) f) && (eqB (PySem.W.kitOne K (.ref (He.ga K q.1)) (.type "ValueError")) (some true) &&
      cl.all fun r => eqB (PySem.W.exmOne K (.ref (He.ga K q.1)) (.ref (He.ga K r.1))) (some (subc q.2 r.2)) && eqB (PySem.W.kitOne K (.ref (He.ga K q.1)) (.ref (He.ga K r.1))) (some (subc q.2 r.2)))))) &&
  ((ins.all fun i => (He.Fa.meth i.x "__init__").ok K && ((He.Fa.glo "CopyError").ok K && baseB K (He.ga K "CopyError"))) &&
  (He.eqO (PySem.W.specialIn K (.builtin "object.__class__") "__get__") (some (some (.builtin "getset_descriptor.__get__"))) && eqB (PySem.W.takesIn K (.builtin "object.__class__")) (some true)))
/-- a class of which isinstance may be asked -/
def isoB (K : PySem.W.Frag) (C : Addr) : Bool := (PySem.W.clsIn K C).isSome && (eqB (PySem.W.typeIn K (.ref C)) (some (.type "type")) && (He.eqO (PySem.W.findIn K (.ref C) "__class__") (some (some (.builtin "object.__class__"))) && eqB (PySem.W.mroIn K C (.type "object")) (some true)))
def isoE (e : Entry) (K : PySem.W.Frag) : Bool := match e.of_ with
  | none => true
  | some (c, _) => if e.x = "__init__" then isoB K (He.ga K c) else true
def exB (gc : List (Str × PyData)) (cl : List (Str × Nat)) (ins : List Ini) (es : List Entry) (K : PySem.W.Frag) : Bool := (gcB gc K && clsB cl ins K) && es.all (fun e => isoE e K)
/-- the hook: what the names reach in n steps and the table of the interpreter's own statics -/
def hkObs (n : Nat) (fa : List He.Fa) (fn : List He.DefD) (ex : PySem.W.Frag → Bool) (g : Addr → Option Obj) : He.AlD × Bool :=
  let K := He.frG g (He.asD g n ++ [cStatics])
  (He.obsD fa fn K, ex K)
def hkY (n : Nat) (fa : List He.Fa) (fn : List He.DefD) (ex : PySem.W.Frag → Bool) : PySem.W.Hook where
  α := He.AlD × Bool
  obs := fun s => hkObs n fa fn ex s.heap.get?
  val := fun _ => (He.valD fn, true)
  says := fun _ h => ∃ K : PySem.W.Frag, K.In h ∧ He.SaysD fa fn K ∧ ex K = true
  of := fun _ _ e => ⟨_, He.frG_in, congrArg Prod.fst e, congrArg Prod.snd e⟩
  keeps := fun _ _ _ ⟨K, hK, c⟩ k => ⟨K, PySem.W.Frag.In.keeps hK k, c⟩
theorem hkObs_eq {n : Nat} {fa : List He.Fa} {fn : List He.DefD} {ex : PySem.W.Frag → Bool} {g : Addr → Option Obj} {s : Shared} (h : ∀ a, g a = s.heap.get? a) : hkObs n fa fn ex g = (hkY n fa fn ex).obs s := by
  have e : g = s.heap.get? := funext h
  rw [e]
  rfl
end CH

set_option maxHeartbeats 0
namespace CH.Law
open PySem PySem.Spec PyProof.Rows L2 CH
def top (i : Nat) : Stmt := PySem.Challenge.pw_copyhands_k28_whole_two_books.main.body.getD i (.Pass ⟨0, 0, 0, 0⟩)
def e_is_within : Entry := ⟨"is_within", 14, ["thing", "low", "high"], ["thing", "low", "high"], [], top 12, none, none, [], [], "is_within", []⟩
def e_is_name : Entry := ⟨"is_name", 0, ["thing"], ["thing", "sign"], [], top 13, none, none, [], [], "is_name", []⟩
def e_is_leaf : Entry := ⟨"is_leaf", 1, ["thing"], ["thing"], [], top 14, none, none, [], [], "is_leaf", []⟩
def e_left_of : Entry := ⟨"left_of", 2, ["thing", "left"], ["thing", "left"], [], top 15, none, none, [], [], "left_of", []⟩
def e_is_term : Entry := ⟨"is_term", 3, ["thing"], ["thing"], [], top 16, none, none, [], [], "is_term", []⟩
def e_checked : Entry := ⟨"checked", 4, ["term"], ["term"], [], top 17, none, none, [], [], "checked", []⟩
def e_looked : Entry := ⟨"looked", 15, ["term"], ["term"], [], top 18, none, none, [], [], "looked", []⟩
def e_leaves : Entry := ⟨"leaves", 5, ["term"], ["term"], [], top 19, none, none, [], [], "leaves", []⟩
def e_deed_of : Entry := ⟨"deed_of", 16, ["term"], ["term"], [], top 22, none, none, [], [], "deed_of", []⟩
def e_done : Entry := ⟨"done", 17, ["term"], ["term", "first", "then", "shared"], [], top 23, none, none, [], [], "done", []⟩
def e_ways_of : Entry := ⟨"ways_of", 18, ["term"], ["term", "found", "way"], [], top 24, none, none, [], [], "ways_of", []⟩
def e_part_at : Entry := ⟨"part_at", 20, ["term", "way"], ["term", "way", "side"], [], top 25, none, none, [], [], "part_at", []⟩
def e_with_part : Entry := ⟨"with_part", 21, ["term", "way", "other"], ["term", "way", "other"], [], top 26, none, none, [], [], "with_part", []⟩
def e_look_way : Entry := ⟨"look_way", 22, ["term", "way"], ["term", "way", "found"], [], top 27, none, none, [], [], "look_way", []⟩
def e_step_to : Entry := ⟨"step_to", 23, ["term", "way"], ["term", "way"], [], top 28, none, none, [], [], "step_to", []⟩
def e_played : Entry := ⟨"played", 35, ["term", "most"], ["term", "most", "row", "some"], [.int (50)], top 29, some (1, "most"), none, [], [], "played", []⟩
def e_first_of : Entry := ⟨"first_of", 79, ["line"], ["line"], [], top 31, none, none, [], [], "first_of", []⟩
def e__law_cell : Entry := ⟨"_law_cell", 200, ["script", "k"], ["script", "k"], [], top 34, none, none, [], [], "_law_cell", []⟩
def e__law_whole : Entry := ⟨"_law_whole", 233, ["found"], ["found"], [], top 35, none, none, [], [], "_law_whole", []⟩
def e__law_row : Entry := ⟨"_law_row", 201, ["script", "at"], ["script", "at", "cell", "found", "time"], [], top 36, none, none, [], [], "_law_row", []⟩
def e__law_name : Entry := ⟨"_law_name", 202, ["number"], ["number"], [], top 37, none, none, [], [], "_law_name", []⟩
def e__law_leaf : Entry := ⟨"_law_leaf", 203, ["number"], ["number"], [], top 38, none, none, [], [], "_law_leaf", []⟩
def e__law_grown : Entry := ⟨"_law_grown", 204, ["row", "at", "deep"], ["row", "at", "deep", "number", "way", "some", "spot", "time", "found"], [], top 39, none, none, [], [], "_law_grown", []⟩
def e__law_drawn : Entry := ⟨"_law_drawn", 205, ["script", "at"], ["script", "at", "row"], [], top 40, none, none, [], [], "_law_drawn", []⟩
def e__law_leaves : Entry := ⟨"_law_leaves", 206, ["term"], ["term"], [], top 41, none, none, [], [], "_law_leaves", []⟩
def e__law_count : Entry := ⟨"_law_count", 208, ["thing"], ["thing", "bad", "sign"], [], top 42, none, none, [], [], "_law_count", []⟩
def e__law_all_ways : Entry := ⟨"_law_all_ways", 209, ["term"], ["term", "first", "way"], [], top 43, none, none, [], [], "_law_all_ways", []⟩
def e__law_part : Entry := ⟨"_law_part", 217, ["term", "way"], ["term", "way", "side"], [], top 44, none, none, [], [], "_law_part", []⟩
def e__law_with : Entry := ⟨"_law_with", 210, ["term", "way", "other"], ["term", "way", "other"], [], top 45, none, none, [], [], "_law_with", []⟩
def e__law_deed : Entry := ⟨"_law_deed", 218, ["term", "keeps", "shares"], ["term", "keeps", "shares", "many"], [], top 46, none, none, [], [], "_law_deed", []⟩
def e__law_ways : Entry := ⟨"_law_ways", 219, ["term"], ["term", "way"], [], top 47, none, none, [], [], "_law_ways", []⟩
def e__law_step : Entry := ⟨"_law_step", 220, ["term", "way"], ["term", "way", "here", "shared"], [], top 48, none, none, [], [], "_law_step", []⟩
def e__law_played : Entry := ⟨"_law_played", 222, ["term", "often"], ["term", "often", "row", "some"], [], top 49, none, none, [], [], "_law_played", []⟩
def e__law_odd_name : Entry := ⟨"_law_odd_name", 242, ["number"], ["number"], [], top 50, none, none, [], [], "_law_odd_name", []⟩
def e__law_book_deed : Entry := ⟨"_law_book_deed", 274, ["book", "deed"], ["book", "deed", "e"], [], top 51, none, none, [], [], "_law_book_deed", []⟩
def e__law_spread : Entry := ⟨"_law_spread", 275, ["term", "told"], ["term", "told", "name", "one"], [], top 52, none, none, [], ["told"], "_law_spread", []⟩
def e__law_due_deed : Entry := ⟨"_law_due_deed", 276, ["told", "rows", "deed"], ["told", "rows", "deed", "some", "good", "term", "end", "way", "name", "one"], [], top 53, none, none, [], ["told", "rows"], "_law_due_deed", []⟩
def e__law_deed_drawn : Entry := ⟨"_law_deed_drawn", 277, ["row", "at"], ["row", "at", "pick", "name", "term"], [], top 54, none, none, [], [], "_law_deed_drawn", []⟩
def e__law_deeds_drawn : Entry := ⟨"_law_deeds_drawn", 278, ["script", "at"], ["script", "at", "row", "time"], [], top 55, none, none, [], [], "_law_deeds_drawn", []⟩
def e_law : Entry := ⟨"law", 213, ["script"], ["script", "first", "then", "told", "rows", "one_row", "other_row", "time", "same", "term", "due", "name", "one", "two"], [], top 56, none, none, [], ["told", "rows"], "law", [("first", "Book"), ("then", "Book")]⟩
def e_Book___init__ : Entry := ⟨"__init__", 150, ["self"], ["self"], [], (clsMet (top 32) "__init__"), none, some ("Book", "Book.__init__"), ["told", "rows"], [], "__init__", []⟩
def e_Book___len__ : Entry := ⟨"__len__", 151, ["self"], ["self"], [], (clsMet (top 32) "__len__"), none, some ("Book", "Book.__len__"), [], [], "__len__", []⟩
def e_Book___eq__ : Entry := ⟨"__eq__", 152, ["self", "other"], ["self", "other"], [], (clsMet (top 32) "__eq__"), none, some ("Book", "Book.__eq__"), [], [], "__eq__", []⟩
def e_Book___str__ : Entry := ⟨"__str__", 153, ["self"], ["self", "line"], [], (clsMet (top 32) "__str__"), none, some ("Book", "Book.__str__"), [], [], "__str__", []⟩
def e_Book_tell : Entry := ⟨"tell", 154, ["self", "name", "term"], ["self", "name", "term", "found"], [], (clsMet (top 32) "tell"), none, some ("Book", "Book.tell"), [], [], "tell", []⟩
def e_Book_names : Entry := ⟨"names", 155, ["self"], ["self", "line"], [], (clsMet (top 32) "names"), none, some ("Book", "Book.names"), [], [], "names", []⟩
def e_Book_term : Entry := ⟨"term", 156, ["self", "name"], ["self", "name", "line"], [], (clsMet (top 32) "term"), none, some ("Book", "Book.term"), [], [], "term", []⟩
def e_Book_spread : Entry := ⟨"spread", 157, ["self", "term"], ["self", "term"], [], (clsMet (top 32) "spread"), none, some ("Book", "Book.spread"), [], [], "spread", []⟩
def e_Book_put_in : Entry := ⟨"put_in", 158, ["self", "term"], ["self", "term", "found", "line"], [], (clsMet (top 32) "put_in"), none, some ("Book", "Book.put_in"), [], [], "put_in", []⟩
def e_Book_play : Entry := ⟨"play", 159, ["self", "term", "most"], ["self", "term", "most", "start", "found"], [.int (50)], (clsMet (top 32) "play"), some (2, "most"), some ("Book", "Book.play"), [], [], "play", []⟩
def e_Book_forget : Entry := ⟨"forget", 161, ["self"], ["self"], [], (clsMet (top 32) "forget"), none, some ("Book", "Book.forget"), [], [], "forget", []⟩
def es : List Entry := [e_is_within, e_is_name, e_is_leaf, e_left_of, e_is_term, e_checked, e_looked, e_leaves, e_deed_of, e_done, e_ways_of, e_part_at, e_with_part, e_look_way, e_step_to, e_played, e_first_of, e__law_cell, e__law_whole, e__law_row, e__law_name, e__law_leaf, e__law_grown, e__law_drawn, e__law_leaves, e__law_count, e__law_all_ways, e__law_part, e__law_with, e__law_deed, e__law_ways, e__law_step, e__law_played, e__law_odd_name, e__law_book_deed, e__law_spread, e__law_due_deed, e__law_deed_drawn, e__law_deeds_drawn, e_law, e_Book___init__, e_Book___len__, e_Book___eq__, e_Book___str__, e_Book_tell, e_Book_names, e_Book_term, e_Book_spread, e_Book_put_in, e_Book_play, e_Book_forget]
def hs : List Entry := []
def gc : List (Str × PyData) := [("MOST_LEAVES", .int (200)), ("SMALL", .str "abcdefghijklmnopqrstuvwxyz"), ("MOST_PLAYED", .int (400))]
def fr : List Str := ["len", "isinstance", "range", "tuple", "int", "bool", "str", "sorted", "max", "ValueError"]
def cl : List (Str × Nat) := [("CopyError", 0), ("BadTerm", 1), ("BadWay", 3), ("BadCount", 4), ("BadName", 5), ("TooBig", 9), ("Nothing", 10)]
def i_BadWay : Ini := ⟨"BadWay", 3, "BadWay.__init__", "way", clsDef (top 4)⟩
def i_BadName : Ini := ⟨"BadName", 5, "BadName.__init__", "name", clsDef (top 6)⟩
def ins : List Ini := [i_BadWay, i_BadName]
abbrev R : PySem.W.OpenRow := PySem.W.OpenLaw.row PySem.Challenge.rw_copyhands_k28_whole_two_books
def fa : List He.Fa := faOf es fr
def fn : List He.DefD := es.map ddOf ++ ins.map ddI
abbrev hk : PySem.W.Hook := hkY 9 fa fn (exB gc cl ins es)
def ob (s : PySem.W.SharedT) : He.AlD × Bool := hkObs 9 fa fn (exB gc cl ins es) (HandSHeadRun.getT s)
theorem ob_eq (s : PySem.W.SharedT) : ob s = hk.obs s.abs := hkObs_eq (HandSHeadRun.getT_eq s)
def names0 : List Str := ["_wall", "CopyError", "BadTerm", "BadWay", "BadCount", "BadName", "TooBig", "Nothing", "MOST_LEAVES", "SMALL", "is_within", "is_name", "is_leaf", "left_of", "is_term", "checked", "looked", "leaves", "MOST_PLAYED", "deed_of", "done", "ways_of", "part_at", "with_part", "look_way", "step_to", "played", "first_of", "Book", "_law_cell"]
def names1 : List Str := ["_law_whole", "_law_row", "_law_name", "_law_leaf", "_law_grown", "_law_drawn", "_law_leaves", "_law_count", "_law_all_ways", "_law_part", "_law_with", "_law_deed", "_law_ways", "_law_step", "_law_played", "_law_odd_name", "_law_book_deed", "_law_spread", "_law_due_deed", "_law_deed_drawn", "_law_deeds_drawn"]
def names : List Str := names0 ++ names1
theorem run (w : World) : HandSHeadRun.RunEq R (PySem.W.view R.prog [56]) hk ob 6000 names w := by
  intro os
  kernel_rfl
end CH.Law
set_option maxHeartbeats 200000
/-! CH0: a plain reckoning of Python's values (Val, S, R), the tie between a reckoned state and the layer's heap (SR). -/
namespace CH
open PySem L2

/-- an exception: its class, its field -/
structure Exn where
  cls : Nat
  fld : Option (Str × PyData)

/-- a value: data that stays as it is; a list of this def's own; the script; an object of the table; an exception in hand -/
inductive Val where
  | dat (d : PyData) | own (xs : List PyData) | scr (ns : List Int) | obj (n : Nat) | exn (e : Exn)

inductive Ob where
  | lst (xs : List PyData) | dct (kvs : List (Key × PyData)) | ins (c : Str) (fs : List (Str × Val)) | mix (vs : List Val)

structure S where
  sl : List (Option Val)
  ob : List Ob

inductive R (α : Type) where
  | ok (a : α) (s : S) | ex (e : Exn) (s : S) | no
inductive C where
  | ok (v : Val) (ob : List Ob) | ex (e : Exn) (ob : List Ob) | no
/-- what calls do: how many calls deep is allowed, the call of a def -/
structure Cs where
  lv : Nat
  run : Nat → List Val → List Ob → C
  xn : Option Exn
  /-- the same one call less deep -/
  low : Nat → List Val → List Ob → C
abbrev M (α : Type) := Cs → S → R α

def R.bnd {α β : Type} (x : R α) (k : α → S → R β) : R β := match x with
  | .ok a s => k a s
  | .ex e s => .ex e s
  | .no => .no
@[simp] theorem R.bnd_ok {α β : Type} (a : α) (s : S) (k : α → S → R β) : (R.ok a s).bnd k = k a s := rfl
@[simp] theorem R.bnd_ex {α β : Type} (e : Exn) (s : S) (k : α → S → R β) : (R.ex e s : R α).bnd k = .ex e s := rfl
@[simp] theorem R.bnd_no {α β : Type} (k : α → S → R β) : (R.no : R α).bnd k = .no := rfl

def S.at_ (s : S) (i : Nat) : Option Val := match s.sl[i]? with
  | some o => o
  | none => none
def S.put (s : S) (i : Nat) (o : Option Val) : S := { s with sl := s.sl.set i o }
def frz : Val → Val
  | .own xs => .dat (.list xs)
  | v => v

/-! ### the tie -/
mutual
inductive DR (K : PySem.W.Frag) (G : Hp) : V → PyData → Prop
  | non : DR K G .non .none
  | bl (b : Bool) : DR K G (.bl b) (.bool b)
  | int (i : Int) : DR K G (.int i) (.int i)
  | str (x : Str) (h : PyData.strOk x = true) : DR K G (.str x) (.str x)
  | lst {a : Addr} {xs : List V} {ds : List PyData} : G a = some (.lst xs) → DRs K G xs ds → DR K G (.ref a) (.list ds)
  | tup {a : Addr} {xs : List V} {ds : List PyData} : SqT K G a xs → DRs K G xs ds → DR K G (.ref a) (.tuple ds)
inductive DRs (K : PySem.W.Frag) (G : Hp) : List V → List PyData → Prop
  | nil : DRs K G [] []
  | cons {v : V} {vs : List V} {d : PyData} {ds : List PyData} : DR K G v d → DRs K G vs ds → DRs K G (v :: vs) (d :: ds)
end

def Sub (G H : Hp) : Prop := ∀ a o, G a = some o → H a = some o
theorem Sub.refl (G : Hp) : Sub G G := fun _ _ h => h
theorem Sub.trans {A B C : Hp} (x : Sub A B) (y : Sub B C) : Sub A C := fun a o h => y a o (x a o h)
theorem Sub.sqT {K : PySem.W.Frag} {G H : Hp} {a : Addr} {xs : List V} (e : Sub G H) (h : SqT K G a xs) : SqT K H a xs := by
  rcases h with (h | ⟨o, h⟩) | h
  · exact .inl (.inl (e _ _ h))
  · exact .inl (.inr ⟨o, e _ _ h⟩)
  · exact .inr h
theorem Sub.sqL {K : PySem.W.Frag} {G H : Hp} {a : Addr} {xs : List V} (e : Sub G H) (h : SqL K G a xs) : SqL K H a xs := by
  rcases h with (h | ⟨o, h⟩) | h
  · exact .inl (.inl (e _ _ h))
  · exact .inl (.inr ⟨o, e _ _ h⟩)
  · exact .inr h
theorem Sub.upd {H : Hp} {p : Addr} {o : HO} (h : H p = none) : Sub H (upd H p o) := fun a u q => by rw [upd_ne (ne_of_none q h)]; exact q

mutual
theorem DR.mono {K : PySem.W.Frag} {G H : Hp} (e : Sub G H) : ∀ (d : PyData) (v : V), DR K G v d → DR K H v d
  | .none, _, h => by cases h; exact .non
  | .bool b, _, h => by cases h; exact .bl b
  | .int i, _, h => by cases h; exact .int i
  | .str x, _, h => by cases h with | str _ q => exact .str x q
  | .list ds, _, h => by
    cases h with
    | lst h1 h2 => exact .lst (e _ _ h1) (DRs.mono e ds _ h2)
  | .tuple ds, _, h => by
    cases h with
    | tup h1 h2 => exact .tup (e.sqT h1) (DRs.mono e ds _ h2)
  | .dict kvs, _, h => by cases h
theorem DRs.mono {K : PySem.W.Frag} {G H : Hp} (e : Sub G H) : ∀ (ds : List PyData) (vs : List V), DRs K G vs ds → DRs K H vs ds
  | [], _, h => by cases h; exact .nil
  | d :: ds, _, h => by
    cases h with
    | cons h1 h2 => exact .cons (DR.mono e d _ h1) (DRs.mono e ds _ h2)
end
mutual
theorem DR.dp {K : PySem.W.Frag} {H : Hp} : ∀ (d : PyData) (v : V), DR K H v d → Dp K H v d
  | .none, _, h => by cases h; exact .non
  | .bool b, _, h => by cases h; exact .bl b
  | .int i, _, h => by cases h; exact .int i
  | .str x, _, h => by cases h; exact .str x
  | .list ds, _, h => by
    cases h with
    | lst h1 h2 => exact .lst (SqL.of h1) (DRs.dp ds _ h2)
  | .tuple ds, _, h => by
    cases h with
    | tup h1 h2 => exact .tup h1 (DRs.dp ds _ h2)
  | .dict kvs, _, h => by cases h
theorem DRs.dp {K : PySem.W.Frag} {H : Hp} : ∀ (ds : List PyData) (vs : List V), DRs K H vs ds → DpAll K H vs ds
  | [], _, h => by cases h; exact .nil
  | d :: ds, _, h => by
    cases h with
    | cons h1 h2 => exact .cons (DR.dp d _ h1) (DRs.dp ds _ h2)
end
mutual
theorem DR.lay {K : PySem.W.Frag} {H : Hp} : ∀ (d : PyData) (v : V), DR K H v d → d.canLay0 = true
  | .none, _, h => rfl
  | .bool b, _, h => rfl
  | .int i, _, h => rfl
  | .str x, _, h => by cases h with | str _ q => exact q
  | .list ds, _, h => by
    cases h with
    | lst h1 h2 => exact DRs.lay ds _ h2
  | .tuple ds, _, h => by
    cases h with
    | tup h1 h2 => exact DRs.lay ds _ h2
  | .dict kvs, _, h => by cases h
theorem DRs.lay {K : PySem.W.Frag} {H : Hp} : ∀ (ds : List PyData) (vs : List V), DRs K H vs ds → PyData.canLayAll0 ds = true
  | [], _, h => rfl
  | d :: ds, _, h => by
    cases h with
    | cons h1 h2 =>
      show (d.canLay0 && PyData.canLayAll0 ds) = true
      rw [DR.lay d _ h1, DRs.lay ds _ h2]
      rfl
end
theorem DRs.length {K : PySem.W.Frag} {G : Hp} : ∀ {vs : List V} {ds : List PyData}, DRs K G vs ds → vs.length = ds.length
  | _, _, .nil => rfl
  | _, _, .cons _ t => congrArg (· + 1) t.length
theorem DRs.get {K : PySem.W.Frag} {G : Hp} : ∀ {vs : List V} {ds : List PyData} {i : Nat} {d : PyData}, DRs K G vs ds → ds[i]? = some d → ∃ v, vs[i]? = some v ∧ DR K G v d
  | _, _, _, _, .nil, e => by simp at e
  | _, _, 0, _, .cons r _, e => by simp at e; subst e; exact ⟨_, rfl, r⟩
  | _, _, i + 1, d, .cons _ t, e => by
    obtain ⟨v, h1, h2⟩ := DRs.get (i := i) (d := d) t (by simpa using e)
    exact ⟨v, by simpa using h1, h2⟩
theorem DRs.append {K : PySem.W.Frag} {G : Hp} : ∀ {vs ws : List V} {ds es : List PyData}, DRs K G vs ds → DRs K G ws es → DRs K G (vs ++ ws) (ds ++ es)
  | _, _, _, _, .nil, s => s
  | _, _, _, _, .cons r t, s => .cons r (t.append s)
theorem DRs.take {K : PySem.W.Frag} {G : Hp} : ∀ {vs : List V} {ds : List PyData} (n : Nat), DRs K G vs ds → DRs K G (vs.take n) (ds.take n)
  | _, _, 0, _ => .nil
  | _, _, _ + 1, .nil => .nil
  | _, _, n + 1, .cons r t => .cons r (t.take n)
theorem DRs.drop {K : PySem.W.Frag} {G : Hp} : ∀ {vs : List V} {ds : List PyData} (n : Nat), DRs K G vs ds → DRs K G (vs.drop n) (ds.drop n)
  | _, _, 0, r => r
  | _, _, _ + 1, .nil => .nil
  | _, _, n + 1, .cons _ t => t.drop n
theorem DRs.reverse {K : PySem.W.Frag} {G : Hp} {vs : List V} {ds : List PyData} (h : DRs K G vs ds) : DRs K G vs.reverse ds.reverse := by
  induction vs generalizing ds with
  | nil => cases h; exact .nil
  | cons v vs ih =>
    cases h with
    | cons r t =>
      rw [List.reverse_cons, List.reverse_cons]
      exact (ih t).append (.cons r .nil)
theorem DRs.flat {K : PySem.W.Frag} {G : Hp} {vs : List V} {ds : List PyData} (h : DRs K G vs ds) : ∀ k : Nat, DRs K G (List.replicate k vs).flatten (List.replicate k ds).flatten
  | 0 => .nil
  | k + 1 => by
    rw [List.replicate_succ, List.replicate_succ, List.flatten_cons, List.flatten_cons]
    exact h.append (DRs.flat h k)

/-- a value as it may be read -/
def VB (K : PySem.W.Frag) (G H : Hp) (io : List Addr) (w : V) : Val → Prop
  | .dat d => DR K G w d
  | .own xs => ∃ a vs, w = .ref a ∧ H a = some (.lst vs) ∧ DRs K G vs xs
  | .scr ns => ∃ a, w = .ref a ∧ SqL K G a (ns.map V.int)
  | .obj n => ∃ a, w = .ref a ∧ io[n]? = some a
  | .exn _ => False

/-- the surroundings: the written part, the classes' places; the heap at the entry, its part that stays, the objects there; what a comprehension around holds -/
structure Sur where
  K : PySem.W.Frag
  cla : Nat → Option Addr
  H0 : Hp
  G0 : Hp
  io0 : List Addr
  kp : Hp
  xs : Option (Nat × Addr)
  xf : Option (Addr × Str × V × PyData)

/-- a place that is nobody else's -/
structure Mine (Z : Sur) (G H : Hp) (io : List Addr) (a : Addr) : Prop where
  g : G a = none
  h0 : Z.H0 a = none
  kp : Z.kp a = none
  io : a ∉ io
  h : ∃ vs, H a = some (.lst vs)

def ObR (K : PySem.W.Frag) (cla : Nat → Option Addr) (G H : Hp) (io : List Addr) (a : Addr) : Ob → Prop
  | .lst xs => ∃ vs, H a = some (.lst vs) ∧ DRs K G vs xs
  | .dct kvs => ∃ vs : List (Key × V), H a = some (.dK vs) ∧ vs.map (·.1) = kvs.map (·.1) ∧ DRs K G (vs.map (·.2)) (kvs.map (·.2))
  | .ins c fs => ∃ C dx gs, He.ga K c = C ∧ H a = some (.ins C dx gs) ∧ gs.map (·.1) = fs.map (·.1) ∧ ∀ p ∈ gs.zip fs, VB K G H io p.1.2 p.2.2 ∧ ∀ xs, p.2.2 ≠ .own xs
  | .mix us => ∃ ws, H a = some (.lst ws) ∧ ws.length = us.length ∧ ∀ p ∈ ws.zip us, VB K G H io p.1 p.2 ∧ ∀ xs, p.2 ≠ .own xs

/-- the exception in hand: its slot holds it, its field stands -/
structure XS (Z : Sur) (G : Hp) (σ : St) (s : S) (H : Hp) : Prop where
  sl : ∀ (i : Nat) (a : Addr), Z.xs = some (i, a) → s.at_ i = none → σ[i]? = some (some (.ref a))
  fl : ∀ (dd : Addr) (f : Str) (w : V) (d : PyData), Z.xf = some (dd, f, w, d) → H dd = some (.xd [(f, w)]) ∧ DR Z.K G w d
/-- the reckoned state s (slots, objects) and the layer's state (slots σ, heap H): G the part that stays, H0 the heap at the entry, io the objects' places -/
structure SR (Z : Sur) (G : Hp) (io : List Addr) (σ : St) (s : S) (H : Hp) : Prop where
  sub : Sub G H
  old : ∀ a o, Z.H0 a = some o → a ∉ io → H a = some o
  gold : ∀ a o, Z.H0 a = some o → Z.G0 a = none → G a = none
  iold : ∀ a ∈ io, a ∈ Z.io0 ∨ Z.H0 a = none
  kept : ∀ a o, Z.kp a = some o → H a = some o ∧ G a = none ∧ a ∉ io ∧ Z.H0 a = none
  slot : ∀ (i : Nat) (v : Val), s.at_ i = some v → ∃ w, σ[i]? = some (some w) ∧ VB Z.K G H io w v
  mine : ∀ (i : Nat) (xs : List PyData) (a : Addr), s.at_ i = some (.own xs) → σ[i]? = some (some (.ref a)) → Mine Z G H io a ∧ ∀ (j : Nat) (ys : List PyData), s.at_ j = some (.own ys) → σ[j]? = some (some (.ref a)) → j = i
  ol : io.length = s.ob.length
  ond : io.Nodup
  ofr : ∀ a ∈ io, G a = none ∧ (H a).isSome = true
  ob : ∀ (n : Nat) (a : Addr) (o : Ob), io[n]? = some a → s.ob[n]? = some o → ObR Z.K Z.cla G H io a o
  len : s.sl.length = σ.length
  xx : XS Z G σ s H

/-- a result that nobody holds yet -/
def VT (Z : Sur) (G : Hp) (io : List Addr) (σ : St) (s : S) (H : Hp) (w : V) (v : Val) : Prop :=
  VB Z.K G H io w v ∧ ∀ (xs : List PyData) (a : Addr), v = .own xs → w = .ref a → Mine Z G H io a ∧ ∀ (j : Nat) (ys : List PyData), s.at_ j = some (.own ys) → σ[j]? ≠ some (some (.ref a))

structure Ext (G : Hp) (io : List Addr) (G' : Hp) (io' : List Addr) : Prop where
  g : Sub G G'
  io : io <+: io'
theorem Ext.refl (G : Hp) (io : List Addr) : Ext G io G io := ⟨Sub.refl _, List.prefix_rfl⟩
theorem Ext.trans {A B C : Hp} {a b c : List Addr} (x : Ext A a B b) (y : Ext B b C c) : Ext A a C c := ⟨x.g.trans y.g, x.io.trans y.io⟩


section
variable {Z : Sur} {G G' H H' : Hp} {io io' : List Addr} {σ : St} {s : S} {w : V} {v : Val}
theorem VB.mono {K : PySem.W.Frag} (h : VB K G H io w v) (g : Sub G G') (hh : Sub H H') (i : io <+: io') : VB K G' H' io' w v := by
  cases v with
  | dat d => exact DR.mono g d w h
  | own xs => obtain ⟨a, vs, e, h1, h2⟩ := h; exact ⟨a, vs, e, hh _ _ h1, DRs.mono g xs vs h2⟩
  | scr ns => obtain ⟨a, e, h1⟩ := h; exact ⟨a, e, g.sqL h1⟩
  | obj n =>
    obtain ⟨a, e, h1⟩ := h
    obtain ⟨t, rfl⟩ := i
    exact ⟨a, e, by rw [List.getElem?_append_left (List.getElem?_eq_some_iff.mp h1).1]; exact h1⟩
  | exn e => exact h
theorem ObR.mono {K : PySem.W.Frag} {cla : Nat → Option Addr} {a : Addr} {o : Ob} (h : ObR K cla G H io a o) (g : Sub G G') (hh : Sub H H') (i : io <+: io') : ObR K cla G' H' io' a o := by
  cases o with
  | lst xs => obtain ⟨vs, h1, h2⟩ := h; exact ⟨vs, hh _ _ h1, DRs.mono g _ _ h2⟩
  | dct kvs => obtain ⟨vs, h1, h2, h3⟩ := h; exact ⟨vs, hh _ _ h1, h2, DRs.mono g _ _ h3⟩
  | ins c fs => obtain ⟨C, dx, gs, h0, h1, h2, h3⟩ := h; exact ⟨C, dx, gs, h0, hh _ _ h1, h2, fun p hp => ⟨(h3 p hp).1.mono g hh i, (h3 p hp).2⟩⟩
  | mix us => obtain ⟨ws, h1, h2, h3⟩ := h; exact ⟨ws, hh _ _ h1, h2, fun p hp => ⟨(h3 p hp).1.mono g hh i, (h3 p hp).2⟩⟩
/-- the heap grows, the part that stays grows by new places -/
theorem SR.mono (r : SR Z G io σ s H) (g : Sub G G') (hh : Sub H H') (gh : Sub G' H') (hn : ∀ a o, H a = some o → G a = none → G' a = none) (hg : ∀ a o, Z.H0 a = some o → Z.G0 a = none → G' a = none) : SR Z G' io σ s H' where
  sub := gh
  old := fun a o h n => hh _ _ (r.old a o h n)
  gold := hg
  iold := r.iold
  kept := fun a o h => let ⟨h1, h2, h3⟩ := r.kept a o h; ⟨hh _ _ h1, hn a o h1 h2, h3⟩
  slot := fun i v h => let ⟨w, e, q⟩ := r.slot i v h; ⟨w, e, q.mono g hh List.prefix_rfl⟩
  mine := fun i xs a h e => by
    obtain ⟨m, q⟩ := r.mine i xs a h e
    obtain ⟨vs, hv⟩ := m.h
    exact ⟨⟨hn _ _ hv m.g, m.h0, m.kp, m.io, vs, hh _ _ hv⟩, q⟩
  ol := r.ol
  ond := r.ond
  ofr := fun a h => by
    obtain ⟨h1, h2⟩ := r.ofr a h
    obtain ⟨o, ho⟩ := Option.isSome_iff_exists.mp h2
    exact ⟨hn a o ho h1, by rw [hh _ _ ho]; rfl⟩
  ob := fun n a o h1 h2 => (r.ob n a o h1 h2).mono g hh List.prefix_rfl
  len := r.len
  xx := ⟨r.xx.sl, fun dd f w d h => ⟨hh _ _ (r.xx.fl dd f w d h).1, DR.mono g _ _ (r.xx.fl dd f w d h).2⟩⟩
/-- a new object, not of the part that stays -/
theorem SR.new {p : Addr} (r : SR Z G io σ s H) (hp : H p = none) (o : HO) : SR Z G io σ s (upd H p o) :=
  r.mono (Sub.refl _) (Sub.upd hp) (r.sub.trans (Sub.upd hp)) (fun _ _ _ h => h) r.gold
theorem SR.h0none {p : Addr} (r : SR Z G io σ s H) (hp : H p = none) : Z.H0 p = none := by
  cases e : Z.H0 p with
  | none => rfl
  | some o =>
    have z : p ∉ io := fun z => by have := (r.ofr p z).2; rw [hp] at this; cases this
    rw [r.old p o e z] at hp; cases hp
theorem SR.knone {p : Addr} (r : SR Z G io σ s H) (hp : H p = none) : Z.kp p = none := by
  cases e : Z.kp p with
  | none => rfl
  | some o => rw [(r.kept p o e).1] at hp; cases hp
theorem SR.gnone {p : Addr} (r : SR Z G io σ s H) (hp : H p = none) : G p = none := by
  cases e : G p with
  | none => rfl
  | some o => rw [r.sub p o e] at hp; cases hp
/-- a new object, of the part that stays -/
theorem SR.newG {p : Addr} (r : SR Z G io σ s H) (hp : H p = none) (o : HO) : SR Z (upd G p o) io σ s (upd H p o) := by
  refine r.mono (Sub.upd (r.gnone hp)) (Sub.upd hp) (fun a u h => ?_) (fun a u h1 h2 => ?_) fun a u h1 h2 => ?_
  · by_cases e : a = p
    · subst e; rw [upd_same] at h ⊢; exact h
    · rw [upd_ne e] at h ⊢; exact r.sub _ _ h
  · have e : a ≠ p := ne_of_none h1 hp
    rw [upd_ne e]; exact h2
  · have e : a ≠ p := ne_of_none h1 (r.h0none hp)
    rw [upd_ne e]; exact r.gold a u h1 h2
/-- a list of nobody's comes to the part that stays -/
theorem SR.freeze {a : Addr} {vs : List V} (r : SR Z G io σ s H) (m : Mine Z G H io a) (n : ∀ (j : Nat) (ys : List PyData), s.at_ j = some (.own ys) → σ[j]? ≠ some (some (.ref a))) (h : H a = some (.lst vs)) : SR Z (upd G a (.lst vs)) io σ s H where
  sub := fun b u q => by
    by_cases e : b = a
    · subst e; rw [upd_same] at q; cases q; exact h
    · rw [upd_ne e] at q; exact r.sub _ _ q
  old := r.old
  gold := fun b u h1 h2 => by
    have e : b ≠ a := ne_of_none h1 m.h0
    rw [upd_ne e]; exact r.gold b u h1 h2
  iold := r.iold
  kept := fun b u h => by
    obtain ⟨h1, h2, h3⟩ := r.kept b u h
    have e : b ≠ a := ne_of_none h m.kp
    exact ⟨h1, by rw [upd_ne e]; exact h2, h3⟩
  slot := fun i v h => let ⟨w, e, q⟩ := r.slot i v h; ⟨w, e, q.mono (Sub.upd m.g) (Sub.refl _) List.prefix_rfl⟩
  mine := fun i xs b h e => by
    obtain ⟨m', q⟩ := r.mine i xs b h e
    have ne : b ≠ a := fun z => n i xs h (by rw [← z]; exact e)
    exact ⟨⟨by rw [upd_ne ne]; exact m'.g, m'.h0, m'.kp, m'.io, m'.h⟩, q⟩
  ol := r.ol
  ond := r.ond
  ofr := fun b h => by
    have ne : b ≠ a := fun z => m.io (z ▸ h)
    rw [upd_ne ne]; exact r.ofr b h
  ob := fun n a o h1 h2 => (r.ob n a o h1 h2).mono (Sub.upd m.g) (Sub.refl _) List.prefix_rfl
  len := r.len
  xx := ⟨r.xx.sl, fun dd f w d h => ⟨(r.xx.fl dd f w d h).1, DR.mono (Sub.upd m.g) _ _ (r.xx.fl dd f w d h).2⟩⟩
theorem at_put_same {s : S} {i : Nat} {o : Option Val} (h : i < s.sl.length) : (s.put i o).at_ i = o := by
  unfold S.at_ S.put
  rw [List.getElem?_set_self h]
theorem at_put_ne {s : S} {i j : Nat} {o : Option Val} (h : j ≠ i) : (s.put i o).at_ j = s.at_ j := by
  unfold S.at_ S.put
  rw [List.getElem?_set_ne (Ne.symm h)]
theorem at_lt {s : S} {i : Nat} {v : Val} (h : s.at_ i = some v) : i < s.sl.length := by
  unfold S.at_ at h
  cases e : s.sl[i]? with
  | none => rw [e] at h; cases h
  | some o => exact (List.getElem?_eq_some_iff.mp e).1
/-- a slot's own list comes to the part that stays -/
theorem SR.freezeSlot {i : Nat} {xs : List PyData} (r : SR Z G io σ s H) (h : s.at_ i = some (.own xs)) :
    ∃ a vs, σ[i]? = some (some (.ref a)) ∧ H a = some (.lst vs) ∧ G a = none ∧ DRs Z.K G vs xs ∧ SR Z (upd G a (.lst vs)) io σ (s.put i (some (.dat (.list xs)))) H := by
  obtain ⟨w, e, a, vs, rfl, hv, hd⟩ := r.slot i _ h
  obtain ⟨m, q⟩ := r.mine i xs a h e
  have hi := at_lt h
  refine ⟨a, vs, e, hv, m.g, hd, ?_⟩
  have key : ∀ j v, (s.put i (some (.dat (.list xs)))).at_ j = some v → (j = i ∧ v = .dat (.list xs)) ∨ (j ≠ i ∧ s.at_ j = some v) := fun j v hj => by
    by_cases z : j = i
    · subst z; rw [at_put_same hi] at hj; exact .inl ⟨rfl, (Option.some.inj hj).symm⟩
    · rw [at_put_ne z] at hj; exact .inr ⟨z, hj⟩
  exact {
    sub := fun b u q => by
      by_cases z : b = a
      · subst z; rw [upd_same] at q; cases q; exact hv
      · rw [upd_ne z] at q; exact r.sub _ _ q
    old := r.old
    gold := fun b u h1 h2 => by
      have e : b ≠ a := ne_of_none h1 m.h0
      rw [upd_ne e]; exact r.gold b u h1 h2
    iold := r.iold
    kept := fun b u h => by
      obtain ⟨h1, h2, h3⟩ := r.kept b u h
      have e : b ≠ a := ne_of_none h m.kp
      exact ⟨h1, by rw [upd_ne e]; exact h2, h3⟩
    slot := fun j v hj => by
      rcases key j v hj with ⟨rfl, rfl⟩ | ⟨ne, hj⟩
      · exact ⟨_, e, .lst upd_same (DRs.mono (Sub.upd m.g) _ _ hd)⟩
      · obtain ⟨w, e', b⟩ := r.slot j v hj
        exact ⟨w, e', b.mono (Sub.upd m.g) (Sub.refl _) List.prefix_rfl⟩
    mine := fun j ys b hj ej => by
      rcases key j _ hj with ⟨_, z⟩ | ⟨ne, hj⟩
      · cases z
      · obtain ⟨m', q'⟩ := r.mine j ys b hj ej
        have nb : b ≠ a := fun z => by
          have := q j ys hj (by rw [← z]; exact ej)
          exact ne this
        refine ⟨⟨by rw [upd_ne nb]; exact m'.g, m'.h0, m'.kp, m'.io, m'.h⟩, fun k zs hk ek => ?_⟩
        rcases key k _ hk with ⟨_, z⟩ | ⟨_, hk⟩
        · cases z
        · exact q' k zs hk ek
    ol := r.ol
    ond := r.ond
    ofr := fun b h => by
      have nb : b ≠ a := fun z => m.io (z ▸ h)
      rw [upd_ne nb]; exact r.ofr b h
    ob := fun n a o h1 h2 => (r.ob n a o h1 h2).mono (Sub.upd m.g) (Sub.refl _) List.prefix_rfl
    len := by show (s.sl.set i _).length = _; rw [List.length_set]; exact r.len
    xx := ⟨fun j b hj hn => by
        by_cases z : j = i
        · subst z; rw [at_put_same hi] at hn; cases hn
        · rw [at_put_ne z] at hn; exact r.xx.sl j b hj hn,
      fun dd f w d h => ⟨(r.xx.fl dd f w d h).1, DR.mono (Sub.upd m.g) _ _ (r.xx.fl dd f w d h).2⟩⟩ }
/-- a result is stored -/
theorem SR.store {i : Nat} (r : SR Z G io σ s H) (t : VT Z G io σ s H w v) : SR Z G io (σ.set i (some w)) (s.put i (some v)) H := by
  have key : ∀ j u, (s.put i (some v)).at_ j = some u → (j = i ∧ u = v ∧ i < s.sl.length) ∨ (j ≠ i ∧ s.at_ j = some u) := fun j u hj => by
    by_cases z : j = i
    · subst z
      have hl := at_lt hj
      have hl : j < s.sl.length := by
        have : (s.put j (some v)).sl.length = s.sl.length := List.length_set
        omega
      rw [at_put_same hl] at hj; exact .inl ⟨rfl, (Option.some.inj hj).symm, hl⟩
    · rw [at_put_ne z] at hj; exact .inr ⟨z, hj⟩
  have sig : ∀ j, j ≠ i → (σ.set i (some w))[j]? = σ[j]? := fun j h => List.getElem?_set_ne (Ne.symm h)
  have sig0 : i < s.sl.length → (σ.set i (some w))[i]? = some (some w) := fun h => List.getElem?_set_self (by rw [← r.len]; exact h)
  exact {
    sub := r.sub
    old := r.old
    gold := r.gold
    iold := r.iold
    kept := r.kept
    slot := fun j u hj => by
      rcases key j u hj with ⟨rfl, rfl, hl⟩ | ⟨ne, hj⟩
      · exact ⟨w, sig0 hl, t.1⟩
      · obtain ⟨w', e', b⟩ := r.slot j u hj
        exact ⟨w', by rw [sig j ne]; exact e', b⟩
    mine := fun j ys b hj ej => by
      rcases key j _ hj with ⟨rfl, rfl, hl⟩ | ⟨ne, hj2⟩
      · rw [sig0 hl] at ej
        have ew : w = .ref b := Option.some.inj (Option.some.inj ej)
        obtain ⟨m, q⟩ := t.2 ys b rfl ew
        refine ⟨m, fun k zs hk ek => ?_⟩
        rcases key k _ hk with ⟨z, _, _⟩ | ⟨nk, hk⟩
        · exact z
        · rw [sig k nk] at ek
          exact absurd ek (q k zs hk)
      · rw [sig j ne] at ej
        obtain ⟨m', q'⟩ := r.mine j ys b hj2 ej
        refine ⟨m', fun k zs hk ek => ?_⟩
        rcases key k _ hk with ⟨rfl, e2, hl⟩ | ⟨nk, hk⟩
        · rw [sig0 hl] at ek
          have ew : w = .ref b := Option.some.inj (Option.some.inj ek)
          obtain ⟨_, q⟩ := t.2 zs b e2.symm ew
          exact absurd ej (q j ys hj2)
        · rw [sig k nk] at ek
          exact q' k zs hk ek
    ol := r.ol
    ond := r.ond
    ofr := r.ofr
    ob := r.ob
    len := by show (s.sl.set i _).length = _; rw [List.length_set, List.length_set]; exact r.len
    xx := ⟨fun j b hj hn => by
        by_cases z : j = i
        · subst z
          by_cases hl : j < s.sl.length
          · rw [at_put_same hl] at hn; cases hn
          · have e0 : s.at_ j = none := by
              unfold S.at_
              rw [List.getElem?_eq_none (by omega)]
            have e1 := r.xx.sl j b hj e0
            have := (List.getElem?_eq_some_iff.mp e1).1
            rw [← r.len] at this
            exact absurd this hl
        · rw [at_put_ne z] at hn; rw [sig j z]; exact r.xx.sl j b hj hn,
      r.xx.fl⟩ }
/-- data is nobody's -/
theorem VT.dat {d : PyData} (h : DR Z.K G w d) : VT Z G io σ s H w (.dat d) := ⟨h, fun _ _ e => by cases e⟩
theorem VT.scr {ns : List Int} {a : Addr} (h : SqL Z.K G a (ns.map V.int)) : VT Z G io σ s H (.ref a) (.scr ns) := ⟨⟨a, rfl, h⟩, fun _ _ e => by cases e⟩
/-- a new list -/
theorem VT.newL {p : Addr} {vs : List V} {xs : List PyData} (r : SR Z G io σ s H) (hp : H p = none) (h : DRs Z.K G vs xs) : VT Z G io σ s (upd H p (.lst vs)) (.ref p) (.own xs) := by
  refine ⟨⟨p, vs, rfl, upd_same, h⟩, fun ys a e1 e2 => ?_⟩
  cases e2
  refine ⟨⟨r.gnone hp, r.h0none hp, r.knone hp, fun z => ?_, vs, upd_same⟩, fun j zs hj ej => ?_⟩
  · have := (r.ofr p z).2; rw [hp] at this; cases this
  · obtain ⟨m, _⟩ := r.mine j zs p hj ej
    obtain ⟨us, hu⟩ := m.h
    rw [hp] at hu; cases hu
/-- a result becomes data -/
theorem VT.toFrz (r : SR Z G io σ s H) (t : VT Z G io σ s H w v) : ∃ G', Sub G G' ∧ SR Z G' io σ s H ∧ VT Z G' io σ s H w (CH.frz v) := by
  cases v with
  | own xs =>
    obtain ⟨⟨a, vs, rfl, hv, hd⟩, q⟩ := t
    obtain ⟨m, n⟩ := q xs a rfl rfl
    exact ⟨_, Sub.upd m.g, r.freeze m n hv, .dat (.lst upd_same (DRs.mono (Sub.upd m.g) _ _ hd))⟩
  | dat d => exact ⟨G, Sub.refl _, r, t⟩
  | scr ns => exact ⟨G, Sub.refl _, r, t⟩
  | obj n => exact ⟨G, Sub.refl _, r, t⟩
  | exn e => exact ⟨G, Sub.refl _, r, t⟩
end
end CH

/-! CH1: what a reckoning means for the layer (Aft, denV ..); operands, displays. -/
namespace CH
open PySem L2

/-- an exception as the layer has it: its class, its own dict -/
def XR (K : PySem.W.Frag) (cla : Nat → Option Addr) (G H : Hp) (e : Exn) (cls : Value) (d : Option Addr) : Prop :=
  ∃ c, cla e.cls = some c ∧ cls = .ref c ∧ match e.fld with
    | none => d = none
    | some (f, pd) => ∃ dd w, d = some dd ∧ H dd = some (.xd [(f, w)]) ∧ DR K G w pd

abbrev Po (α : Type) := α → Hp → List Addr → S → Hp → Prop
/-- what comes of a reckoning's result: in every state that fits it P holds, or the wish W of an exception -/
def Aft {α : Type} (Z : Sur) (σ : St) (G : Hp) (io : List Addr) (W : WX) (P : Po α) : R α → Prop
  | .ok a s' => ∀ G' io' H', SR Z G' io' σ s' H' → Ext G io G' io' → P a G' io' s' H'
  | .ex e s' => ∀ cls d G' io' H', SR Z G' io' σ s' H' → Ext G io G' io' → XR Z.K Z.cla G' H' e cls d → W cls d σ H'
  | .no => False
section
variable {Z : Sur} {α β : Type} {σ : St} {G G' H : Hp} {io io' : List Addr} {W : WX} {s : S}
theorem Aft.bnd {x : R α} {k : α → S → R β} {P : Po β} (h : Aft Z σ G io W P (x.bnd k)) : Aft Z σ G io W (fun a G1 io1 s1 _ => Aft Z σ G1 io1 W P (k a s1)) x := by
  cases x with
  | no => exact h
  | ex e s' => exact h
  | ok a s' =>
    intro G1 io1 H1 r1 e1
    show Aft Z σ G1 io1 W P (k a s')
    have h' : Aft Z σ G io W P (k a s') := h
    cases q : k a s' with
    | no => rw [q] at h'; exact h'
    | ok b s2 => rw [q] at h'; exact fun G2 io2 H2 r2 e2 => h' G2 io2 H2 r2 (e1.trans e2)
    | ex e s2 => rw [q] at h'; exact fun cls d G2 io2 H2 r2 e2 => h' cls d G2 io2 H2 r2 (e1.trans e2)
theorem Aft.mono {x : R α} {P P' : Po α} (h : Aft Z σ G io W P x) (f : ∀ a G' io' s' H', SR Z G' io' σ s' H' → Ext G io G' io' → P a G' io' s' H' → P' a G' io' s' H') : Aft Z σ G io W P' x := by
  cases x with
  | no => exact h
  | ex e s' => exact h
  | ok a s' => exact fun G1 io1 H1 r1 e1 => f _ _ _ _ _ r1 e1 (h G1 io1 H1 r1 e1)
theorem Aft.up {x : R α} {P : Po α} (h : Aft Z σ G io W P x) (e : Ext G io G' io') : Aft Z σ G' io' W P x := by
  cases x with
  | no => exact h
  | ex e' s' => exact fun cls d G2 io2 H2 r2 e2 => h cls d G2 io2 H2 r2 (e.trans e2)
  | ok a s' => exact fun G2 io2 H2 r2 e2 => h G2 io2 H2 r2 (e.trans e2)
end

/-- an expression; a test; arguments -/
def pV (Z : Sur) (σ : St) (Q : VK) : Po Val := fun v G io s H => ∀ w, VT Z G io σ s H w v → Q w H
def denV (Z : Sur) (cs : Cs) (f : M Val) (W : WX) : TE := fun σ H Q => ∃ G io s, SR Z G io σ s H ∧ Aft Z σ G io W (pV Z σ Q) (f cs s)
def pB (Q : Bool → Hp → Prop) : Po Bool := fun b _ _ _ H => Q b H
def denB (Z : Sur) (cs : Cs) (f : M Bool) (W : WX) : TT := fun σ H Q => ∃ G io s, SR Z G io σ s H ∧ Aft Z σ G io W (pB Q) (f cs s)
/-- values that stay -/
def VBs (K : PySem.W.Frag) (G H : Hp) (io : List Addr) : List V → List Val → Prop
  | [], [] => True
  | w :: ws, v :: vs => (VB K G H io w v ∧ ∀ xs, v ≠ .own xs) ∧ VBs K G H io ws vs
  | _, _ => False
theorem VBs.mono {K : PySem.W.Frag} {G G' H H' : Hp} {io io' : List Addr} (g : Sub G G') (hh : ∀ a o, G a = some o → True) (i : io <+: io') : ∀ {ws : List V} {vs : List Val}, VBs K G H io ws vs → VBs K G' H' io' ws vs
  | [], [], _ => trivial
  | w :: ws, v :: vs, h => by
    refine ⟨⟨?_, h.1.2⟩, VBs.mono g hh i h.2⟩
    have q := h.1.1
    cases v with
    | own xs => exact absurd rfl (h.1.2 xs)
    | dat d => exact DR.mono g d w q
    | scr ns => obtain ⟨a, e, h1⟩ := q; exact ⟨a, e, g.sqL h1⟩
    | obj n => exact VB.mono (G' := G') (H' := H) (v := .obj n) q g (Sub.refl _) i
    | exn e => exact q
  | [], _ :: _, h => h.elim
  | _ :: _, [], h => h.elim
def pA (Z : Sur) (Q : List V → Hp → Prop) : Po (List Val) := fun vs G io s H => ∀ ws, VBs Z.K G H io ws vs → Q ws H
def denA (Z : Sur) (cs : Cs) (f : M (List Val)) (W : WX) : TA := fun σ H Q => ∃ G io s, SR Z G io σ s H ∧ Aft Z σ G io W (pA Z Q) (f cs s)

theorem PE.imp {X : Cx} {e : Expr} {t t' : TE} (h : PE X e t) (f : ∀ σ H Q, t' σ H Q → t σ H Q) : PE X e t' := ⟨fun pins s σ H Q I q => h.run pins s σ H Q I (f σ H Q q)⟩
theorem PT.imp {X : Cx} {e : Expr} {t t' : TT} (h : PT X e t) (f : ∀ σ H Q, t' σ H Q → t σ H Q) : PT X e t' := ⟨fun pins s σ H Q I q => h.run pins s σ H Q I (f σ H Q q)⟩
theorem PA.imp {X : Cx} {e : List Expr} {t t' : TA} (h : PA X e t) (f : ∀ σ H Q, t' σ H Q → t σ H Q) : PA X e t' := ⟨fun pos pins s σ H Q I q => h.run pos pins s σ H Q I (f σ H Q q)⟩
theorem PS.imp {X : Cx} {e : Stmt} {t t' : TS} (h : PS X e t) (f : ∀ D σ H, t' D σ H → t D σ H) : PS X e t' := ⟨fun pins s σ H D I q => h.run pins s σ H D I (f D σ H q)⟩
theorem PSs.imp {X : Cx} {e : List Stmt} {t t' : TS} (h : PSs X e t) (f : ∀ D σ H, t' D σ H → t D σ H) : PSs X e t' := ⟨fun pins s σ H D I q => h.run pins s σ H D I (f D σ H q)⟩
theorem PE.never {X : Cx} {e : Expr} {t : TE} (h : ∀ σ H Q, ¬ t σ H Q) : PE X e t := ⟨fun pins s σ H Q I q => absurd q (h σ H Q)⟩
theorem PT.never {X : Cx} {e : Expr} {t : TT} (h : ∀ σ H Q, ¬ t σ H Q) : PT X e t := ⟨fun pins s σ H Q I q => absurd q (h σ H Q)⟩
theorem PS.never {X : Cx} {e : Stmt} {t : TS} (h : ∀ D σ H, ¬ t D σ H) : PS X e t := ⟨fun pins s σ H D I q => absurd q (h D σ H)⟩

/-! ### the combinators -/
def mNo {α : Type} : M α := fun _ _ => .no
def mCon (d : PyData) : M Val := fun _ s => .ok (.dat d) s
/-- a name, handed on: a list of one's own stays from now on -/
def mVar (i : Nat) : M Val := fun _ s => match s.at_ i with
  | some (.own xs) => .ok (.dat (.list xs)) (s.put i (some (.dat (.list xs))))
  | some v => .ok v s
  | none => .no
/-- arguments, from the left -/
def mArgs : List (M Val) → M (List Val)
  | [] => fun _ s => .ok [] s
  | f :: fs => fun cs s => (f cs s).bnd fun v s1 => (mArgs fs cs s1).bnd fun vs s2 => .ok (frz v :: vs) s2
def toD : Val → Option PyData
  | .dat d => some d
  | .own xs => some (.list xs)
  | _ => none
def toDs : List Val → Option (List PyData)
  | [] => some []
  | .dat d :: vs => (toDs vs).map (d :: ·)
  | _ :: _ => none
def big : Nat := 16777216
def mTup (es : List (M Val)) : M Val := fun cs s => (mArgs es cs s).bnd fun vs s1 => match toDs vs with
  | some ds => .ok (.dat (.tuple ds)) s1
  | none => .no
def mLst (es : List (M Val)) : M Val := fun cs s => (mArgs es cs s).bnd fun vs s1 => match toDs vs with
  | some ds => .ok (.own ds) s1
  | none => .no
/-- an operand: a name that is only looked at, or an expression -/
inductive Opd where
  | pk (i : Nat) | ev (f : M Val)
/-- an object looked at: a list of the table reads as a list -/
def see (ob : List Ob) : Val → Val
  | .obj n => (match ob[n]? with
    | some (.lst xs) => .own xs
    | _ => .obj n)
  | v => v
/-- one operand -/
def ev1 {β : Type} (a : Opd) (k : Val → S → R β) : M β := fun cs s => match a with
  | .ev f => (f cs s).bnd fun x s1 => k (see s1.ob (frz x)) s1
  | .pk i => match s.at_ i with
    | some x => k (see s.ob x) s
    | none => .no
/-- two operands -/
def ev2 {β : Type} (a b : Opd) (k : Val → Val → S → R β) : M β := fun cs s => match a with
  | .ev f => (f cs s).bnd fun x s1 => ev1 b (fun y s2 => k (see s2.ob (frz x)) y s2) cs s1
  | .pk i => match s.at_ i with
    | some _ => ev1 b (fun y s2 => match s2.at_ i with
      | some x => k (see s2.ob x) y s2
      | none => .no) cs s
    | none => .no
def giv (s : S) : Option Val → R Val
  | some v => .ok v s
  | none => .no
def mUn (op : Cs → Val → Option Val) (a : Opd) : M Val := fun cs s => ev1 a (fun x s1 => giv s1 (op cs x)) cs s
def mBin (op : Cs → Val → Val → Option Val) (a b : Opd) : M Val := fun cs s => ev2 a b (fun x y s1 => giv s1 (op cs x y)) cs s

section
variable {Z : Sur} {cs : Cs} {σ : St} {G G' H : Hp} {io io' : List Addr} {W : WX} {s : S} {X : Cx}
theorem no_denV {σ : St} {H : Hp} {Q : VK} : ¬ denV Z cs mNo W σ H Q := fun ⟨_, _, _, _, h⟩ => h
theorem no_denB {σ : St} {H : Hp} {Q : Bool → Hp → Prop} : ¬ denB Z cs mNo W σ H Q := fun ⟨_, _, _, _, h⟩ => h
theorem denV.of {f : M Val} {P : Po Val} {Q : VK} (r : SR Z G io σ s H) (h : Aft Z σ G io W P (f cs s)) (q : ∀ v G' io' s' H', SR Z G' io' σ s' H' → Ext G io G' io' → P v G' io' s' H' → ∀ w, VT Z G' io' σ s' H' w v → Q w H') : denV Z cs f W σ H Q :=
  ⟨G, io, s, r, h.mono fun v G' io' s' H' r' e' p => q v G' io' s' H' r' e' p⟩
/-- constants -/
theorem den_con {d : PyData} {v : V} {Q : VK} (hd : ∀ G, DR Z.K G v d) (h : denV Z cs (mCon d) W σ H Q) : tC v σ H Q := by
  obtain ⟨G, io, s, r, h⟩ := h
  exact h G io H r (Ext.refl _ _) v (.dat (hd G))
theorem den_var {i : Nat} {Q : VK} (h : denV Z cs (mVar i) W σ H Q) : tVar i σ H Q := by
  obtain ⟨G, io, s, r, h⟩ := h
  unfold mVar at h
  cases e : s.at_ i with
  | none => rw [e] at h; exact h.elim
  | some v =>
    rw [e] at h
    obtain ⟨w, ew, b⟩ := r.slot i v e
    refine ⟨w, ew, ?_⟩
    cases v with
    | own xs =>
      obtain ⟨a, vs, e1, hv, hg, hd, r'⟩ := r.freezeSlot e
      rw [ew] at e1
      have e1 : w = .ref a := Option.some.inj (Option.some.inj e1)
      subst e1
      exact h _ io H r' ⟨Sub.upd hg, List.prefix_rfl⟩ _ (.dat (.lst upd_same (DRs.mono (Sub.upd hg) _ _ hd)))
    | dat d => exact h G io H r (Ext.refl _ _) w (.dat b)
    | scr ns => exact h G io H r (Ext.refl _ _) w ⟨b, fun _ _ z => by cases z⟩
    | obj n => exact h G io H r (Ext.refl _ _) w ⟨b, fun _ _ z => by cases z⟩
    | exn n => exact h G io H r (Ext.refl _ _) w ⟨b, fun _ _ z => by cases z⟩
theorem VT.noOwn {w : V} {v : Val} (t : VT Z G io σ s H w (frz v)) : VB Z.K G H io w (frz v) ∧ ∀ xs, frz v ≠ .own xs := by
  refine ⟨t.1, fun xs e => ?_⟩
  cases v <;> cases e
/-- arguments -/
theorem den_args_nil {Q : List V → Hp → Prop} (h : denA Z cs (mArgs []) W σ H Q) : tNil σ H Q := by
  obtain ⟨G, io, s, r, h⟩ := h
  exact h G io H r (Ext.refl _ _) [] trivial
theorem den_args_cons {f : M Val} {fs : List (M Val)} {Q : List V → Hp → Prop} (h : denA Z cs (mArgs (f :: fs)) W σ H Q) : tCons (denV Z cs f W) (denA Z cs (mArgs fs) W) σ H Q := by
  obtain ⟨G, io, s, r, h⟩ := h
  refine denV.of r (Aft.bnd h) fun v G1 io1 s1 H1 r1 e1 p w t => ?_
  obtain ⟨G2, g2, r2, t2⟩ := VT.toFrz r1 t
  have e2 : Ext G1 io1 G2 io1 := ⟨g2, List.prefix_rfl⟩
  refine ⟨G2, io1, s1, r2, ((Aft.bnd p).up e2).mono fun vs G3 io3 s3 H3 r3 e3 p3 ws hw => ?_⟩
  have hb := VT.noOwn t2
  refine p3 G3 io3 H3 r3 (Ext.refl _ _) (w :: ws) ⟨⟨?_, hb.2⟩, hw⟩
  have q : VBs Z.K G2 H1 io1 [w] [frz v] := ⟨hb, trivial⟩
  exact (VBs.mono (H' := H3) e3.g (fun _ _ _ => trivial) e3.io q).1.1
theorem VBs.drs {K : PySem.W.Frag} : ∀ {ws : List V} {vs : List Val} {ds : List PyData}, VBs K G H io ws vs → toDs vs = some ds → DRs K G ws ds
  | [], [], ds, _, e => by cases e; exact .nil
  | w :: ws, v :: vs, ds, h, e => by
    cases v with
    | dat d =>
      have e' : (toDs vs).map (d :: ·) = some ds := e
      cases q : toDs vs with
      | none => rw [q] at e'; cases e'
      | some ds' =>
        rw [q] at e'
        cases e'
        exact .cons h.1.1 (VBs.drs h.2 q)
    | own xs => cases e
    | scr ns => cases e
    | obj n => cases e
    | exn n => cases e
  | [], _ :: _, _, h, _ => h.elim
  | _ :: _, [], _, h, _ => h.elim
theorem VBs.length {K : PySem.W.Frag} : ∀ {ws : List V} {vs : List Val}, VBs K G H io ws vs → ws.length = vs.length
  | [], [], _ => rfl
  | _ :: _, _ :: _, h => congrArg (· + 1) (VBs.length h.2)
  | [], _ :: _, h => h.elim
  | _ :: _, [], h => h.elim
theorem mArgs_len : ∀ {fs : List (M Val)} {cs : Cs} {s s' : S} {vs : List Val}, mArgs fs cs s = .ok vs s' → vs.length = fs.length
  | [], _, _, _, _, h => by cases h; rfl
  | f :: fs, cs, s, s', vs, h => by
    unfold mArgs at h
    cases e : f cs s with
    | no => rw [e] at h; cases h
    | ex _ _ => rw [e] at h; cases h
    | ok v s1 =>
      rw [e] at h
      simp only [R.bnd_ok] at h
      cases e2 : mArgs fs cs s1 with
      | no => rw [e2] at h; cases h
      | ex _ _ => rw [e2] at h; cases h
      | ok vs' s2 =>
        rw [e2] at h
        simp only [R.bnd_ok] at h
        cases h
        exact congrArg (· + 1) (mArgs_len e2)
/-- (a, b, ..) -/
theorem den_tup {fs : List (M Val)} {Q : VK} (hl : fs.length ≤ big) (h : denV Z cs (mTup fs) W σ H Q) : tTup (denA Z cs (mArgs fs) W) σ H Q := by
  obtain ⟨G, io, s, r, h⟩ := h
  have hl' : fs.length ≤ sizeLine := by rw [sizeLine_eq]; exact hl
  refine ⟨G, io, s, r, ?_⟩
  have h1 := Aft.bnd h
  cases e : mArgs fs cs s with
  | no => rw [e] at h1; exact h1.elim
  | ex x s' => rw [e] at h1; exact h1
  | ok vs s' =>
    rw [e] at h1
    intro G' io' H' r' e' ws hw
    have h2 := h1 G' io' H' r' e'
    cases q : toDs vs with
    | none => simp only [q] at h2; exact h2.elim
    | some ds =>
      simp only [q] at h2
      have hd := VBs.drs hw q
      refine ⟨by rw [VBs.length hw, mArgs_len e]; exact hl', fun p hp => ?_⟩
      have r2 := r'.newG hp (.tup ws)
      have g2 : Sub G' (upd G' p (.tup ws)) := Sub.upd (r'.gnone hp)
      exact h2 _ io' _ r2 ⟨g2, List.prefix_rfl⟩ _ (.dat (.tup (SqT.of upd_same) (DRs.mono g2 _ _ hd)))
/-- [a, b, ..] -/
theorem den_lst {fs : List (M Val)} {Q : VK} (hl : fs.length ≤ big) (h : denV Z cs (mLst fs) W σ H Q) : tLst (denA Z cs (mArgs fs) W) σ H Q := by
  obtain ⟨G, io, s, r, h⟩ := h
  have hl' : fs.length ≤ sizeLine := by rw [sizeLine_eq]; exact hl
  refine ⟨G, io, s, r, ?_⟩
  have h1 := Aft.bnd h
  cases e : mArgs fs cs s with
  | no => rw [e] at h1; exact h1.elim
  | ex x s' => rw [e] at h1; exact h1
  | ok vs s' =>
    rw [e] at h1
    intro G' io' H' r' e' ws hw
    have h2 := h1 G' io' H' r' e'
    cases q : toDs vs with
    | none => simp only [q] at h2; exact h2.elim
    | some ds =>
      simp only [q] at h2
      have hd := VBs.drs hw q
      refine ⟨by rw [VBs.length hw, mArgs_len e]; exact hl', fun p hp => ?_⟩
      exact h2 _ io' _ (r'.new hp (.lst ws)) (Ext.refl _ _) _ (VT.newL r' hp hd)

/-! ### operands -/
def tOpd (Z : Sur) (cs : Cs) (W : WX) : Opd → TE
  | .pk i => tVar i
  | .ev f => denV Z cs f W
theorem seeVB {w : V} {v : Val} (r : SR Z G io σ s H) (b : VB Z.K G H io w v) : VB Z.K G H io w (see s.ob v) := by
  cases v with
  | obj n =>
    obtain ⟨a, rfl, hi⟩ := b
    show VB Z.K G H io (.ref a) (match s.ob[n]? with | some (.lst xs) => .own xs | _ => .obj n)
    cases e : s.ob[n]? with
    | none => exact ⟨a, rfl, hi⟩
    | some o =>
      cases o with
      | lst xs =>
        obtain ⟨vs, h1, h2⟩ := r.ob n a _ hi e
        exact ⟨a, vs, rfl, h1, h2⟩
      | dct kvs => exact ⟨a, rfl, hi⟩
      | ins c fs => exact ⟨a, rfl, hi⟩
      | mix us => exact ⟨a, rfl, hi⟩
  | dat d => exact b
  | own xs => exact b
  | scr ns => exact b
  | exn e => exact b
theorem opd1 {β : Type} {a : Opd} {k : Val → S → R β} {P : Po β} (r : SR Z G io σ s H) (h : Aft Z σ G io W P (ev1 a k cs s)) :
    tOpd Z cs W a σ H fun w H1 => ∃ v G1 io1 s1, SR Z G1 io1 σ s1 H1 ∧ Ext G io G1 io1 ∧ VB Z.K G1 H1 io1 w v ∧ Aft Z σ G1 io1 W P (k v s1) := by
  cases a with
  | pk i =>
    have h' : Aft Z σ G io W P (match s.at_ i with | some x => k (see s.ob x) s | none => .no) := h
    cases e : s.at_ i with
    | none => rw [e] at h'; exact h'.elim
    | some v =>
      rw [e] at h'
      obtain ⟨w, ew, b⟩ := r.slot i v e
      exact ⟨w, ew, see s.ob v, G, io, s, r, Ext.refl _ _, seeVB r b, h'⟩
  | ev f =>
    have h' : Aft Z σ G io W P ((f cs s).bnd fun x s1 => k (see s1.ob (frz x)) s1) := h
    refine denV.of r (Aft.bnd h') fun v G1 io1 s1 H1 r1 e1 p w t => ?_
    obtain ⟨G2, g2, r2, t2⟩ := VT.toFrz r1 t
    have e2 : Ext G1 io1 G2 io1 := ⟨g2, List.prefix_rfl⟩
    exact ⟨see s1.ob (frz v), G2, io1, s1, r2, e1.trans e2, seeVB r2 t2.1, p.up e2⟩
theorem VB.up {K : PySem.W.Frag} {G' H' : Hp} {w : V} {v : Val} (h : VB K G H io w v) (n : ∀ xs, v ≠ .own xs) (e : Ext G io G' io') : VB K G' H' io' w v := by
  have q : VBs K G H io [w] [v] := ⟨⟨h, n⟩, trivial⟩
  exact (VBs.mono (H' := H') e.g (fun _ _ _ => trivial) e.io q).1.1
theorem opd2 {β : Type} {a b : Opd} {k : Val → Val → S → R β} {P : Po β} (r : SR Z G io σ s H) (h : Aft Z σ G io W P (ev2 a b k cs s)) :
    tOpd Z cs W a σ H fun w H1 => tOpd Z cs W b σ H1 fun w' H2 => ∃ v v' G2 io2 s2, SR Z G2 io2 σ s2 H2 ∧ Ext G io G2 io2 ∧ VB Z.K G2 H2 io2 w v ∧ VB Z.K G2 H2 io2 w' v' ∧ Aft Z σ G2 io2 W P (k v v' s2) := by
  cases a with
  | pk i =>
    have h0 : Aft Z σ G io W P (match s.at_ i with | some _ => ev1 b (fun y s2 => match s2.at_ i with | some x => k (see s2.ob x) y s2 | none => .no) cs s | none => .no) := h
    cases e0 : s.at_ i with
    | none => rw [e0] at h0; exact h0.elim
    | some x0 =>
    rw [e0] at h0
    have h' : Aft Z σ G io W P (ev1 b (fun y s2 => match s2.at_ i with | some x => k (see s2.ob x) y s2 | none => .no) cs s) := h0
    obtain ⟨w, ew, _⟩ := r.slot i x0 e0
    refine ⟨w, ew, ?_⟩
    -- the name's value is looked at behind the second one
    have fin : ∀ w' H2, (∃ v' G3 io3 s3, SR Z G3 io3 σ s3 H2 ∧ Ext G io G3 io3 ∧ VB Z.K G3 H2 io3 w' v' ∧ Aft Z σ G3 io3 W P (match s3.at_ i with | some x => k (see s3.ob x) v' s3 | none => .no)) →
        ∃ v0 v' G3 io3 s3, SR Z G3 io3 σ s3 H2 ∧ Ext G io G3 io3 ∧ VB Z.K G3 H2 io3 w v0 ∧ VB Z.K G3 H2 io3 w' v' ∧ Aft Z σ G3 io3 W P (k v0 v' s3) := fun w' H2 ⟨v', G3, io3, s3, r3, e3, b3, p3⟩ => by
      cases e : s3.at_ i with
      | none => rw [e] at p3; exact p3.elim
      | some x =>
        rw [e] at p3
        obtain ⟨w2, ew2, bx⟩ := r3.slot i x e
        rw [ew] at ew2
        have ew2 : w = w2 := Option.some.inj (Option.some.inj ew2)
        subst ew2
        exact ⟨see s3.ob x, v', G3, io3, s3, r3, e3, seeVB r3 bx, b3, p3⟩
    have t3 := opd1 r h'
    cases b with
    | pk j =>
      obtain ⟨w', ew', q⟩ := t3
      exact ⟨w', ew', fin _ _ q⟩
    | ev g =>
      obtain ⟨G0, io0, s0, r0, q0⟩ := t3
      exact ⟨G0, io0, s0, r0, q0.mono fun a G' io' s' H' _ _ q w' t' => fin _ _ (q w' t')⟩
  | ev f =>
    have h' : Aft Z σ G io W P ((f cs s).bnd fun x s1 => ev1 b (fun y s2 => k (see s2.ob (frz x)) y s2) cs s1) := h
    refine denV.of r (Aft.bnd h') fun v G1 io1 s1 H1 r1 e1 p w t => ?_
    obtain ⟨G2, g2, r2, t2⟩ := VT.toFrz r1 t
    have e2 : Ext G1 io1 G2 io1 := ⟨g2, List.prefix_rfl⟩
    have hb := VT.noOwn t2
    have t3 := opd1 r2 (p.up e2)
    have fin : ∀ w' H2, (∃ v' G3 io3 s3, SR Z G3 io3 σ s3 H2 ∧ Ext G2 io1 G3 io3 ∧ VB Z.K G3 H2 io3 w' v' ∧ Aft Z σ G3 io3 W P (k (see s3.ob (frz v)) v' s3)) →
        ∃ v0 v' G3 io3 s3, SR Z G3 io3 σ s3 H2 ∧ Ext G io G3 io3 ∧ VB Z.K G3 H2 io3 w v0 ∧ VB Z.K G3 H2 io3 w' v' ∧ Aft Z σ G3 io3 W P (k v0 v' s3) := fun w' H2 ⟨v', G3, io3, s3, r3, e3, b3, p3⟩ =>
      ⟨see s3.ob (frz v), v', G3, io3, s3, r3, e1.trans (e2.trans e3), seeVB r3 (VB.up hb.1 hb.2 e3), b3, p3⟩
    cases b with
    | pk j =>
      obtain ⟨w', ew', q⟩ := t3
      exact ⟨w', ew', fin _ _ q⟩
    | ev g =>
      obtain ⟨G0, io0, s0, r0, q0⟩ := t3
      exact ⟨G0, io0, s0, r0, q0.mono fun a G' io' s' H' _ _ q w' t' => fin _ _ (q w' t')⟩
end
end CH

/-! CH2: the operations on values, each with the layer's rule. -/
namespace CH
open PySem L2

theorem big_eq : sizeLine = big := sizeLine_eq

/-! ### results -/
/-- r is what comes: whatever stands for it, Q holds -/
def Rs (Z : Sur) (Q : VK) (G : Hp) (io : List Addr) (H : Hp) (r : Val) : Prop :=
  ∃ σ s, SR Z G io σ s H ∧ ∀ G' io' H', SR Z G' io' σ s H' → Ext G io G' io' → ∀ w, VT Z G' io' σ s H' w r → Q w H'
section
variable {Z : Sur} {Q : VK} {G H : Hp} {io : List Addr} {r : Val} {w : V}
theorem Rs.sub (h : Rs Z Q G io H r) : Sub G H := let ⟨_, _, a, _⟩ := h; a.sub
theorem Rs.dat {d : PyData} (h : Rs Z Q G io H (.dat d)) (hd : DR Z.K G w d) : Q w H := by
  obtain ⟨σ, s, a, q⟩ := h
  exact q G io H a (Ext.refl _ _) w (.dat hd)
theorem Rs.newT {vs : List V} {ds : List PyData} (h : Rs Z Q G io H (.dat (.tuple ds))) (hd : DRs Z.K G vs ds) : ∀ p, H p = none → Q (.ref p) (upd H p (.tup vs)) := by
  obtain ⟨σ, s, a, q⟩ := h
  intro p hp
  have g2 : Sub G (upd G p (.tup vs)) := Sub.upd (a.gnone hp)
  exact q _ io _ (a.newG hp (.tup vs)) ⟨g2, List.prefix_rfl⟩ _ (.dat (.tup (SqT.of upd_same) (DRs.mono g2 _ _ hd)))
theorem Rs.newL {vs : List V} {ds : List PyData} (h : Rs Z Q G io H (.own ds)) (hd : DRs Z.K G vs ds) : ∀ p, H p = none → Q (.ref p) (upd H p (.lst vs)) := by
  obtain ⟨σ, s, a, q⟩ := h
  intro p hp
  exact q _ io _ (a.new hp (.lst vs)) (Ext.refl _ _) _ (VT.newL a hp hd)
end

/-! ### values seen -/
def asL : Val → Option (List PyData)
  | .own xs => some xs
  | .dat (.list xs) => some xs
  | _ => none
section
variable {Z : Sur} {Q : VK} {G H : Hp} {io : List Addr} {w : V} {v : Val}
theorem VB.asL {xs : List PyData} (b : VB Z.K G H io w v) (e : CH.asL v = some xs) (g : Sub G H) : ∃ a vs, w = .ref a ∧ H a = some (.lst vs) ∧ DRs Z.K G vs xs := by
  cases v with
  | own ys => cases e; exact b
  | dat d =>
    cases d with
    | list ys =>
      have e' : ys = xs := Option.some.inj e
      subst e'
      have b' : DR Z.K G w (.list ys) := b
      cases b' with
      | lst h1 h2 => exact ⟨_, _, rfl, g _ _ h1, h2⟩
    | none => cases e
    | bool _ => cases e
    | int _ => cases e
    | str _ => cases e
    | tuple _ => cases e
    | dict _ => cases e
  | scr ns => cases e
  | obj n => cases e
  | exn n => cases e
theorem DR.int_ {i : Int} {K : PySem.W.Frag} (h : DR K G w (.int i)) : w = .int i := by cases h; rfl
theorem DR.bl_ {b : Bool} {K : PySem.W.Frag} (h : DR K G w (.bool b)) : w = .bl b := by cases h; rfl
theorem DR.str_ {x : Str} {K : PySem.W.Frag} (h : DR K G w (.str x)) : w = .str x ∧ PyData.strOk x = true := by
  cases h with | str _ q => exact ⟨rfl, q⟩
theorem DR.tup_ {ds : List PyData} {K : PySem.W.Frag} (h : DR K G w (.tuple ds)) : ∃ a vs, w = .ref a ∧ SqT K G a vs ∧ DRs K G vs ds := by
  cases h with | tup h1 h2 => exact ⟨_, _, rfl, h1, h2⟩
theorem VB.toD {d : PyData} (b : VB Z.K G H io w v) (e : CH.toD v = some d) (g : Sub G H) : Dp Z.K H w d ∧ d.canLay0 = true := by
  cases v with
  | own ys =>
    cases e
    obtain ⟨a, vs, rfl, h1, h2⟩ := b
    exact ⟨.lst (SqL.of h1) (DRs.dp _ _ (DRs.mono g _ _ h2)), DRs.lay _ _ h2⟩
  | dat d => cases e; exact ⟨DR.dp _ _ (DR.mono g _ _ b), DR.lay _ _ b⟩
  | scr ns => cases e
  | obj n => cases e
  | exn n => cases e
end
theorem strOk_iff {x : Str} : PyData.strOk x = true ↔ ∀ c ∈ x.cps.toList, c < 0x110000 := by
  unfold PyData.strOk
  rw [← Array.all_toList, List.all_eq_true]
  exact ⟨fun h c hc => of_decide_eq_true (h c hc), fun h c hc => decide_eq_true (h c hc)⟩
theorem strOk_append {x y : Str} (h1 : PyData.strOk x = true) (h2 : PyData.strOk y = true) : PyData.strOk (x ++ y) = true := by
  rw [strOk_iff] at *
  intro c hc
  have : c ∈ (x.cps ++ y.cps).toList := hc
  rw [Array.toList_append, List.mem_append] at this
  rcases this with h | h
  · exact h1 c h
  · exact h2 c h
theorem strOk_of {x : Str} (h : PyData.strOk x = true) {l : List Nat} (hl : ∀ c ∈ l, c ∈ x.cps.toList) : PyData.strOk ⟨l.toArray⟩ = true := by
  rw [strOk_iff] at *
  intro c hc
  exact h c (hl c (by simpa using hc))

/-! ### binary operators -/
def vAdd : Val → Val → Option Val
  | .dat (.int i), .dat (.int j) => some (.dat (.int (i + j)))
  | .dat (.str x), .dat (.str y) => if x.length + y.length ≤ big then some (.dat (.str (x ++ y))) else none
  | .dat (.tuple xs), .dat (.tuple ys) => if xs.length + ys.length ≤ big then some (.dat (.tuple (xs ++ ys))) else none
  | a, b => match asL a, asL b with
    | some xs, some ys => if xs.length + ys.length ≤ big then some (.own (xs ++ ys)) else none
    | _, _ => none
def vSub : Val → Val → Option Val
  | .dat (.int i), .dat (.int j) => some (.dat (.int (i - j)))
  | _, _ => none
def rep (n : Nat) (x : Str) : Str := ⟨(List.replicate n x.cps.toList).flatten.toArray⟩
def vMul : Val → Val → Option Val
  | .dat (.int i), .dat (.int j) => if i.natAbs < 18446744073709551616 ∨ j.natAbs < 18446744073709551616 then some (.dat (.int (i * j))) else none
  | .dat (.str x), .dat (.int j) => if 0 ≤ j ∧ j ≤ 1000 ∧ x.length ≤ 1000 then some (.dat (.str (rep j.toNat x))) else none
  | .dat (.tuple xs), .dat (.int j) => if xs ≠ [] ∧ 2 ≤ j ∧ j ≤ 1000 ∧ xs.length ≤ 1000 then some (.dat (.tuple (List.replicate j.toNat xs).flatten)) else none
  | a, .dat (.int j) => match asL a with
    | some xs => if 0 ≤ j ∧ j ≤ 1000 ∧ xs.length ≤ 1000 then some (.own (List.replicate j.toNat xs).flatten) else none
    | none => none
  | _, _ => none
def vDiv : Val → Val → Option Val
  | .dat (.int i), .dat (.int j) => if 0 < j ∧ j < 1073741824 then some (.dat (.int (i / j))) else none
  | _, _ => none
def vMod : Val → Val → Option Val
  | .dat (.int i), .dat (.int j) => if 0 < j then some (.dat (.int (i % j))) else none
  | _, _ => none
def vPow : Val → Val → Option Val
  | .dat (.int i), .dat (.int j) => if 0 ≤ j ∧ j ≤ 1000000 ∧ i.natAbs < 2 ^ 64 then some (.dat (.int (i ^ j.toNat))) else none
  | _, _ => none
def vBin : Operator → Val → Val → Option Val
  | .Add => vAdd
  | .Sub => vSub
  | .Mult => vMul
  | .FloorDiv => vDiv
  | .Mod => vMod
  | .Pow => vPow
  | _ => fun _ _ => none

/-- the reading of an operation on two values -/
def rB (Z : Sur) (op : Val → Val → Option Val) : R2 := fun x y H Q => ∃ v v' r G io, VB Z.K G H io x v ∧ VB Z.K G H io y v' ∧ op v v' = some r ∧ Rs Z Q G io H r
def rU1 (Z : Sur) (op : Val → Option Val) : V → Hp → VK → Prop := fun x H Q => ∃ v r G io, VB Z.K G H io x v ∧ op v = some r ∧ Rs Z Q G io H r
section
variable {Z : Sur} {cs : Cs} {σ : St} {G H : Hp} {io : List Addr} {W : WX} {s : S} {X : Cx}
theorem den_bin {op : Cs → Val → Val → Option Val} {a b : Opd} {Q : VK} (h : denV Z cs (mBin op a b) W σ H Q) : tOp (rB Z (op cs)) (tOpd Z cs W a) (tOpd Z cs W b) σ H Q := by
  obtain ⟨G, io, s, r, h⟩ := h
  have t := opd2 r h
  have fin : ∀ w w' H2, (∃ v v' G2 io2 s2, SR Z G2 io2 σ s2 H2 ∧ Ext G io G2 io2 ∧ VB Z.K G2 H2 io2 w v ∧ VB Z.K G2 H2 io2 w' v' ∧ Aft Z σ G2 io2 W (pV Z σ Q) (giv s2 (op cs v v'))) → rB Z (op cs) w w' H2 Q := by
    rintro w w' H2 ⟨v, v', G2, io2, s2, r2, e2, b1, b2, p⟩
    cases e : op cs v v' with
    | none => rw [e] at p; exact p.elim
    | some x =>
      rw [e] at p
      exact ⟨v, v', x, G2, io2, b1, b2, e, σ, s2, r2, fun G' io' H' r' e' w t => p G' io' H' r' e' w t⟩
  cases a with
  | pk i =>
    obtain ⟨w, ew, t⟩ := t
    refine ⟨w, ew, ?_⟩
    cases b with
    | pk j => obtain ⟨w', ew', t⟩ := t; exact ⟨w', ew', fin _ _ _ t⟩
    | ev g =>
      obtain ⟨G0, io0, s0, r0, q0⟩ := t
      exact ⟨G0, io0, s0, r0, q0.mono fun _ _ _ _ _ _ _ q w' t' => fin _ _ _ (q w' t')⟩
  | ev f =>
    obtain ⟨G0, io0, s0, r0, q0⟩ := t
    refine ⟨G0, io0, s0, r0, q0.mono fun v1 G1 io1 s1 H1 r1 e1 q w t' => ?_⟩
    have q' := q w t'
    cases b with
    | pk j => obtain ⟨w', ew', t⟩ := q'; exact ⟨w', ew', fin _ _ _ t⟩
    | ev g =>
      obtain ⟨G2, io2, s2, r2, q2⟩ := q'
      exact ⟨G2, io2, s2, r2, q2.mono fun _ _ _ _ _ _ _ q w' t' => fin _ _ _ (q w' t')⟩
theorem den_un {op : Cs → Val → Option Val} {a : Opd} {Q : VK} (h : denV Z cs (mUn op a) W σ H Q) : tUn (rU1 Z (op cs)) (tOpd Z cs W a) σ H Q := by
  obtain ⟨G, io, s, r, h⟩ := h
  have t := opd1 r h
  have fin : ∀ w H2, (∃ v G2 io2 s2, SR Z G2 io2 σ s2 H2 ∧ Ext G io G2 io2 ∧ VB Z.K G2 H2 io2 w v ∧ Aft Z σ G2 io2 W (pV Z σ Q) (giv s2 (op cs v))) → rU1 Z (op cs) w H2 Q := by
    rintro w H2 ⟨v, G2, io2, s2, r2, e2, b1, p⟩
    cases e : op cs v with
    | none => rw [e] at p; exact p.elim
    | some x =>
      rw [e] at p
      exact ⟨v, x, G2, io2, b1, e, σ, s2, r2, fun G' io' H' r' e' w t => p G' io' H' r' e' w t⟩
  cases a with
  | pk i =>
    obtain ⟨w, ew, t⟩ := t
    exact ⟨w, ew, fin _ _ t⟩
  | ev f =>
    obtain ⟨G0, io0, s0, r0, q0⟩ := t
    exact ⟨G0, io0, s0, r0, q0.mono fun v1 G1 io1 s1 H1 r1 e1 q w t' => fin _ _ (q w t')⟩
end

section
variable {Z : Sur} {X : Cx}
theorem opv_add (hK : X.K = Z.K) : OpR X (binaryOp .Add) (rB Z vAdd) := by
  intro pins s σ H x y v u Q I rx ry ⟨a, b, r, G, io, hx, hy, e, q⟩
  have g := q.sub
  unfold vAdd at e
  split at e
  · cases e
    cases DR.int_ hx
    cases DR.int_ hy
    exact op_add pins s σ H _ _ v u Q I rx ry ⟨_, _, rfl, rfl, q.dat (.int _)⟩
  · rename_i x1 y1
    split at e
    · rename_i hz
      cases e
      obtain ⟨rfl, o1⟩ := DR.str_ hx
      obtain ⟨rfl, o2⟩ := DR.str_ hy
      exact op_add_str pins s σ H _ _ v u Q I rx ry ⟨_, _, rfl, rfl, by rw [big_eq]; exact hz, q.dat (.str _ (strOk_append o1 o2))⟩
    · cases e
  · rename_i xs ys
    split at e
    · rename_i hz
      cases e
      obtain ⟨a1, v1, rfl, t1, d1⟩ := DR.tup_ hx
      obtain ⟨a2, v2, rfl, t2, d2⟩ := DR.tup_ hy
      have l1 := d1.length
      have l2 := d2.length
      refine op_catA pins s σ H _ _ v u Q I rx ry ⟨a1, a2, v1, v2, rfl, rfl, by rw [hK]; exact g.sqT t1, by rw [hK]; exact g.sqT t2, by rw [big_eq, l1, l2]; exact hz, fun h => ?_, fun _ h => ?_, fun _ _ => q.newT (d1.append d2)⟩
      · subst h
        cases d1
        exact q.dat (.tup t2 d2)
      · subst h
        cases d2
        rw [List.append_nil] at q
        exact q.dat (.tup t1 d1)
    · cases e
  · split at e
    · rename_i xs ys e1 e2
      split at e
      · rename_i hz
        cases e
        obtain ⟨a1, v1, rfl, h1, d1⟩ := hx.asL e1 g
        obtain ⟨a2, v2, rfl, h2, d2⟩ := hy.asL e2 g
        exact op_cat pins s σ H _ _ v u Q I rx ry ⟨a1, a2, v1, v2, rfl, rfl, h1, h2, by rw [big_eq, d1.length, d2.length]; exact hz, q.newL (d1.append d2)⟩
      · cases e
    · cases e
theorem opv_sub : OpR X (binaryOp .Sub) (rB Z vSub) := by
  intro pins s σ H x y v u Q I rx ry ⟨a, b, r, G, io, hx, hy, e, q⟩
  unfold vSub at e
  split at e
  · cases e
    cases DR.int_ hx
    cases DR.int_ hy
    exact op_sub pins s σ H _ _ v u Q I rx ry ⟨_, _, rfl, rfl, q.dat (.int _)⟩
  · cases e
theorem opv_div : OpR X (binaryOp .FloorDiv) (rB Z vDiv) := by
  intro pins s σ H x y v u Q I rx ry ⟨a, b, r, G, io, hx, hy, e, q⟩
  unfold vDiv at e
  split at e
  · split at e
    · rename_i hc
      cases e
      cases DR.int_ hx
      cases DR.int_ hy
      exact op_fdiv pins s σ H _ _ v u Q I rx ry ⟨_, _, rfl, rfl, hc, q.dat (.int _)⟩
    · cases e
  · cases e
theorem opv_mod : OpR X (binaryOp .Mod) (rB Z vMod) := by
  intro pins s σ H x y v u Q I rx ry ⟨a, b, r, G, io, hx, hy, e, q⟩
  unfold vMod at e
  split at e
  · split at e
    · rename_i hc
      cases e
      cases DR.int_ hx
      cases DR.int_ hy
      exact op_mod pins s σ H _ _ v u Q I rx ry ⟨_, _, rfl, rfl, hc, q.dat (.int _)⟩
    · cases e
  · cases e
theorem opv_pow : OpR X (binaryOp .Pow) (rB Z vPow) := by
  intro pins s σ H x y v u Q I rx ry ⟨a, b, r, G, io, hx, hy, e, q⟩
  unfold vPow at e
  split at e
  · split at e
    · rename_i hc
      cases e
      cases DR.int_ hx
      cases DR.int_ hy
      exact op_pow pins s σ H _ _ v u Q I rx ry ⟨_, _, rfl, rfl, hc, q.dat (.int _)⟩
    · cases e
  · cases e
theorem foldl_repN (l : Array Nat) : ∀ (k : Nat) (acc : Array Nat), (List.replicate k l).foldl (· ++ ·) acc = acc ++ (List.replicate k l.toList).flatten.toArray
  | 0, acc => by simp
  | k + 1, acc => by
    rw [List.replicate_succ, List.foldl_cons, foldl_repN l k, List.replicate_succ, List.flatten_cons]
    apply Array.ext'
    simp
theorem rep_eq (n : Nat) (x : Str) : (⟨(List.replicate n x.cps).foldl (· ++ ·) #[]⟩ : Str) = rep n x := by
  unfold rep
  rw [foldl_repN]
  simp
theorem rep_ok {n : Nat} {x : Str} (h : PyData.strOk x = true) : PyData.strOk (rep n x) = true := by
  refine strOk_of h fun c hc => ?_
  rw [List.mem_flatten] at hc
  obtain ⟨l, hl, hc⟩ := hc
  rw [(List.mem_replicate.mp hl).2] at hc
  exact hc
theorem opv_mul (hK : X.K = Z.K) : OpR X (binaryOp .Mult) (rB Z vMul) := by
  intro pins s σ H x y v u Q I rx ry ⟨a, b, r, G, io, hx, hy, e, q⟩
  have g := q.sub
  unfold vMul at e
  split at e
  · split at e
    · rename_i i j hc
      cases e
      cases DR.int_ hx
      cases DR.int_ hy
      have hc' : (-(2 ^ 64) < i ∧ i < 2 ^ 64) ∨ (-(2 ^ 64) < j ∧ j < 2 ^ 64) := by
        rcases hc with h | h
        · left; omega
        · right; omega
      exact op_mul pins s σ H _ _ v u Q I rx ry ⟨_, _, rfl, rfl, hc', q.dat (.int _)⟩
    · cases e
  · rename_i z j
    split at e
    · rename_i hc
      cases e
      obtain ⟨h1, h2, h3⟩ := hc
      obtain ⟨rfl, o1⟩ := DR.str_ hx
      cases DR.int_ hy
      obtain ⟨t, rfl⟩ := rx
      obtain ⟨t', rfl⟩ := ry
      have q1 := q.dat (w := .str (rep j.toNat z)) (.str _ (rep_ok o1))
      have hzl : z.length * j.toNat ≤ 1000000 := Nat.mul_le_mul h3 (by omega : j.toNat ≤ 1000)
      refine PySem.P.mul_str ?_ (fun k1 k2 => ?_) (fun k1 k2 => ?_) ?_
      · rw [decide_eq_false (by omega), decide_eq_false (by omega)]; rfl
      · have : (2 ^ 63 - 1) / j ≥ (2 ^ 63 - 1) / 1000 := by
          have hj : 0 < j := by omega
          rw [ge_iff_le, Int.le_ediv_iff_mul_le hj]
          have : (2 ^ 63 - 1 : Int) / 1000 * j ≤ (2 ^ 63 - 1) / 1000 * 1000 := Int.mul_le_mul_of_nonneg_left h2 (by decide)
          omega
        omega
      · unfold Builtin.Str.tooLong
        rw [decide_eq_false]
        rw [sizeLine_eq]
        omega
      · by_cases k1 : j < 1
        · rw [if_pos k1]
          have j0 : j = 0 := by omega
          subst j0
          refine ⟨by decide, .str _, H, I.tok _, ⟨_, rfl⟩, ?_⟩
          have e0 : rep (0 : Int).toNat z = Str.empty := by unfold rep; rfl
          rw [e0] at q1
          exact q1
        · rw [if_neg k1]
          by_cases k2 : (j == 1 || z.length == 0) = true
          · rw [if_pos k2]
            refine ⟨.str z, H, I, ⟨t, rfl⟩, ?_⟩
            have e0 : rep j.toNat z = z := by
              unfold rep
              rcases (Bool.or_eq_true _ _).mp k2 with z1 | z1
              · have z1 : j = 1 := by simpa using z1
                subst z1
                show (⟨(List.replicate 1 z.cps.toList).flatten.toArray⟩ : Str) = z
                simp
              · have z1 : z.cps.size = 0 := by simpa [Str.length] using z1
                have z2 : z.cps = #[] := Array.eq_empty_of_size_eq_zero z1
                obtain ⟨zc⟩ := z
                simp only at z2
                subst z2
                simp
            rw [e0] at q1
            exact q1
          · rw [if_neg k2]
            have e0 := rep_eq j.toNat z
            rw [e0]
            refine ⟨?_, .str _, H, I.tok _, ⟨_, rfl⟩, q1⟩
            have : (rep j.toNat z).length = z.length * j.toNat := by
              unfold rep Str.length
              rw [List.size_toArray, List.length_flatten, List.map_replicate]
              simp [Nat.mul_comm]
            rw [this, sizeLine_eq]
            omega
    · cases e
  · rename_i xs j
    split at e
    · rename_i hc
      cases e
      obtain ⟨h0, h1, h2, h3⟩ := hc
      obtain ⟨a1, v1, rfl, t1, d1⟩ := DR.tup_ hx
      cases DR.int_ hy
      exact op_repT pins s σ H _ _ v u Q I rx ry ⟨a1, j, v1, rfl, rfl, by rw [hK]; exact g.sqT t1, fun z => h0 (List.eq_nil_of_length_eq_zero (by rw [← d1.length, z]; rfl)), h1, h2, by rw [d1.length]; exact h3, q.newT (d1.flat _)⟩
    · cases e
  · rename_i a j hn1 hn2 hn3
    split at e
    · rename_i xs e1
      split at e
      · rename_i hc
        cases e
        obtain ⟨h1, h2, h3⟩ := hc
        obtain ⟨a1, v1, rfl, p1, d1⟩ := hx.asL e1 g
        cases DR.int_ hy
        have hvl : v1.length ≤ 1000 := by rw [d1.length]; exact h3
        have hzl : v1.length * j.toNat ≤ 1000000 := Nat.mul_le_mul hvl (by omega : j.toNat ≤ 1000)
        exact op_rep pins s σ H _ _ v u Q I rx ry ⟨a1, j, v1, rfl, rfl, p1, by omega, by omega, by rw [sizeLine_eq]; omega, q.newL (d1.flat _)⟩
      · cases e
    · cases e
  · cases e
theorem opv_bin (hK : X.K = Z.K) (o : Operator) : OpR X (binaryOp o) (rB Z (vBin o)) := by
  cases o with
  | Add => exact opv_add hK
  | Sub => exact opv_sub
  | Mult => exact opv_mul hK
  | FloorDiv => exact opv_div
  | Mod => exact opv_mod
  | Pow => exact opv_pow
  | MatMult => intro pins s σ H x y v u Q I rx ry ⟨a, b, r, G, io, hx, hy, e, q⟩; cases e
  | Div => intro pins s σ H x y v u Q I rx ry ⟨a, b, r, G, io, hx, hy, e, q⟩; cases e
  | LShift => intro pins s σ H x y v u Q I rx ry ⟨a, b, r, G, io, hx, hy, e, q⟩; cases e
  | RShift => intro pins s σ H x y v u Q I rx ry ⟨a, b, r, G, io, hx, hy, e, q⟩; cases e
  | BitOr => intro pins s σ H x y v u Q I rx ry ⟨a, b, r, G, io, hx, hy, e, q⟩; cases e
  | BitXor => intro pins s σ H x y v u Q I rx ry ⟨a, b, r, G, io, hx, hy, e, q⟩; cases e
  | BitAnd => intro pins s σ H x y v u Q I rx ry ⟨a, b, r, G, io, hx, hy, e, q⟩; cases e

/-! ### comparisons -/
def rm (cs : Cs) : Nat := 200 + 16 * cs.lv
def vEq (cs : Cs) (a b : Val) : Option Bool := match toD a, toD b with
  | some d, some e => if min d.depth e.depth ≤ rm cs then some (PyData.eqv d e) else none
  | _, _ => none
def vLt : Val → Val → Option Bool
  | .dat (.int i), .dat (.int j) => some (decide (i < j))
  | .dat (.str x), .dat (.str y) => some (decide (x.cps.toList < y.cps.toList))
  | _, _ => none
def vLe : Val → Val → Option Bool
  | .dat (.int i), .dat (.int j) => some (decide (i ≤ j))
  | .dat (.str x), .dat (.str y) => some (!decide (y.cps.toList < x.cps.toList))
  | _, _ => none
def inD (cs : Cs) (d : PyData) (ds : List PyData) : Option Bool := if 1 + min (PyData.depthAll ds) d.depth ≤ rm cs then some (ds.any fun z => PyData.eqv z d) else none
def vIn (cs : Cs) (a b : Val) : Option Bool := match toD a, toD b with
  | some d, some (.list ds) => inD cs d ds
  | some d, some (.tuple ds) => inD cs d ds
  | some (.str x), some (.str z) => (match x.cps.toList with
    | [c] => some (decide (c ∈ z.cps.toList))
    | _ => none)
  | _, _ => none
def vIs : Val → Val → Option Bool
  | a, .dat .none => (match a with
    | .dat .none => some true
    | .exn _ => none
    | _ => some false)
  | .dat (.bool a), .dat (.bool b) => some (decide (a = b))
  | _, _ => none
def vCmp (cs : Cs) : CmpOp → Val → Val → Option Bool
  | .Eq, a, b => vEq cs a b
  | .NotEq, a, b => (vEq cs a b).map (!·)
  | .Lt, a, b => vLt a b
  | .LtE, a, b => vLe a b
  | .Gt, a, b => vLt b a
  | .GtE, a, b => vLe b a
  | .In, a, b => vIn cs a b
  | .NotIn, a, b => (vIn cs a b).map (!·)
  | .Is, a, b => vIs a b
  | .IsNot, a, b => (vIs a b).map (!·)
def bV : Option Bool → Option Val
  | some b => some (.dat (.bool b))
  | none => none
theorem bV_some {o : Option Bool} {r : Val} (h : bV o = some r) : ∃ b, o = some b ∧ r = .dat (.bool b) := by
  cases o with
  | none => cases h
  | some b => exact ⟨b, rfl, (Option.some.inj h).symm⟩
theorem not_some {o : Option Bool} {r : Bool} (h : o.map (!·) = some r) : ∃ b, o = some b ∧ r = !b := by
  cases o with
  | none => cases h
  | some b => exact ⟨b, rfl, (Option.some.inj h).symm⟩
theorem vEq_some {cs : Cs} {a b : Val} {k : Bool} (h : vEq cs a b = some k) : ∃ d e, toD a = some d ∧ toD b = some e ∧ min d.depth e.depth ≤ rm cs ∧ k = PyData.eqv d e := by
  unfold vEq at h
  split at h
  · rename_i d e h1 h2
    split at h
    · rename_i hz
      exact ⟨d, e, h1, h2, hz, (Option.some.inj h).symm⟩
    · cases h
  · cases h
theorem vIs_some {G H : Hp} {io : List Addr} {x y : V} {a b : Val} {k : Bool} (hx : VB Z.K G H io x a) (hy : VB Z.K G H io y b) (e : vIs a b = some k) :
    (y = .non ∧ k = decide (x = .non)) ∨ ∃ i j, x = .bl i ∧ y = .bl j ∧ k = decide (i = j) := by
  unfold vIs at e
  split at e
  · left
    have hy' : DR Z.K G y .none := hy
    cases hy'
    refine ⟨rfl, ?_⟩
    split at e
    · have hx' : DR Z.K G x .none := hx
      cases hx'
      cases e
      rfl
    · cases e
    · rename_i n1 n2
      cases e
      symm
      apply decide_eq_false
      rintro rfl
      cases a with
      | dat d =>
        have hx' : DR Z.K G .non d := hx
        cases hx'
        exact n1 rfl
      | own xs => obtain ⟨a, vs, z, _⟩ := hx; cases z
      | scr ns => obtain ⟨a, z, _⟩ := hx; cases z
      | obj n => obtain ⟨a, z, _⟩ := hx; cases z
      | exn e => exact n2 e rfl
  · right
    cases e
    cases DR.bl_ hx
    cases DR.bl_ hy
    exact ⟨_, _, rfl, rfl, rfl⟩
  · cases e
theorem opv_cmp {cs : Cs} (hK : X.K = Z.K) (hu : X.A.units + rm cs < cLine) (o : CmpOp) : OpR X (compareOp o) (rB Z fun a b => bV (vCmp cs o a b)) := by
  intro pins s σ H x y v u Q I rx ry ⟨a, b, r, G, io, hx, hy, e0, q⟩
  have g := q.sub
  obtain ⟨k, e, rfl⟩ := bV_some e0
  have fin : EP X pins σ Q (.bool k) s := ⟨.bl k, H, I, rfl, q.dat (.bl k)⟩
  have hin : ∀ k', vIn cs a b = some k' → (∀ (Q' : Value → Shared → Prop), Q' (.bool k') s → wpAny (model X.prog X.w) X.A (compareOp .In v u) Q' X.xe s) ∧ (∀ (Q' : Value → Shared → Prop), Q' (.bool (!k')) s → wpAny (model X.prog X.w) X.A (compareOp .NotIn v u) Q' X.xe s) := by
    intro k' e
    unfold vIn at e
    split at e
    · rename_i d ds h1 h2
      unfold inD at e
      split at e
      · rename_i hz
        cases e
        obtain ⟨p1, l1⟩ := hx.toD h1 g
        obtain ⟨p2, l2⟩ := hy.toD h2 g
        obtain ⟨as, r1⟩ := Dp.reads I _ x v (by rw [hK]; exact p1) rx
        obtain ⟨bs, r2⟩ := Dp.reads I _ y u (by rw [hK]; exact p2) ry
        exact ⟨fun Q' h => SeqAt.in_list_reads r2 r1 l2 l1 (by omega) h, fun Q' h => SeqAt.notIn_list_reads r2 r1 l2 l1 (by omega) h⟩
      · cases e
    · rename_i d ds h1 h2
      unfold inD at e
      split at e
      · rename_i hz
        cases e
        obtain ⟨p1, l1⟩ := hx.toD h1 g
        obtain ⟨p2, l2⟩ := hy.toD h2 g
        obtain ⟨as, r1⟩ := Dp.reads I _ x v (by rw [hK]; exact p1) rx
        obtain ⟨bs, r2⟩ := Dp.reads I _ y u (by rw [hK]; exact p2) ry
        exact ⟨fun Q' h => SeqAt.in_tuple_reads r2 r1 l2 l1 (by omega) h, fun Q' h => SeqAt.notIn_tuple_reads r2 r1 l2 l1 (by omega) h⟩
      · cases e
    · rename_i x1 z1 h1 h2
      split at e
      · rename_i c hc
        cases e
        obtain ⟨p1, _⟩ := hx.toD h1 g
        obtain ⟨p2, _⟩ := hy.toD h2 g
        cases p1
        cases p2
        have ex : x1 = ⟨#[c]⟩ := by
          obtain ⟨xc⟩ := x1
          have : xc = #[c] := Array.ext' hc
          rw [this]
        subst ex
        obtain ⟨t, rfl⟩ := rx
        obtain ⟨t', rfl⟩ := ry
        refine ⟨fun Q' h => PyProof.Rows.in_str ?_, fun Q' h => PyProof.Rows.notIn_str ?_⟩
        · rw [PySem.StrLaws.found_one z1 c]; exact h
        · rw [PySem.StrLaws.found_one z1 c]; exact h
      · cases e
    · cases e
  cases o with
  | Eq =>
    obtain ⟨d, e', h1, h2, hz, rfl⟩ := vEq_some e
    obtain ⟨p1, l1⟩ := hx.toD h1 g
    obtain ⟨p2, l2⟩ := hy.toD h2 g
    obtain ⟨as, r1⟩ := Dp.reads I _ x v (by rw [hK]; exact p1) rx
    obtain ⟨bs, r2⟩ := Dp.reads I _ y u (by rw [hK]; exact p2) ry
    exact SeqAt.compareEq_reads r1 r2 l1 l2 (by omega) fin
  | NotEq =>
    obtain ⟨k', e3, rfl⟩ := not_some e
    obtain ⟨d, e', h1, h2, hz, rfl⟩ := vEq_some e3
    obtain ⟨p1, l1⟩ := hx.toD h1 g
    obtain ⟨p2, l2⟩ := hy.toD h2 g
    obtain ⟨as, r1⟩ := Dp.reads I _ x v (by rw [hK]; exact p1) rx
    obtain ⟨bs, r2⟩ := Dp.reads I _ y u (by rw [hK]; exact p2) ry
    exact SeqAt.compareNe_reads r1 r2 l1 l2 (by omega) fin
  | Lt =>
    have e : vLt a b = some k := e
    unfold vLt at e
    split at e
    · cases e
      cases DR.int_ hx
      cases DR.int_ hy
      exact op_lt pins s σ H _ _ v u Q I rx ry ⟨_, _, rfl, rfl, q.dat (.bl _)⟩
    · cases e
      obtain ⟨rfl, _⟩ := DR.str_ hx
      obtain ⟨rfl, _⟩ := DR.str_ hy
      exact op_lt_str pins s σ H _ _ v u Q I rx ry ⟨_, _, rfl, rfl, q.dat (.bl _)⟩
    · cases e
  | LtE =>
    have e : vLe a b = some k := e
    unfold vLe at e
    split at e
    · cases e
      cases DR.int_ hx
      cases DR.int_ hy
      exact op_le pins s σ H _ _ v u Q I rx ry ⟨_, _, rfl, rfl, q.dat (.bl _)⟩
    · cases e
      obtain ⟨rfl, _⟩ := DR.str_ hx
      obtain ⟨rfl, _⟩ := DR.str_ hy
      exact op_le_str pins s σ H _ _ v u Q I rx ry ⟨_, _, rfl, rfl, q.dat (.bl _)⟩
    · cases e
  | Gt =>
    have e : vLt b a = some k := e
    unfold vLt at e
    split at e
    · cases e
      cases DR.int_ hx
      cases DR.int_ hy
      exact op_gt pins s σ H _ _ v u Q I rx ry ⟨_, _, rfl, rfl, q.dat (.bl _)⟩
    · cases e
      obtain ⟨rfl, _⟩ := DR.str_ hx
      obtain ⟨rfl, _⟩ := DR.str_ hy
      exact op_gt_str pins s σ H _ _ v u Q I rx ry ⟨_, _, rfl, rfl, q.dat (.bl _)⟩
    · cases e
  | GtE =>
    have e : vLe b a = some k := e
    unfold vLe at e
    split at e
    · cases e
      cases DR.int_ hx
      cases DR.int_ hy
      exact op_ge pins s σ H _ _ v u Q I rx ry ⟨_, _, rfl, rfl, q.dat (.bl _)⟩
    · cases e
      obtain ⟨rfl, _⟩ := DR.str_ hx
      obtain ⟨rfl, _⟩ := DR.str_ hy
      exact op_ge_str pins s σ H _ _ v u Q I rx ry ⟨_, _, rfl, rfl, q.dat (.bl _)⟩
    · cases e
  | In => exact (hin k e).1 _ fin
  | NotIn =>
    obtain ⟨k', e3, rfl⟩ := not_some e
    exact (hin k' e3).2 _ fin
  | Is =>
    have e : vIs a b = some k := e
    rcases vIs_some hx hy e with ⟨rfl, rfl⟩ | ⟨i, j, rfl, rfl, rfl⟩
    · exact op_isN pins s σ H _ _ v u Q I rx ry ⟨rfl, q.dat (.bl _)⟩
    · exact op_is_bl pins s σ H _ _ v u Q I rx ry ⟨i, j, rfl, rfl, q.dat (.bl _)⟩
  | IsNot =>
    obtain ⟨k', e3, rfl⟩ := not_some e
    rcases vIs_some hx hy e3 with ⟨rfl, rfl⟩ | ⟨i, j, rfl, rfl, rfl⟩
    · exact op_notN pins s σ H _ _ v u Q I rx ry ⟨rfl, q.dat (.bl _)⟩
    · exact op_isnot_bl pins s σ H _ _ v u Q I rx ry ⟨i, j, rfl, rfl, q.dat (.bl _)⟩
end
end CH

/-! RV: x[::-1], a list or a text. -/
namespace CH
open PySem PySem.Spec PyProof.Rows L2
def revS (z : Str) : Str := ⟨z.cps.toList.reverse.toArray⟩
theorem rev_picked (z : Str) : (Builtin.Str.strSliceIndices none none (-1) z.length).filterMap (z.cps[·]?) = z.cps.toList.reverse := by
  have e : Builtin.Str.strSliceIndices none none (-1) z.length = sliceRange ((z.cps.size : Int) - 1) (-1) (-1) := rfl
  rw [e, PySem.W.krv_sliceRange, PySem.W.krv_range, List.filterMap_reverse, PySem.W.krv_all]
section
variable {X : Cx}
def tRevLS (K : PySem.W.Frag) (te : TE) : TE := fun σ H Q => te σ H fun x H1 => (∃ a xs, x = .ref a ∧ SqL K H1 a xs ∧ ∀ p, H1 p = none → Q (.ref p) (upd H1 p (.lst xs.reverse))) ∨ (∃ z : Str, x = .str z ∧ z.length ≤ sizeLine ∧ Q (.str (revS z)) H1)
theorem pe_revLS {e : Expr} {te : TE} {k : Nat} {p1 p2 p3 pos : Pos} (he : PE X e te) : PE X (.Subscript e (.Slice none none (some (.UnaryOp .USub (.Constant (.int 1) k p1) p2)) p3) pos) (tRevLS X.K te) := by
  constructor
  intro pins s σ H Q I h
  have st : PO X (some (.UnaryOp .USub (.Constant (.int 1) k p1) p2)) (tPart (tUn (rU fun i => .int (-i)) (tC (.int 1)))) := po_some (pe_un un_neg pe_int)
  refine Subscript_ (thn (he.run pins s σ H _ I h) ?_)
  rintro v s1 ⟨x, H1, I1, r1, q1⟩
  refine wpAny_Slice (thn (po_none.run pins s1 σ H1 (fun o G => o = none ∧ G = H1) I1 ⟨rfl, rfl⟩) ?_)
  rintro vl s2 ⟨l, H2, I2, pl, rfl, rfl⟩
  refine thn (po_none.run pins s2 σ H2 (fun o G => o = none ∧ G = H2) I2 ⟨rfl, rfl⟩) ?_
  rintro vu s3 ⟨u, H3, I3, pu, rfl, rfl⟩
  refine thn (st.run pins s3 σ H3 (fun o G => o = some (-1) ∧ G = H3) I3 ⟨1, rfl, -1, rfl, rfl, rfl⟩) ?_
  rintro vs s4 ⟨o, H4, I4, ps, rfl, rfl⟩
  have I5 : Inv X pins σ H4 { s4 with heap := s4.heap.push { cls := .type "slice", data := .fields #[vl, vu, vs] } } := I4.kept (t' := s4.toks) fun b ob q => Heap.get?_push_of_some _ q
  rcases q1 with ⟨a, xs, rfl, hx, q⟩ | ⟨z, rfl, hz, q⟩
  · cases r1
    obtain ⟨its, r, ht, hz⟩ := I5.list hx
    show wpAny (model X.prog X.w) X.A (subscriptTail e _ (.ref a) (.ref s4.heap.objs.size)) (EP X pins σ Q) X.xe _
    refine tail_any (ops := [.ref a, .ref s4.heap.objs.size]) ht.isList.typeIs (PySem.slot_list_getitem.lookup) (wpAny_getItem_list_slice ht.isList (Heap.IsSliceOf.new _ vl vu vs) pl pu ps (by decide) ?_ (by have := r.length; rw [List.size_toArray]; omega)) (by with_unfolding_all rfl)
    rw [PySem.W.krv_pick]
    exact ⟨.ref _, _, I5.laid (t' := s4.toks) (o := .lst xs.reverse) (fun b ob q => Heap.get?_push_of_some _ q) (Nat.le_refl _) ⟨by rw [List.length_reverse]; exact hz, _, 0, r.reverse, Heap.get?_push_size _ rfl⟩, rfl, q _ (I5.hok.fresh (Nat.le_refl _))⟩
  · obtain ⟨t, rfl⟩ := r1
    obtain ⟨l0, rfl, el⟩ := IsPart.raw pl
    obtain ⟨u0, rfl, eu⟩ := IsPart.raw pu
    obtain ⟨k0, rfl, ek⟩ := IsPart.raw ps
    show wpAny (model X.prog X.w) X.A (subscriptTail e _ (.str z t) (.ref s4.heap.objs.size)) (EP X pins σ Q) X.xe _
    have h0 : ((k0.map (·.1)).getD 1 == 0) = false := by rw [ek]; rfl
    refine tail_any (ops := [.str z t, .ref s4.heap.objs.size]) (typeIs_str _ z t) F.slot_str_getitem.lookup (wpAny_getItem_str_slice (l := l0) (u := u0) (st := k0) ⟨_, Heap.get?_push_size _ rfl, rfl, rfl⟩ h0 ?_) (by with_unfolding_all rfl)
    have em : sliceMade z t l0 u0 k0 = .str (revS z) := by
      unfold sliceMade slicePicked
      rw [el, eu, ek]
      show (if ((-1 : Int) == 1 && _) = true then _ else Made.str ⟨((Builtin.Str.strSliceIndices none none (-1) z.length).filterMap (z.cps[·]?)).toArray⟩) = _
      rw [rev_picked]
      rfl
    rw [em]
    have hl : (revS z).length ≤ sizeLine := by
      show (z.cps.toList.reverse.toArray).size ≤ sizeLine
      rw [List.size_toArray, List.length_reverse, Array.length_toList]
      exact hz
    exact ⟨hl, .str _, H4, I5.tok _, ⟨_, rfl⟩, q⟩
end
end CH

/-! CH3: subscripts, slices, len, isinstance, truth; and, or, not, if as expressions and as tests. -/
namespace CH
open PySem L2

/-! ### subscripts -/
def vIdx (a b : Val) : Option Val := match b with
  | .dat (.int i) => (match a with
    | .dat (.tuple ds) => (atI ds i).map .dat
    | .dat (.str z) => if z.length ≤ big then (atI z.cps.toList i).map fun c => .dat (.str ⟨#[c]⟩) else none
    | .scr ns => (atI ns i).map fun n => .dat (.int n)
    | _ => (match asL a with
      | some ds => (atI ds i).map .dat
      | none => none))
  | _ => none
def cutL {α : Type} (xs : List α) (lo hi : Option Int) : List α := (xs.drop (HT.sIx xs.length 0 lo)).take (HT.sIx xs.length xs.length hi - HT.sIx xs.length 0 lo)
def vSl (a : Val) (lo hi : Option Int) : Option Val := match a with
  | .dat (.tuple ds) => some (.dat (.tuple (cutL ds lo hi)))
  | .dat (.str z) => if z.length ≤ big then some (.dat (.str (cutS z lo hi))) else none
  | _ => (match asL a with
    | some ds => some (.own (cutL ds lo hi))
    | none => none)
def vRev (a : Val) : Option Val := match a with
  | .dat (.str z) => if z.length ≤ big then some (.dat (.str (revS z))) else none
  | _ => (match asL a with
    | some ds => some (.own ds.reverse)
    | none => none)
def vLen (a : Val) : Option Val := match a with
  | .dat (.tuple ds) => some (.dat (.int ds.length))
  | .dat (.str z) => if z.length ≤ big then some (.dat (.int z.length)) else none
  | .scr ns => some (.dat (.int ns.length))
  | _ => (match asL a with
    | some ds => some (.dat (.int ds.length))
    | none => none)
def vNeg (a : Val) : Option Val := match a with
  | .dat (.int i) => some (.dat (.int (-i)))
  | _ => none
def vTru (a : Val) : Option Bool := match a with
  | .dat .none => some false
  | .dat (.bool b) => some b
  | .dat (.int i) => some (i != 0)
  | .dat (.str z) => if z.length ≤ big then some ((z.length : Int) != 0) else none
  | .dat (.tuple ds) => some (!ds.isEmpty)
  | .scr ns => some (!ns.isEmpty)
  | _ => (match asL a with
    | some ds => some (!ds.isEmpty)
    | none => none)
inductive Ty where
  | int | bool | str | tuple | list
def isa : Ty → Val → Option Bool
  | .int, .dat (.int _) => some true
  | .int, .dat (.bool _) => some true
  | .bool, .dat (.bool _) => some true
  | .str, .dat (.str _) => some true
  | .tuple, .dat (.tuple _) => some true
  | .list, .dat (.list _) => some true
  | .list, .own _ => some true
  | _, .dat (.dict _) => none
  | _, .dat _ => some false
  | _, .own _ => some false
  | _, _ => none
def Ty.nm : Ty → String
  | .int => "int"
  | .bool => "bool"
  | .str => "str"
  | .tuple => "tuple"
  | .list => "list"

theorem atI_drs {K : PySem.W.Frag} {G : Hp} {vs : List V} {ds : List PyData} {i : Int} {d : PyData} (h : DRs K G vs ds) (e : atI ds i = some d) : ∃ v, atI vs i = some v ∧ DR K G v d := by
  unfold atI at *
  rw [h.length]
  cases q : ixN ds.length i with
  | none => rw [q] at e; cases e
  | some j =>
    rw [q] at e
    exact h.get e
theorem atI_map {α β : Type} (f : α → β) (xs : List α) (i : Int) : atI (xs.map f) i = (atI xs i).map f := by
  unfold atI
  rw [List.length_map]
  cases ixN xs.length i with
  | none => rfl
  | some j => exact List.getElem?_map ..
theorem atI_mem {α : Type} {xs : List α} {i : Int} {x : α} (h : atI xs i = some x) : x ∈ xs := by
  obtain ⟨j, _, h2, _⟩ := atI_get h
  exact List.mem_of_getElem? h2
theorem map_some {α β : Type} {f : α → β} {o : Option α} {b : β} (h : o.map f = some b) : ∃ a, o = some a ∧ f a = b := by
  cases o with
  | none => cases h
  | some a => exact ⟨a, rfl, Option.some.inj h⟩
section
variable {Z : Sur} {X : Cx}
theorem ixv (hK : X.K = Z.K) : IxR X (rB Z vIdx) := by
  intro value slice pins s σ H x y v u Q I rx ry ⟨a, b, r, G, io, hx, hy, e, q⟩ hs
  have g := q.sub
  unfold vIdx at e
  split at e
  · rename_i i
    cases DR.int_ hy
    split at e
    · obtain ⟨d, e1, rfl⟩ := map_some e
      obtain ⟨a1, v1, rfl, t1, d1⟩ := DR.tup_ hx
      obtain ⟨w, hw, dw⟩ := atI_drs d1 e1
      exact ix_tup value slice pins s σ H _ _ v u Q I rx ry ⟨a1, v1, i, w, rfl, rfl, by rw [hK]; exact g.sqT t1, hw, q.dat dw⟩ hs
    · split at e
      · rename_i z hz
        obtain ⟨c, e1, rfl⟩ := map_some e
        obtain ⟨rfl, o1⟩ := DR.str_ hx
        refine ix_str value slice pins s σ H _ _ v u Q I rx ry ⟨_, i, c, rfl, rfl, by rw [big_eq]; exact hz, e1, q.dat (.str _ ?_)⟩ hs
        exact strOk_of o1 (l := [c]) fun k hk => by
          rw [List.mem_singleton] at hk
          subst hk
          exact atI_mem e1
      · cases e
    · rename_i ns
      obtain ⟨n, e1, rfl⟩ := map_some e
      obtain ⟨a1, rfl, h1⟩ := hx
      exact ix_list value slice pins s σ H _ _ v u Q I rx ry ⟨a1, ns.map V.int, i, .int n, rfl, rfl, by rw [hK]; exact g.sqL h1, by rw [atI_map, e1]; rfl, q.dat (.int n)⟩ hs
    · split at e
      · rename_i ds ed
        obtain ⟨d, e1, rfl⟩ := map_some e
        obtain ⟨a1, v1, rfl, h1, d1⟩ := hx.asL ed g
        obtain ⟨w, hw, dw⟩ := atI_drs d1 e1
        exact ix_list value slice pins s σ H _ _ v u Q I rx ry ⟨a1, v1, i, w, rfl, rfl, SqL.of h1, hw, q.dat dw⟩ hs
      · cases e
  · cases e
theorem cut_drs {K : PySem.W.Frag} {G : Hp} {vs : List V} {ds : List PyData} (h : DRs K G vs ds) (lo hi : Option Int) : DRs K G (cutV vs lo hi) (cutL ds lo hi) := by
  unfold cutV cutL
  rw [h.length]
  exact (h.drop _).take _
/-- the reading of a slice -/
def rS3 (Z : Sur) : V → Option Int → Option Int → Hp → VK → Prop := fun x lo hi H Q => ∃ v r G io, VB Z.K G H io x v ∧ vSl v lo hi = some r ∧ Rs Z Q G io H r
theorem slv (hK : X.K = Z.K) : SlR X (rS3 Z) := by
  intro pins s σ H x v vl vu lo hi sl Q I rx hs pl pu ⟨a, r, G, io, hx, e, q⟩
  have g := q.sub
  unfold vSl at e
  split at e
  · cases e
    obtain ⟨a1, v1, rfl, t1, d1⟩ := DR.tup_ hx
    refine sl_tupA pins s σ H _ v vl vu lo hi sl Q I rx hs pl pu ⟨a1, v1, rfl, by rw [hK]; exact g.sqT t1, fun hw => ?_, fun _ => q.newT (cut_drs d1 lo hi)⟩
    refine q.dat ?_
    rename_i ds
    have e0 : cutL ds lo hi = ds := by
      unfold cutL
      rw [← d1.length, hw.1, hw.2, d1.length]
      simp
    rw [e0]
    exact .tup t1 d1
  · split at e
    · rename_i z hz
      cases e
      obtain ⟨rfl, o1⟩ := DR.str_ hx
      refine sl_str pins s σ H _ v vl vu lo hi sl Q I rx hs pl pu ⟨_, rfl, by rw [big_eq]; exact hz, q.dat (.str _ ?_)⟩
      exact strOk_of o1 fun c hc => List.mem_of_mem_drop (List.mem_of_mem_take hc)
    · cases e
  · split at e
    · rename_i ds ed
      cases e
      obtain ⟨a1, v1, rfl, h1, d1⟩ := hx.asL ed g
      exact sl_list pins s σ H _ v vl vu lo hi sl Q I rx hs pl pu ⟨a1, v1, rfl, SqL.of h1, q.newL (cut_drs d1 lo hi)⟩
    · cases e
/-- calls of one value -/
def rC1 (Z : Sur) (op : Val → Option Val) : List V → Hp → VK → Prop := fun vs H Q => ∃ x, vs = [x] ∧ rU1 Z op x H Q
theorem lenv (hK : X.K = Z.K) : CallR X (.builtin "len") (rC1 Z vLen) := by
  intro pins s σ H xs us Q I rv ⟨x, ex, a, r, G, io, hx, e, q⟩
  subst ex
  have g := q.sub
  unfold vLen at e
  split at e
  · cases e
    obtain ⟨a1, v1, rfl, t1, d1⟩ := DR.tup_ hx
    have l1 := d1.length
    exact call_len_seq pins s σ H _ us Q I rv ⟨a1, v1, rfl, .inr (by rw [hK]; exact g.sqT t1), by rw [l1]; exact q.dat (.int _)⟩
  · split at e
    · rename_i z hz
      cases e
      obtain ⟨rfl, o1⟩ := DR.str_ hx
      exact call_len_str pins s σ H _ us Q I rv ⟨_, rfl, by rw [big_eq]; exact hz, q.dat (.int _)⟩
    · cases e
  · cases e
    obtain ⟨a1, rfl, h1⟩ := hx
    exact call_len_seq pins s σ H _ us Q I rv ⟨a1, _, rfl, .inl (by rw [hK]; exact g.sqL h1), by rw [List.length_map]; exact q.dat (.int _)⟩
  · split at e
    · rename_i ds ed
      cases e
      obtain ⟨a1, v1, rfl, h1, d1⟩ := hx.asL ed g
      have l1 := d1.length
      exact call_len_seq pins s σ H _ us Q I rv ⟨a1, v1, rfl, .inl (SqL.of h1), by rw [l1]; exact q.dat (.int _)⟩
    · cases e
theorem tru_of {K : PySem.W.Frag} {G H : Hp} {io : List Addr} {x : V} {a : Val} {k : Bool} (hx : VB K G H io x a) (e : vTru a = some k) (g : Sub G H) : TruV K x H k := by
  have iE : ∀ {vs : List V} {ds : List PyData}, DRs K G vs ds → (!ds.isEmpty) = !vs.isEmpty := fun {vs ds} h => by
    cases h <;> rfl
  unfold vTru at e
  split at e
  · have hx' : DR K G x .none := hx
    cases hx'
    cases e
    rfl
  · cases DR.bl_ hx
    cases e
    rfl
  · cases DR.int_ hx
    cases e
    rfl
  · split at e
    · rename_i z hz
      obtain ⟨rfl, o1⟩ := DR.str_ hx
      cases e
      exact ⟨by rw [big_eq]; exact hz, rfl⟩
    · cases e
  · obtain ⟨a1, v1, rfl, t1, d1⟩ := DR.tup_ hx
    cases e
    exact .inr (.inl ⟨v1, g.sqT t1, iE d1⟩)
  · obtain ⟨a1, rfl, h1⟩ := hx
    cases e
    exact .inl ⟨_, g.sqL h1, by cases ‹List Int› <;> rfl⟩
  · split at e
    · rename_i ds ed
      cases e
      obtain ⟨a1, v1, rfl, h1, d1⟩ := VB.asL (Z := ⟨K, fun _ => none, fun _ => none, fun _ => none, [], fun _ => none, none, none⟩) hx ed g
      exact .inl ⟨v1, SqL.of h1, iE d1⟩
    · cases e
theorem kit_none (t : Ty) : kitB "NoneType" t.nm = some false := by cases t <;> decide +kernel
theorem kit_int (t : Ty) : kitB "int" t.nm = some (match t with | .int => true | _ => false) := by cases t <;> decide +kernel
theorem kit_bool (t : Ty) : kitB "bool" t.nm = some (match t with | .int => true | .bool => true | _ => false) := by cases t <;> decide +kernel
theorem kit_str (t : Ty) : kitB "str" t.nm = some (match t with | .str => true | _ => false) := by cases t <;> decide +kernel
theorem kit_tuple (t : Ty) : kitB "tuple" t.nm = some (match t with | .tuple => true | _ => false) := by cases t <;> decide +kernel
theorem kit_list (t : Ty) : kitB "list" t.nm = some (match t with | .list => true | _ => false) := by cases t <;> decide +kernel
/-- isinstance(x, T) -/
def rIsa (Z : Sur) (t : Ty) : List V → Hp → VK → Prop := fun vs H Q => ∃ x, vs = [x, .ty t.nm] ∧ rU1 Z (fun a => bV (isa t a)) x H Q
theorem ty_tup {K : PySem.W.Frag} {H : Hp} {a : Addr} {xs : List V} (h : SqT K H a xs) : TyX K H (.ref a) (.type "tuple") := by
  rcases h with (h | ⟨o, h⟩) | ⟨o, its, n, h1, h2, _⟩
  · exact .base (.tup h)
  · exact .fTuple h
  · exact .kTuple h1 h2
theorem isav (hK : X.K = Z.K) (t : Ty) : CallR X (.builtin "isinstance") (rIsa Z t) := by
  intro pins s σ H xs us Q I rv ⟨x, ex, a, r, G, io, hx, e0, q⟩
  subst ex
  have g := q.sub
  obtain ⟨k, e, rfl⟩ := bV_some e0
  have fin : Q (.bl k) H := q.dat (.bl k)
  have go : ∀ (T : String), TyX X.K H x (.type T) → kitB T t.nm = some k → wpAny (model X.prog X.w) X.A (call (.builtin "isinstance") us) (EP X pins σ Q) X.xe s := fun T ty hk =>
    call_isi pins s σ H _ us Q I rv ⟨x, .ty t.nm, .type T, .type t.nm, k, rfl, .ty _, ty, kit_ty hk, fin⟩
  cases a with
  | dat d =>
    have hx' : DR Z.K G x d := hx
    cases hx' with
    | non => refine go "NoneType" (.base .non) ?_; rw [kit_none]; cases t <;> exact e
    | bl b => refine go "bool" (.base (.bl b)) ?_; rw [kit_bool]; cases t <;> exact e
    | int i => refine go "int" (.base (.int i)) ?_; rw [kit_int]; cases t <;> exact e
    | str z o => refine go "str" (.base (.str z)) ?_; rw [kit_str]; cases t <;> exact e
    | lst h1 h2 => refine go "list" (.base (.lst (g _ _ h1))) ?_; rw [kit_list]; cases t <;> exact e
    | tup h1 h2 => refine go "tuple" (ty_tup (by rw [hK]; exact g.sqT h1)) ?_; rw [kit_tuple]; cases t <;> exact e
  | own ds =>
    obtain ⟨a1, v1, rfl, h1, d1⟩ := hx
    refine go "list" (.base (.lst h1)) ?_; rw [kit_list]; cases t <;> exact e
  | scr ns => cases t <;> cases e
  | obj n => cases t <;> cases e
  | exn n => cases t <;> cases e
end

/-! ### the combinators -/
/-- a bound of a slice -/
def evO {β : Type} (o : Option (M Val)) (k : Option Int → S → R β) : M β := fun cs s => match o with
  | none => k none s
  | some f => (f cs s).bnd fun v s1 => match v with
    | .dat (.int i) => k (some i) s1
    | _ => .no
def mSl (a : Opd) (lo hi : Option (M Val)) : M Val := fun cs s => match a with
  | .ev f => (f cs s).bnd fun x s1 => evO lo (fun l s2 => evO hi (fun h s3 => giv s3 (vSl (frz x) l h)) cs s2) cs s1
  | .pk i => match s.at_ i with
    | some _ => evO lo (fun l s2 => evO hi (fun h s3 => match s3.at_ i with
      | some x => giv s3 (vSl x l h)
      | none => .no) cs s2) cs s
    | none => .no
def mAnd (f g : M Val) : M Val := fun cs s => (f cs s).bnd fun v s1 => match vTru v with
  | some true => g cs s1
  | some false => .ok v s1
  | none => .no
def mOr (f g : M Val) : M Val := fun cs s => (f cs s).bnd fun v s1 => match vTru v with
  | some true => .ok v s1
  | some false => g cs s1
  | none => .no
def mIf (t : M Bool) (f g : M Val) : M Val := fun cs s => (t cs s).bnd fun b s1 => if b then f cs s1 else g cs s1
/-- tests -/
def bTru (a : Opd) : M Bool := fun cs s => ev1 a (fun v s1 => match vTru v with
  | some b => .ok b s1
  | none => .no) cs s
def bVal (f : M Val) : M Bool := fun cs s => (f cs s).bnd fun v s1 => match v with
  | .dat (.bool b) => .ok b s1
  | _ => .no
def bAnd (f g : M Bool) : M Bool := fun cs s => (f cs s).bnd fun b s1 => if b then g cs s1 else .ok false s1
def bOr (f g : M Bool) : M Bool := fun cs s => (f cs s).bnd fun b s1 => if b then .ok true s1 else g cs s1
def bNot (f : M Bool) : M Bool := fun cs s => (f cs s).bnd fun b s1 => .ok (!b) s1
/-- a op b op' c -/
def mChain (o o' : CmpOp) (a b c : Opd) : M Val := fun cs s => ev2 a b (fun x y s1 => match vCmp cs o x y with
  | some true => (match y with
    | .own _ => .no
    | _ => ev1 c (fun z s2 => giv s2 (bV (vCmp cs o' y z))) cs s1)
  | some false => .ok (.dat (.bool false)) s1
  | none => .no) cs s

section
variable {Z : Sur} {cs : Cs} {σ : St} {G H : Hp} {io : List Addr} {W : WX} {s : S} {X : Cx}
theorem tOpd.mono {a : Opd} {Q Q' : VK} (f : ∀ w H, Q w H → Q' w H) (h : tOpd Z cs W a σ H Q) : tOpd Z cs W a σ H Q' := by
  cases a with
  | pk i => obtain ⟨v, e, q⟩ := h; exact ⟨v, e, f _ _ q⟩
  | ev g =>
    obtain ⟨G0, io0, s0, r0, q0⟩ := h
    exact ⟨G0, io0, s0, r0, q0.mono fun _ _ _ _ _ _ _ q w t => f _ _ (q w t)⟩
def tPartO (Z : Sur) (cs : Cs) (W : WX) : Option (M Val) → TO
  | none => tNoPart
  | some f => tPart (denV Z cs f W)
theorem partO {β : Type} {o : Option (M Val)} {k : Option Int → S → R β} {P : Po β} (r : SR Z G io σ s H) (h : Aft Z σ G io W P (evO o k cs s)) :
    tPartO Z cs W o σ H fun l H1 => ∃ G1 io1 s1, SR Z G1 io1 σ s1 H1 ∧ Ext G io G1 io1 ∧ Aft Z σ G1 io1 W P (k l s1) := by
  cases o with
  | none => exact ⟨G, io, s, r, Ext.refl _ _, h⟩
  | some f =>
    refine denV.of r (Aft.bnd h) fun v G1 io1 s1 H1 r1 e1 p w t => ?_
    revert p t
    split
    · rename_i i
      intro p t
      cases DR.int_ t.1
      exact ⟨i, rfl, G1, io1, s1, r1, e1, p⟩
    · intro p; exact p.elim
theorem tPartO.mono {o : Option (M Val)} {Q Q' : Option Int → Hp → Prop} (f : ∀ l H, Q l H → Q' l H) (h : tPartO Z cs W o σ H Q) : tPartO Z cs W o σ H Q' := by
  cases o with
  | none => exact f _ _ h
  | some g =>
    obtain ⟨G0, io0, s0, r0, q0⟩ := h
    exact ⟨G0, io0, s0, r0, q0.mono fun _ _ _ _ _ _ _ q w t => let ⟨i, e, z⟩ := q w t; ⟨i, e, f _ _ z⟩⟩
theorem den_sl {a : Opd} {lo hi : Option (M Val)} {Q : VK} (h : denV Z cs (mSl a lo hi) W σ H Q) : tSl (rS3 Z) (tOpd Z cs W a) (tPartO Z cs W lo) (tPartO Z cs W hi) σ H Q := by
  obtain ⟨G, io, s, r, h⟩ := h
  have fin : ∀ {G3 io3 s3 H3 x v l u}, SR Z G3 io3 σ s3 H3 → VB Z.K G3 H3 io3 x v → Aft Z σ G3 io3 W (pV Z σ Q) (giv s3 (vSl v l u)) → rS3 Z x l u H3 Q := fun {G3 io3 s3 H3 x v l u} r3 b p => by
    cases e : vSl v l u with
    | none => rw [e] at p; exact p.elim
    | some y =>
      rw [e] at p
      exact ⟨v, y, G3, io3, b, e, σ, s3, r3, fun G' io' H' r' e' w t => p G' io' H' r' e' w t⟩
  cases a with
  | pk i =>
    have h0 : Aft Z σ G io W (pV Z σ Q) (match s.at_ i with | some _ => evO lo (fun l s2 => evO hi (fun h s3 => match s3.at_ i with | some x => giv s3 (vSl x l h) | none => .no) cs s2) cs s | none => .no) := h
    cases e0 : s.at_ i with
    | none => rw [e0] at h0; exact h0.elim
    | some x0 =>
      rw [e0] at h0
      obtain ⟨w, ew, _⟩ := r.slot i x0 e0
      refine ⟨w, ew, tPartO.mono (fun l H1 ⟨G1, io1, s1, r1, e1, p1⟩ => ?_) (partO r h0)⟩
      refine tPartO.mono (fun u H2 ⟨G2, io2, s2, r2, e2, p2⟩ => ?_) (partO r1 p1)
      cases e : s2.at_ i with
      | none => rw [e] at p2; exact p2.elim
      | some x =>
        rw [e] at p2
        obtain ⟨w2, ew2, bx⟩ := r2.slot i x e
        rw [ew] at ew2
        have ew2 : w = w2 := Option.some.inj (Option.some.inj ew2)
        subst ew2
        exact fin r2 bx p2
  | ev f =>
    refine denV.of r (Aft.bnd h) fun v G1 io1 s1 H1 r1 e1 p w t => ?_
    obtain ⟨G2, g2, r2, t2⟩ := VT.toFrz r1 t
    have e2 : Ext G1 io1 G2 io1 := ⟨g2, List.prefix_rfl⟩
    have hb := VT.noOwn t2
    refine tPartO.mono (fun l H3 ⟨G3, io3, s3, r3, e3, p3⟩ => ?_) (partO r2 (p.up e2))
    refine tPartO.mono (fun u H4 ⟨G4, io4, s4, r4, e4, p4⟩ => ?_) (partO r3 p3)
    exact fin r4 (VB.up hb.1 hb.2 (e3.trans e4)) p4
theorem den_and {f g : M Val} {Q : VK} (h : denV Z cs (mAnd f g) W σ H Q) : tAndT Z.K (denV Z cs f W) (denV Z cs g W) σ H Q := by
  obtain ⟨G, io, s, r, h⟩ := h
  refine denV.of r (Aft.bnd h) fun v G1 io1 s1 H1 r1 e1 p w t => ?_
  have p' : Aft Z σ G1 io1 W (pV Z σ Q) (match vTru v with | some true => g cs s1 | some false => .ok v s1 | none => .no) := p
  cases e : vTru v with
  | none => rw [e] at p'; exact p'.elim
  | some k =>
    refine ⟨k, tru_of t.1 e r1.sub, ?_⟩
    rw [e] at p'
    cases k with
    | true => exact ⟨G1, io1, s1, r1, p'⟩
    | false => exact p' G1 io1 H1 r1 (Ext.refl _ _) w t
theorem den_or {f g : M Val} {Q : VK} (h : denV Z cs (mOr f g) W σ H Q) : tOrT Z.K (denV Z cs f W) (denV Z cs g W) σ H Q := by
  obtain ⟨G, io, s, r, h⟩ := h
  refine denV.of r (Aft.bnd h) fun v G1 io1 s1 H1 r1 e1 p w t => ?_
  have p' : Aft Z σ G1 io1 W (pV Z σ Q) (match vTru v with | some true => .ok v s1 | some false => g cs s1 | none => .no) := p
  cases e : vTru v with
  | none => rw [e] at p'; exact p'.elim
  | some k =>
    refine ⟨k, tru_of t.1 e r1.sub, ?_⟩
    rw [e] at p'
    cases k with
    | false => exact ⟨G1, io1, s1, r1, p'⟩
    | true => exact p' G1 io1 H1 r1 (Ext.refl _ _) w t
theorem den_notT {a : Opd} {Q : VK} (h : denV Z cs (mUn (fun _ v => bV ((vTru v).map (!·))) a) W σ H Q) : tNotT Z.K (tOpd Z cs W a) σ H Q := by
  refine tOpd.mono (fun w H1 ⟨v, r, G, io, b, e, q⟩ => ?_) (den_un h)
  obtain ⟨k, e1, rfl⟩ := bV_some e
  obtain ⟨k', e2, rfl⟩ := not_some e1
  exact ⟨k', tru_of b e2 q.sub, q.dat (.bl _)⟩
theorem denB.of {f : M Bool} {P : Po Bool} {Q : Bool → Hp → Prop} (r : SR Z G io σ s H) (h : Aft Z σ G io W P (f cs s)) (q : ∀ v G' io' s' H', SR Z G' io' σ s' H' → Ext G io G' io' → P v G' io' s' H' → Q v H') : denB Z cs f W σ H Q :=
  ⟨G, io, s, r, h.mono fun v G' io' s' H' r' e' p => q v G' io' s' H' r' e' p⟩
theorem den_if {t : M Bool} {f g : M Val} {Q : VK} (h : denV Z cs (mIf t f g) W σ H Q) : tIf (denB Z cs t W) (denV Z cs f W) (denV Z cs g W) σ H Q := by
  obtain ⟨G, io, s, r, h⟩ := h
  refine denB.of r (Aft.bnd h) fun b G1 io1 s1 H1 r1 e1 p => ?_
  cases b with
  | true => exact ⟨G1, io1, s1, r1, p⟩
  | false => exact ⟨G1, io1, s1, r1, p⟩
theorem den_bTru {a : Opd} {Q : Bool → Hp → Prop} (h : denB Z cs (bTru a) W σ H Q) : tOpd Z cs W a σ H fun x H' => ∃ k, TruV Z.K x H' k ∧ Q k H' := by
  obtain ⟨G, io, s, r, h⟩ := h
  refine tOpd.mono (fun w H1 ⟨v, G1, io1, s1, r1, e1, b, p⟩ => ?_) (opd1 r h)
  cases e : vTru v with
  | none => simp only [e] at p; exact p.elim
  | some k =>
    simp only [e] at p
    exact ⟨k, tru_of b e r1.sub, p G1 io1 H1 r1 (Ext.refl _ _)⟩
theorem den_bVal {f : M Val} {Q : Bool → Hp → Prop} (h : denB Z cs (bVal f) W σ H Q) : denV Z cs f W σ H fun x H' => ∃ k, x = .bl k ∧ Q k H' := by
  obtain ⟨G, io, s, r, h⟩ := h
  refine denV.of r (Aft.bnd h) fun v G1 io1 s1 H1 r1 e1 p w t => ?_
  revert p t
  split
  · rename_i k
    intro p t
    exact ⟨k, DR.bl_ t.1, p G1 io1 H1 r1 (Ext.refl _ _)⟩
  · intro p; exact p.elim
theorem den_bAnd {f g : M Bool} {Q : Bool → Hp → Prop} (h : denB Z cs (bAnd f g) W σ H Q) : tAnd (denB Z cs f W) (denB Z cs g W) σ H Q := by
  obtain ⟨G, io, s, r, h⟩ := h
  refine denB.of r (Aft.bnd h) fun b G1 io1 s1 H1 r1 e1 p => ?_
  cases b with
  | true => exact ⟨G1, io1, s1, r1, p⟩
  | false => exact p G1 io1 H1 r1 (Ext.refl _ _)
theorem den_bOr {f g : M Bool} {Q : Bool → Hp → Prop} (h : denB Z cs (bOr f g) W σ H Q) : tOr (denB Z cs f W) (denB Z cs g W) σ H Q := by
  obtain ⟨G, io, s, r, h⟩ := h
  refine denB.of r (Aft.bnd h) fun b G1 io1 s1 H1 r1 e1 p => ?_
  cases b with
  | false => exact ⟨G1, io1, s1, r1, p⟩
  | true => exact p G1 io1 H1 r1 (Ext.refl _ _)
theorem den_bNot {f : M Bool} {Q : Bool → Hp → Prop} (h : denB Z cs (bNot f) W σ H Q) : tNot (denB Z cs f W) σ H Q := by
  obtain ⟨G, io, s, r, h⟩ := h
  exact denB.of r (Aft.bnd h) fun b G1 io1 s1 H1 r1 e1 p => p G1 io1 H1 r1 (Ext.refl _ _)
theorem den_rev {a : Opd} {Q : VK} (h : denV Z cs (mUn (fun _ v => vRev v) a) W σ H Q) : tRevLS Z.K (tOpd Z cs W a) σ H Q := by
  refine tOpd.mono (fun w H1 ⟨v, r, G, io, b, e0, q⟩ => ?_) (den_un h)
  have e : vRev v = some r := e0
  clear e0
  unfold vRev at e
  split at e
  · rename_i z
    by_cases hz : z.length ≤ big
    · rw [if_pos hz] at e
      cases e
      obtain ⟨rfl, ok⟩ := DR.str_ b
      refine .inr ⟨z, rfl, by rw [big_eq]; exact hz, q.dat (.str _ (strOk_of ok fun c hc => ?_))⟩
      exact List.mem_reverse.mp hc
    · rw [if_neg hz] at e
      cases e
  · split at e
    · rename_i ds ed
      cases e
      obtain ⟨a1, v1, rfl, h1, d1⟩ := b.asL ed q.sub
      exact .inl ⟨a1, v1, rfl, SqL.of h1, q.newL d1.reverse⟩
    · cases e
theorem den_chain {o o' : CmpOp} {a b c : Opd} {Q : VK} (h : denV Z cs (mChain o o' a b c) W σ H Q) :
    tChain (rB Z fun a b => bV (vCmp cs o a b)) (rB Z fun a b => bV (vCmp cs o' a b)) (tOpd Z cs W a) (tOpd Z cs W b) (tOpd Z cs W c) σ H Q := by
  obtain ⟨G, io, s, r, h⟩ := h
  have fin : ∀ w w' H2, (∃ v v' G2 io2 s2, SR Z G2 io2 σ s2 H2 ∧ Ext G io G2 io2 ∧ VB Z.K G2 H2 io2 w v ∧ VB Z.K G2 H2 io2 w' v' ∧ Aft Z σ G2 io2 W (pV Z σ Q) (match vCmp cs o v v' with
      | some true => (match v' with
        | .own _ => .no
        | _ => ev1 c (fun z s2 => giv s2 (bV (vCmp cs o' v' z))) cs s2)
      | some false => .ok (.dat (.bool false)) s2
      | none => .no)) → rB Z (fun a b => bV (vCmp cs o a b)) w w' H2 fun z H3 => ∃ k, z = .bl k ∧
        (if k = true then tOpd Z cs W c σ H3 fun w2 H4 => rB Z (fun a b => bV (vCmp cs o' a b)) w' w2 H4 Q else Q (.bl false) H3) := by
    rintro w w' H2 ⟨v, v', G2, io2, s2, r2, e2, b1, b2, p⟩
    cases e : vCmp cs o v v' with
    | none => rw [e] at p; exact p.elim
    | some k =>
      rw [e] at p
      refine ⟨v, v', .dat (.bool k), G2, io2, b1, b2, by simp only [e, bV], σ, s2, r2, fun G' io' H' r' e' z t => ?_⟩
      refine ⟨k, DR.bl_ t.1, ?_⟩
      cases k with
      | false => exact p G' io' H' r' e' _ (.dat (.bl false))
      | true =>
        have hn : ∀ xs, v' ≠ .own xs := fun xs z => by subst z; exact p
        have p' : Aft Z σ G2 io2 W (pV Z σ Q) (ev1 c (fun z s2 => giv s2 (bV (vCmp cs o' v' z))) cs s2) := by
          cases v' with
          | own xs => exact absurd rfl (hn xs)
          | dat d => exact p
          | scr ns => exact p
          | obj n => exact p
          | exn n => exact p
        rw [if_pos rfl]
        refine tOpd.mono (fun w2 H4 ⟨v2, G4, io4, s4, r4, e4, b4, p4⟩ => ?_) (opd1 r' (p'.up e'))
        cases e5 : vCmp cs o' v' v2 with
        | none => rw [e5] at p4; exact p4.elim
        | some k2 =>
          rw [e5] at p4
          exact ⟨v', v2, .dat (.bool k2), G4, io4, VB.up b2 hn (e'.trans e4), b4, by simp only [e5, bV], σ, s4, r4, fun G' io' H' r' e' w t => p4 G' io' H' r' e' w t⟩
  refine tOpd.mono (fun w H1 h1 => ?_) (opd2 r h)
  exact tOpd.mono (fun w' H2 h2 => fin w w' H2 h2) h1
end
end CH

/-! CH4: calls of defs; what is walked; comprehensions. -/
namespace CH
open PySem L2

/-! ### calls -/
def Zin (K : PySem.W.Frag) (cla : Nat → Option Addr) (G : Hp) (io : List Addr) (H : Hp) : Sur := ⟨K, cla, H, G, io, fun _ => none, none, none⟩
/-- the promise of a def: what its reckoning gives -/
def spOf (K : PySem.W.Frag) (cla : Nat → Option Addr) (n : Nat) (run : List Val → List Ob → C) : Sp := fun vs H Q E => ∃ G io vals ob, vs.length = n ∧ SR (Zin K cla G io H) G io [] ⟨[], ob⟩ H ∧ VBs K G H io vs vals ∧
  match run vals ob with
  | .ok v ob' => ∀ w G' io' H', SR (Zin K cla G io H) G' io' [] ⟨[], ob'⟩ H' → Ext G io G' io' → VT (Zin K cla G io H) G' io' [] ⟨[], ob'⟩ H' w v → Q w H'
  | .ex e ob' => ∀ cls d G' io' H', SR (Zin K cla G io H) G' io' [] ⟨[], ob'⟩ H' → Ext G io G' io' → XR K cla G' H' e cls d → E cls d H'
  | .no => False
section
variable {Z : Sur} {σ : St} {G G' H H' : Hp} {io io' : List Addr} {s : S} {ob' : List Ob} {w : V} {v : Val}
theorem SR.callIn (r : SR Z G io σ s H) : SR (Zin Z.K Z.cla G io H) G io [] ⟨[], s.ob⟩ H where
  sub := r.sub
  old := fun _ _ h _ => h
  gold := fun _ _ _ h => h
  iold := fun _ h => .inl h
  kept := fun _ _ h => by cases h
  slot := fun i v h => by simp [S.at_] at h
  mine := fun i xs a h => by simp [S.at_] at h
  ol := r.ol
  ond := r.ond
  ofr := r.ofr
  ob := r.ob
  len := rfl
  xx := ⟨fun _ _ h => (by cases h), fun _ _ _ _ h => (by cases h)⟩
theorem Mine.out {a : Addr} (r : SR Z G io σ s H) (m : Mine Z G H io a) (q : SR (Zin Z.K Z.cla G io H) G' io' [] ⟨[], ob'⟩ H') : a ∉ io' := fun z => by
  obtain ⟨vs, hv⟩ := m.h
  rcases q.iold a z with z | z
  · exact m.io z
  · have z : H a = none := z
    rw [hv] at z; cases z
theorem SR.callOut (r : SR Z G io σ s H) (q : SR (Zin Z.K Z.cla G io H) G' io' [] ⟨[], ob'⟩ H') (e : Ext G io G' io') : SR Z G' io' σ { s with ob := ob' } H' where
  sub := q.sub
  old := fun a o h n => q.old a o (r.old a o h fun z => n (e.io.subset z)) n
  gold := fun a o h1 h2 => by
    have g1 := r.gold a o h1 h2
    cases e1 : H a with
    | some u => exact q.gold a u e1 g1
    | none =>
      -- the place was an object's: objects are not of the part that stays
      by_cases hi : a ∈ io
      · exact (q.ofr a (e.io.subset hi)).1
      · rw [r.old a o h1 hi] at e1; cases e1
  iold := fun a h => by
    rcases q.iold a h with z | z
    · exact r.iold a z
    · exact .inr (r.h0none z)
  kept := fun a o h => by
    obtain ⟨h1, h2, h3⟩ := r.kept a o h
    have n : a ∉ io' := fun z => by
      rcases q.iold a z with z | z
      · exact h3.1 z
      · have z : H a = none := z
        rw [h1] at z; cases z
    exact ⟨q.old a o h1 n, q.gold a o h1 h2, n, h3.2⟩
  slot := fun i v h => by
    obtain ⟨w, ew, b⟩ := r.slot i v h
    refine ⟨w, ew, ?_⟩
    cases v with
    | own xs =>
      obtain ⟨a, vs, rfl, hv, hd⟩ := b
      obtain ⟨m, _⟩ := r.mine i xs a h ew
      exact ⟨a, vs, rfl, q.old a _ hv (m.out r q), DRs.mono e.g _ _ hd⟩
    | dat d => exact VB.up b (fun _ z => by cases z) e
    | scr ns => exact VB.up b (fun _ z => by cases z) e
    | obj n => exact VB.up b (fun _ z => by cases z) e
    | exn x => exact b
  mine := fun i xs a h ew => by
    obtain ⟨m, q2⟩ := r.mine i xs a h ew
    obtain ⟨vs, hv⟩ := m.h
    exact ⟨⟨q.gold a _ hv m.g, m.h0, m.kp, m.out r q, vs, q.old a _ hv (m.out r q)⟩, q2⟩
  ol := q.ol
  ond := q.ond
  ofr := q.ofr
  ob := q.ob
  len := r.len
  xx := ⟨r.xx.sl, fun dd f w d h => by
    obtain ⟨h1, h2⟩ := r.xx.fl dd f w d h
    have n0 : dd ∉ io := fun z => by
      obtain ⟨n, hn⟩ := List.getElem?_of_mem z
      have hl : n < s.ob.length := by rw [← r.ol]; exact (List.getElem?_eq_some_iff.mp hn).1
      have := r.ob n dd _ hn (List.getElem?_eq_getElem hl)
      generalize s.ob[n] = o at this
      cases o with
      | lst xs => obtain ⟨vs, h3, _⟩ := this; rw [h1] at h3; cases h3
      | dct kvs => obtain ⟨vs, h3, _⟩ := this; rw [h1] at h3; cases h3
      | mix kvs => obtain ⟨vs, h3, _⟩ := this; rw [h1] at h3; cases h3
      | ins c fs => obtain ⟨C, dx, gs, _, h3, _⟩ := this; rw [h1] at h3; cases h3
    have n : dd ∉ io' := fun z => by
      rcases q.iold dd z with z | z
      · exact n0 z
      · have z : H dd = none := z
        rw [h1] at z; cases z
    exact ⟨q.old dd _ h1 n, DR.mono e.g _ _ h2⟩⟩
theorem VT.callOut (r : SR Z G io σ s H) (q : SR (Zin Z.K Z.cla G io H) G' io' [] ⟨[], ob'⟩ H') (t : VT (Zin Z.K Z.cla G io H) G' io' [] ⟨[], ob'⟩ H' w v) : VT Z G' io' σ { s with ob := ob' } H' w v := by
  refine ⟨t.1, fun xs a e1 e2 => ?_⟩
  obtain ⟨m, _⟩ := t.2 xs a e1 e2
  have h0 : H a = none := m.h0
  refine ⟨⟨m.g, r.h0none h0, r.knone h0, m.io, m.h⟩, fun j ys hj ej => ?_⟩
  obtain ⟨m', _⟩ := r.mine j ys a hj ej
  obtain ⟨vs, hv⟩ := m'.h
  rw [h0] at hv; cases hv
end
/-- f(..), the defaults behind -/
def mCall (id : Nat) (es : List (M Val)) (dfl : List PyData) : M Val := fun cs s => (mArgs es cs s).bnd fun vs s1 => match cs.run id (vs ++ dfl.map .dat) s1.ob with
  | .ok v ob => .ok v { s1 with ob := ob }
  | .ex e ob => .ex e { s1 with ob := ob }
  | .no => .no
/-- constants of the text as the layer's values -/
def cV : PyData → Option V
  | .none => some .non
  | .bool b => some (.bl b)
  | .int i => some (.int i)
  | .str x => if PyData.strOk x then some (.str x) else none
  | _ => none
theorem cV_dr {K : PySem.W.Frag} {G : Hp} {d : PyData} {v : V} (h : cV d = some v) : DR K G v d := by
  cases d with
  | none => cases h; exact .non
  | bool b => cases h; exact .bl b
  | int i => cases h; exact .int i
  | str x =>
    have h : (if PyData.strOk x = true then some (V.str x) else none) = some v := h
    by_cases e : PyData.strOk x = true
    · rw [if_pos e] at h
      cases h
      exact .str x e
    · rw [if_neg e] at h; cases h
  | list _ => cases h
  | tuple _ => cases h
  | dict _ => cases h
def cVs : List PyData → Option (List V)
  | [] => some []
  | d :: ds => match cV d, cVs ds with
    | some v, some vs => some (v :: vs)
    | _, _ => none
theorem cVs_vb {K : PySem.W.Frag} {G H : Hp} {io : List Addr} : ∀ {ds : List PyData} {vs : List V}, cVs ds = some vs → VBs K G H io vs (ds.map .dat)
  | [], vs, h => by cases h; trivial
  | d :: ds, vs, h => by
    unfold cVs at h
    split at h
    · rename_i v vs' e1 e2
      cases h
      exact ⟨⟨cV_dr e1, fun _ z => by cases z⟩, cVs_vb e2⟩
    · cases h
theorem VBs.append {K : PySem.W.Frag} {G H : Hp} {io : List Addr} : ∀ {ws ws' : List V} {vs vs' : List Val}, VBs K G H io ws vs → VBs K G H io ws' vs' → VBs K G H io (ws ++ ws') (vs ++ vs')
  | [], _, [], _, _, h => h
  | _ :: _, _, _ :: _, _, h1, h2 => ⟨h1.1, VBs.append h1.2 h2⟩
  | [], _, _ :: _, _, h, _ => h.elim
  | _ :: _, _, [], _, h, _ => h.elim
section
variable {Z : Sur} {cs : Cs} {σ : St} {G H : Hp} {io : List Addr} {W : WX} {s : S} {X : Cx}
theorem den_call {id n : Nat} {es : List (M Val)} {dfl : List PyData} {dvs : List V} {Q : VK} (hd : cVs dfl = some dvs) (hn : es.length + dvs.length = n) (h : denV Z cs (mCall id es dfl) W σ H Q) :
    tCallSD (spOf Z.K Z.cla n (cs.run id)) dvs (WE W) (denA Z cs (mArgs es) W) σ H Q := by
  obtain ⟨G, io, s, r, h⟩ := h
  have h1 := Aft.bnd h
  refine ⟨G, io, s, r, ?_⟩
  cases e : mArgs es cs s with
  | no => rw [e] at h1; exact h1.elim
  | ex x s' => rw [e] at h1; exact h1
  | ok vs s' =>
    rw [e] at h1
    intro G1 io1 H1 r1 e1 ws hw
    have h2 := h1 G1 io1 H1 r1 e1
    refine ⟨G1, io1, vs ++ dfl.map .dat, s'.ob, ?_, r1.callIn, VBs.append hw (cVs_vb hd), ?_⟩
    · rw [List.length_append, VBs.length hw, mArgs_len e]; exact hn
    · cases q : cs.run id (vs ++ dfl.map .dat) s'.ob with
      | no => simp only [q] at h2; exact h2.elim
      | ok v ob' =>
        simp only [q] at h2
        intro w G' io' H' r' e' t
        exact h2 G' io' H' (r1.callOut r' e') e' w (VT.callOut r1 r' t)
      | ex x ob' =>
        simp only [q] at h2
        intro cls d G' io' H' r' e' t
        exact h2 cls d G' io' H' (r1.callOut r' e') e' t
/-- a call that must not raise -/
def noXC : C → C
  | .ex _ _ => .no
  | r => r
def mCallN (id : Nat) (es : List (M Val)) : M Val := fun cs s => (mArgs es cs s).bnd fun vs s1 => match cs.run id vs s1.ob with
  | .ok v ob => .ok v { s1 with ob := ob }
  | _ => .no
theorem den_callN {id n : Nat} {es : List (M Val)} {Q : VK} {E : St → XK} (hn : es.length = n) (h : denV Z cs (mCallN id es) W σ H Q) :
    tCallS (spOf Z.K Z.cla n fun a o => noXC (cs.run id a o)) E (denA Z cs (mArgs es) W) σ H Q := by
  obtain ⟨G, io, s, r, h⟩ := h
  have h1 := Aft.bnd h
  refine ⟨G, io, s, r, ?_⟩
  cases e : mArgs es cs s with
  | no => rw [e] at h1; exact h1.elim
  | ex x s' => rw [e] at h1; exact h1
  | ok vs s' =>
    rw [e] at h1
    intro G1 io1 H1 r1 e1 ws hw
    have h2 := h1 G1 io1 H1 r1 e1
    refine ⟨G1, io1, vs, s'.ob, by rw [VBs.length hw, mArgs_len e]; exact hn, r1.callIn, hw, ?_⟩
    cases q : cs.run id vs s'.ob with
    | no => simp only [q] at h2; exact h2.elim
    | ok v ob' =>
      simp only [q] at h2
      simp only [q, noXC]
      intro w G' io' H' r' e' t
      exact h2 G' io' H' (r1.callOut r' e') e' w (VT.callOut r1 r' t)
    | ex x ob' => simp only [q] at h2; exact h2.elim
/-- f() -/
theorem pe_callSD0 {CX : CXT} {k : Nat} {f : Addr} {fd : FuncData} {ps : List Str} {sp : Sp} {dvs : List V} {ds : List Value} {E : St → XK} {x : Str} {p pos : Pos} (F : FnOk X.prog X.w X.K X.mg X.base CX k f fd ps sp) (hr : Room k X.A) (hg : Gl X x) (hm : X.mg x = some (.ref f)) (hk : PySem.W.keepIn X.K (.ref f) = true) (hb : Binds X.K fd ps ds) (hd : Vals dvs ds) (hx : ∀ σ, PassesAt CX X σ (E σ))
    (hdb : (x == ("__debug__" : Str)) = false) : PE X (.Call (.Name x p) [] [] pos) (tCallSD sp dvs E tNil) := by
  refine ⟨fun pins s σ H Q I h => ?_⟩
  refine wpAny_Call_Name_kw (ld_glob I hg hm ?_ hdb)
  exact PySem.W.callWith_K0 I.kIn hk (run_fnSD (us := []) F hr hb hd (hx σ) I .nil h)
end

/-! ### what is walked -/
/-- the items of a walk J, over the part that stays -/
structure Wk (K : PySem.W.Frag) (J : It) (G : Hp) (items : List PyData) : Prop where
  go : ∀ (i : Nat) (H : Hp), Sub G H → i < items.length → J.go i H
  stop : ∀ (i : Nat) (H : Hp), Sub G H → items.length ≤ i → J.stop i H
  yld : ∀ (i : Nat) (H : Hp) (x : V) (H' : Hp) (d : PyData), Sub G H → items[i]? = some d → J.yld i H x H' → (H' = H ∧ DR K G x d) ∨ ∃ p vs ds, H p = none ∧ H' = upd H p (.tup vs) ∧ x = .ref p ∧ DRs K G vs ds ∧ d = .tuple ds
theorem sq_inj {K : PySem.W.Frag} {G H : Hp} {a : Addr} {vs : List V} (h : G a = some (.lst vs)) (g : Sub G H) : SqL K H a vs := SqL.of (g _ _ h)
theorem wk_list {K : PySem.W.Frag} {G : Hp} {a : Addr} {vs : List V} {ds : List PyData} (h : G a = some (.lst vs)) (hd : DRs K G vs ds) : Wk K (Itl K a) G ds where
  go := fun i H g hi => by
    have hi' : i < vs.length := by rw [hd.length]; exact hi
    exact ⟨vs, vs[i], sq_inj h g, by simp [hi']⟩
  stop := fun i H g hi => ⟨vs, sq_inj h g, by rw [hd.length]; exact hi⟩
  yld := fun i H x H' d g hi ⟨e, q⟩ => .inl ⟨e, by
    obtain ⟨v, hv, dv⟩ := hd.get hi
    have := q vs (sq_inj h g)
    rw [hv] at this
    cases this
    exact dv⟩
theorem wk_tup {K : PySem.W.Frag} {G : Hp} {a : Addr} {vs : List V} {ds : List PyData} (h : SqT K G a vs) (hd : DRs K G vs ds) : Wk K (Itt K a) G ds where
  go := fun i H g hi => by
    have hi' : i < vs.length := by rw [hd.length]; exact hi
    exact ⟨vs, vs[i], g.sqT h, by simp [hi']⟩
  stop := fun i H g hi => ⟨vs, g.sqT h, by rw [hd.length]; exact hi⟩
  yld := fun i H x H' d g hi ⟨e, q⟩ => .inl ⟨e, by
    obtain ⟨v, hv, dv⟩ := hd.get hi
    have := q vs (g.sqT h)
    rw [hv] at this
    cases this
    exact dv⟩
def signs (z : Str) : List PyData := z.cps.toList.map fun c => .str ⟨#[c]⟩
theorem wk_str {K : PySem.W.Frag} {G : Hp} {z : Str} (o : PyData.strOk z = true) : Wk K (Its z) G (signs z) where
  go := fun i H g hi => by
    have hi' : i < z.cps.size := by simpa [signs] using hi
    exact hi'
  stop := fun i H g hi => by
    have hi' : z.cps.size ≤ i := by simpa [signs] using hi
    exact hi'
  yld := fun i H x H' d g hi ⟨e, c, hc, ev⟩ => .inl ⟨e, by
    subst ev
    unfold signs at hi
    rw [List.getElem?_map, Array.getElem?_toList, hc] at hi
    cases hi
    refine .str _ (strOk_of o (l := [c]) fun k hk => ?_)
    rw [List.mem_singleton] at hk
    subst hk
    rw [← Array.getElem?_toList] at hc
    exact List.mem_of_getElem? hc⟩
def nums (lo : Int) (n : Nat) : List PyData := (List.range n).map fun (k : Nat) => .int (lo + k)
theorem wk_range {K : PySem.W.Frag} {G : Hp} (lo : Int) (n : Nat) : Wk K (Itr lo n) G (nums lo n) where
  go := fun i H g hi => by
    have hi' : i < n := by simpa [nums] using hi
    exact hi'
  stop := fun i H g hi => by
    have hi' : n ≤ i := by simpa [nums] using hi
    exact hi'
  yld := fun i H x H' d g hi ⟨e, ev⟩ => .inl ⟨e, by
    subst ev
    unfold nums at hi
    rw [List.getElem?_map] at hi
    cases q : (List.range n)[i]? with
    | none => rw [q] at hi; cases hi
    | some j =>
      rw [q] at hi
      obtain ⟨h1, h2⟩ := List.getElem?_eq_some_iff.mp q
      rw [List.getElem_range] at h2
      subst h2
      cases hi
      exact .int _⟩
/-- i, i - 1, .. (n of them) -/
def downs (i : Int) (n : Nat) : List PyData := (List.range n).map fun (k : Nat) => .int (i - k)
theorem wk_down {K : PySem.W.Frag} {G : Hp} (lo : Int) (n : Nat) : Wk K (Itc lo (-1) n) G (downs lo n) where
  go := fun i H g hi => by
    have hi' : i < n := by simpa [downs] using hi
    exact hi'
  stop := fun i H g hi => by
    have hi' : n ≤ i := by simpa [downs] using hi
    exact hi'
  yld := fun i H x H' d g hi ⟨e, ev⟩ => .inl ⟨e, by
    subst ev
    unfold downs at hi
    rw [List.getElem?_map] at hi
    cases q : (List.range n)[i]? with
    | none => rw [q] at hi; cases hi
    | some j =>
      rw [q] at hi
      obtain ⟨h1, h2⟩ := List.getElem?_eq_some_iff.mp q
      rw [List.getElem_range] at h2
      subst h2
      cases hi
      have ez : lo - (i : Int) = lo + (i : Nat) * (-1) := by omega
      show DR K G (V.int (lo + (i : Nat) * (-1))) (.int (lo - (i : Int)))
      rw [ez]
      exact .int _⟩
theorem wk_rev {K : PySem.W.Frag} {G : Hp} {a : Addr} {vs : List V} {ds : List PyData} (h : G a = some (.lst vs)) (hd : DRs K G vs ds) : Wk K (Itv K a vs.length) G ds.reverse where
  go := fun i H g hi => by
    rw [List.length_reverse, ← hd.length] at hi
    have : vs.length - 1 - i < vs.length := by omega
    exact ⟨hi, vs, vs[vs.length - 1 - i], sq_inj h g, by simp [this]⟩
  stop := fun i H g hi => by
    rw [List.length_reverse, ← hd.length] at hi
    exact hi
  yld := fun i H x H' d g hi ⟨e, q⟩ => .inl ⟨e, by
    have hl := hd.length
    have hi2 : i < ds.length := by
      have := (List.getElem?_eq_some_iff.mp hi).1
      rwa [List.length_reverse] at this
    rw [List.getElem?_reverse hi2] at hi
    obtain ⟨v, hv, dv⟩ := hd.get hi
    have := q vs (sq_inj h g)
    rw [hl, hv] at this
    cases this
    exact dv⟩
def pairs (ds : List PyData) : List PyData := ds.zipIdx.map fun p => .tuple [.int p.2, p.1]
theorem wk_enum {K : PySem.W.Frag} {G : Hp} {a : Addr} {vs : List V} {ds : List PyData} (h : G a = some (.lst vs)) (hd : DRs K G vs ds) : Wk K (Ite K a) G (pairs ds) where
  go := fun i H g hi => by
    have hi' : i < vs.length := by rw [hd.length]; simpa [pairs] using hi
    exact ⟨vs, vs[i], sq_inj h g, by simp [hi']⟩
  stop := fun i H g hi => ⟨vs, sq_inj h g, by rw [hd.length]; simpa [pairs] using hi⟩
  yld := fun i H x H' d g hi ⟨T, y, ex, hT, eH, q⟩ => .inr (by
    unfold pairs at hi
    rw [List.getElem?_map, List.getElem?_zipIdx] at hi
    cases q2 : ds[i]? with
    | none => rw [q2] at hi; cases hi
    | some d0 =>
      rw [q2] at hi
      obtain ⟨v, hv, dv⟩ := hd.get q2
      have := q vs (sq_inj h g)
      rw [hv] at this
      cases this
      refine ⟨T, _, [.int ((0 + i : Nat) : Int), d0], hT, eH, ex, ?_, (Option.some.inj hi).symm⟩
      rw [Nat.zero_add]
      exact .cons (.int _) (.cons dv .nil))
theorem wk_zip {K : PySem.W.Frag} {G : Hp} {a b : Addr} {vs us : List V} {ds es : List PyData} (h : G a = some (.lst vs)) (hd : DRs K G vs ds) (h2 : G b = some (.lst us)) (hd2 : DRs K G us es) : Wk K (Itz K a b) G (List.zipWith (fun x y => .tuple [x, y]) ds es) where
  go := fun i H g hi => by
    rw [List.length_zipWith, ← hd.length, ← hd2.length] at hi
    have h1 : i < vs.length := by omega
    have h3 : i < us.length := by omega
    exact ⟨vs, us, vs[i], us[i], sq_inj h g, sq_inj h2 g, by simp [h1], by simp [h3]⟩
  stop := fun i H g hi => by
    rw [List.length_zipWith, ← hd.length, ← hd2.length] at hi
    exact ⟨vs, us, sq_inj h g, sq_inj h2 g, by omega⟩
  yld := fun i H x H' d g hi ⟨T, y, z, ex, hT, eH, q, q'⟩ => .inr (by
    rw [List.getElem?_zipWith] at hi
    cases e1 : ds[i]? with
    | none => rw [e1] at hi; cases hi
    | some d1 =>
      cases e2 : es[i]? with
      | none => rw [e1, e2] at hi; cases hi
      | some d2 =>
        rw [e1, e2] at hi
        obtain ⟨v, hv, dv⟩ := hd.get e1
        obtain ⟨u, hu, du⟩ := hd2.get e2
        have := q vs (sq_inj h g)
        rw [hv] at this
        cases this
        have := q' us (sq_inj h2 g)
        rw [hu] at this
        cases this
        exact ⟨T, _, [d1, d2], hT, eH, ex, .cons dv (.cons du .nil), (Option.some.inj hi).symm⟩)

/-- a list, a tuple or a text, walked -/
def iSeq (K : PySem.W.Frag) (te : TE) : TI := fun σ H R => te σ H fun x H1 => (∃ a xs, x = .ref a ∧ SqL K H1 a xs ∧ R (Itl K a) H1) ∨ (∃ a xs, x = .ref a ∧ SqT K H1 a xs ∧ R (Itt K a) H1) ∨ (∃ z, x = .str z ∧ R (Its z) H1)
section
variable {X : Cx} {tg : Expr}
theorem pi_seq {e : Expr} {te : TE} (he : PE X e te) : PI X tg e (iSeq X.K te) := by
  refine ⟨fun pins s σ H R I h => ?_⟩
  refine thn (he.run pins s σ H _ I h) fun v s1 ⟨x, H1, I1, r1, q1⟩ => ?_
  rcases q1 with ⟨a, xs, rfl, hq, q⟩ | ⟨a, xs, rfl, hq, q⟩ | ⟨z, rfl, q⟩
  · cases r1
    obtain ⟨its, rv, p, hz⟩ := I1.list hq
    exact wpAny_pyIter_list p.isList (pi_one (tk := s1.toks) I1 _ (turn_list a _) ⟨_, Heap.get?_push_size _ rfl, rfl, rfl⟩ q)
  · cases r1
    obtain ⟨its, rv, p, hz⟩ := I1.tuple hq
    exact wpAny_pyIter_tuple (show s1.heap.IsTuple a its.toArray from p) (pi_one (tk := s1.toks) I1 _ (turn_tuple a _) ⟨_, Heap.get?_push_size _ rfl, rfl, rfl⟩ q)
  · obtain ⟨t, rfl⟩ := r1
    cases ha : z.cps.all (· < 128)
    · exact wpAny_pyIter_wide ha (pi_one (tk := s1.toks) I1 _ (turn_str _ z t "str_iterator" (.inr rfl)) ⟨_, Heap.get?_push_size _ rfl, rfl, rfl⟩ q)
    · exact wpAny_pyIter_ascii ha (pi_one (tk := s1.toks) I1 _ (turn_str _ z t "str_ascii_iterator" (.inl rfl)) ⟨_, Heap.get?_push_size _ rfl, rfl, rfl⟩ q)
end

/-! ### items -/
def seqOf : Val → Option (List PyData)
  | .dat (.list xs) => some xs
  | .dat (.tuple xs) => some xs
  | .dat (.str z) => some (signs z)
  | _ => none
def lstOf : Val → Option (List PyData)
  | .dat (.list xs) => some xs
  | _ => none
def small62 (i : Int) : Bool := Nat.ble i.natAbs 1000000000
inductive Src where
  | seq (f : M Val) | range1 (f : M Val) | range2 (f g : M Val) | range3 (f g h : M Val) | enum (f : M Val) | rev (f : M Val) | zip (f g : M Val) | objl (f : M Val)
def givI (s : S) : Option (List PyData) → R (List PyData)
  | some v => .ok v s
  | none => .no
def itemsOf (a : Src) : M (List PyData) := fun cs s => match a with
  | .seq f => (mArgs [f] cs s).bnd fun vs s1 => givI s1 (match vs with | [v] => seqOf v | _ => none)
  | .range1 f => (mArgs [f] cs s).bnd fun vs s1 => givI s1 (match vs with | [.dat (.int j)] => if small62 j then some (nums 0 j.toNat) else none | _ => none)
  | .range2 f g => (mArgs [f, g] cs s).bnd fun vs s1 => givI s1 (match vs with | [.dat (.int i), .dat (.int j)] => if small62 i && small62 j then some (nums i (j - i).toNat) else none | _ => none)
  | .range3 f g h => (mArgs [f, g, h] cs s).bnd fun vs s1 => givI s1 (match vs with | [.dat (.int i), .dat (.int j), .dat (.int c)] => if decide (c = -1) && (small62 i && small62 j) then some (downs i (i - j).toNat) else none | _ => none)
  | .enum f => (mArgs [f] cs s).bnd fun vs s1 => givI s1 (match vs with | [v] => (lstOf v).map pairs | _ => none)
  | .rev f => (mArgs [f] cs s).bnd fun vs s1 => givI s1 (match vs with | [v] => (lstOf v).map List.reverse | _ => none)
  | .zip f g => (mArgs [f, g] cs s).bnd fun vs s1 => givI s1 (match vs with | [v, u] => (match lstOf v, lstOf u with | some xs, some ys => some (List.zipWith (fun x y => .tuple [x, y]) xs ys) | _, _ => none) | _ => none)
  | .objl _ => .no
/-- the layer's reading of a source -/
def tSrc (Z : Sur) (cs : Cs) (W : WX) : Src → TI
  | .seq f => iSeq Z.K (fun σ H Q => denA Z cs (mArgs [f]) W σ H fun vs H1 => ∃ v, vs = [v] ∧ Q v H1)
  | .range1 f => iRng1 (denA Z cs (mArgs [f]) W)
  | .range2 f g => iRng2 (denA Z cs (mArgs [f, g]) W)
  | .range3 f g h => iRng3 (denA Z cs (mArgs [f, g, h]) W)
  | .enum f => iEnum Z.K (denA Z cs (mArgs [f]) W)
  | .rev f => iRev Z.K (denA Z cs (mArgs [f]) W)
  | .zip f g => iZip Z.K (denA Z cs (mArgs [f, g]) W)
  | .objl f => iSeq Z.K (denV Z cs f W)
theorem DR.lst_ {K : PySem.W.Frag} {G : Hp} {w : V} {ds : List PyData} (h : DR K G w (.list ds)) : ∃ a vs, w = .ref a ∧ G a = some (.lst vs) ∧ DRs K G vs ds := by
  cases h with | lst h1 h2 => exact ⟨_, _, rfl, h1, h2⟩
theorem lst_of {K : PySem.W.Frag} {G H : Hp} {io : List Addr} {w : V} {v : Val} {xs : List PyData} (b : VB K G H io w v) (e : lstOf v = some xs) : ∃ a vs, w = .ref a ∧ G a = some (.lst vs) ∧ DRs K G vs xs := by
  unfold lstOf at e
  split at e
  · cases e
    exact DR.lst_ b
  · cases e
theorem small62_ {i : Int} (h : small62 i = true) : -(2 ^ 62) ≤ i ∧ i < 2 ^ 62 := by
  unfold small62 at h
  have := Nat.le_of_ble_eq_true h
  omega
section
variable {Z : Sur} {cs : Cs} {σ : St} {G H : Hp} {io : List Addr} {W : WX} {s : S} {X : Cx}
theorem VBs.one {K : PySem.W.Frag} {w : V} {vs : List Val} (h : VBs K G H io [w] vs) : ∃ v, vs = [v] ∧ VB K G H io w v := by
  match vs, h with
  | [v], h => exact ⟨v, rfl, h.1.1⟩
theorem VBs.ones {K : PySem.W.Frag} {ws : List V} {v : Val} (h : VBs K G H io ws [v]) : ∃ w, ws = [w] ∧ VB K G H io w v := by
  match ws, h with
  | [w], h => exact ⟨w, rfl, h.1.1⟩
theorem VBs.twos {K : PySem.W.Frag} {ws : List V} {v u : Val} (h : VBs K G H io ws [v, u]) : ∃ w w', ws = [w, w'] ∧ VB K G H io w v ∧ VB K G H io w' u := by
  match ws, h with
  | [w, w'], h => exact ⟨w, w', rfl, h.1.1, h.2.1.1⟩
theorem src_ok {β : Type} {a : Src} {k : List PyData → S → R β} {P : Po β} (r : SR Z G io σ s H) (h : Aft Z σ G io W P ((itemsOf a cs s).bnd k)) :
    tSrc Z cs W a σ H fun J H1 => ∃ items G1 io1 s1, SR Z G1 io1 σ s1 H1 ∧ Ext G io G1 io1 ∧ Wk Z.K J G1 items ∧ Aft Z σ G1 io1 W P (k items s1) := by
  have h0 := Aft.bnd h
  -- the arguments, then what they say
  have key : ∀ {fs : List (M Val)} {g : List Val → Option (List PyData)} {T : List V → Hp → Prop}, Aft Z σ G io W (fun items G1 io1 s1 _ => Aft Z σ G1 io1 W P (k items s1)) ((mArgs fs cs s).bnd fun vs s1 => givI s1 (g vs)) →
      (∀ vs ws items G1 io1 s1 H1, SR Z G1 io1 σ s1 H1 → Ext G io G1 io1 → VBs Z.K G1 H1 io1 ws vs → g vs = some items → Aft Z σ G1 io1 W P (k items s1) → T ws H1) → denA Z cs (mArgs fs) W σ H T := by
    intro fs g T h1 q
    refine ⟨G, io, s, r, (Aft.bnd h1).mono fun vs G1 io1 s1 H1 r1 e1 p ws hw => ?_⟩
    cases e : g vs with
    | none => rw [e] at p; exact p.elim
    | some items =>
      rw [e] at p
      exact q vs ws items G1 io1 s1 H1 r1 e1 hw e (p G1 io1 H1 r1 (Ext.refl _ _))
  cases a with
  | seq f =>
    refine key h0 fun vs ws items G1 io1 s1 H1 r1 e1 hw e p => ?_
    split at e
    · rename_i v
      obtain ⟨w, rfl, b⟩ := VBs.ones hw
      refine ⟨w, rfl, ?_⟩
      unfold seqOf at e
      split at e
      · cases e
        obtain ⟨a, us, rfl, h1, h2⟩ := DR.lst_ b
        exact .inl ⟨a, us, rfl, SqL.of (r1.sub _ _ h1), _, G1, io1, s1, r1, e1, wk_list h1 h2, p⟩
      · cases e
        obtain ⟨a, us, rfl, h1, h2⟩ := DR.tup_ b
        exact .inr (.inl ⟨a, us, rfl, r1.sub.sqT h1, _, G1, io1, s1, r1, e1, wk_tup h1 h2, p⟩)
      · cases e
        obtain ⟨rfl, o⟩ := DR.str_ b
        exact .inr (.inr ⟨_, rfl, _, G1, io1, s1, r1, e1, wk_str o, p⟩)
      · cases e
    · cases e
  | range1 f =>
    refine key h0 fun vs ws items G1 io1 s1 H1 r1 e1 hw e p => ?_
    split at e
    · split at e
      · rename_i j hj
        cases e
        obtain ⟨w, rfl, b⟩ := VBs.ones hw
        cases DR.int_ b
        exact ⟨j, rfl, (small62_ hj).1, (small62_ hj).2, _, G1, io1, s1, r1, e1, wk_range 0 j.toNat, p⟩
      · cases e
    · cases e
  | range2 f g =>
    refine key h0 fun vs ws items G1 io1 s1 H1 r1 e1 hw e p => ?_
    split at e
    · split at e
      · rename_i i j hj
        cases e
        obtain ⟨w, w', rfl, b, b'⟩ := VBs.twos hw
        cases DR.int_ b
        cases DR.int_ b'
        rw [Bool.and_eq_true] at hj
        exact ⟨i, j, rfl, ⟨(small62_ hj.1).1, (small62_ hj.1).2, (small62_ hj.2).1, (small62_ hj.2).2⟩, _, G1, io1, s1, r1, e1, wk_range i (j - i).toNat, p⟩
      · cases e
    · cases e
  | range3 f g h =>
    refine key h0 fun vs ws items G1 io1 s1 H1 r1 e1 hw e p => ?_
    split at e
    · split at e
      · rename_i i j c hj
        cases e
        match ws, hw with
        | [w, w', w2], hw =>
          cases DR.int_ hw.1.1
          cases DR.int_ hw.2.1.1
          cases DR.int_ hw.2.2.1.1
          simp only [Bool.and_eq_true, decide_eq_true_eq] at hj
          obtain ⟨rfl, hi, hj⟩ := hj
          exact ⟨i, j, -1, (i - j).toNat, rfl, RgC.neg (small62_ hi).1 (small62_ hi).2 (small62_ hj).1 (small62_ hj).2, _, G1, io1, s1, r1, e1, wk_down i (i - j).toNat, p⟩
      · cases e
    · cases e
  | enum f =>
    refine key h0 fun vs ws items G1 io1 s1 H1 r1 e1 hw e p => ?_
    split at e
    · obtain ⟨xs, e2, rfl⟩ := map_some e
      obtain ⟨w, rfl, b⟩ := VBs.ones hw
      obtain ⟨a, us, rfl, h1, h2⟩ := lst_of b e2
      exact ⟨a, us, rfl, SqL.of (r1.sub _ _ h1), _, G1, io1, s1, r1, e1, wk_enum h1 h2, p⟩
    · cases e
  | rev f =>
    refine key h0 fun vs ws items G1 io1 s1 H1 r1 e1 hw e p => ?_
    split at e
    · obtain ⟨xs, e2, rfl⟩ := map_some e
      obtain ⟨w, rfl, b⟩ := VBs.ones hw
      obtain ⟨a, us, rfl, h1, h2⟩ := lst_of b e2
      exact ⟨a, us, rfl, SqL.of (r1.sub _ _ h1), _, G1, io1, s1, r1, e1, wk_rev h1 h2, p⟩
    · cases e
  | zip f g =>
    refine key h0 fun vs ws items G1 io1 s1 H1 r1 e1 hw e p => ?_
    split at e
    · split at e
      · rename_i xs ys e2 e3
        cases e
        obtain ⟨w, w', rfl, b, b'⟩ := VBs.twos hw
        obtain ⟨a, us, rfl, h1, h2⟩ := lst_of b e2
        obtain ⟨a', us', rfl, h1', h2'⟩ := lst_of b' e3
        exact ⟨a, a', us, us', rfl, SqL.of (r1.sub _ _ h1), SqL.of (r1.sub _ _ h1'), _, G1, io1, s1, r1, e1, wk_zip h1 h2 h1' h2', p⟩
      · cases e
    · cases e
  | objl f => exact absurd h0 (fun z => z)
end
end CH

/-! CH5: targets; list comprehensions. -/
namespace CH
open PySem L2

inductive Tg where
  | nm (i : Nat) | tup (ts : List Tg)
mutual
def tgPut : Tg → PyData → S → Option S
  | .nm i, d, s => some (s.put i (some (.dat d)))
  | .tup ts, .tuple ds, s => tgPuts ts ds s
  | .tup _, _, _ => none
def tgPuts : List Tg → List PyData → S → Option S
  | [], [], s => some s
  | t :: ts, d :: ds, s => (tgPut t d s).bind fun s' => tgPuts ts ds s'
  | _, _, _ => none
end
mutual
def tgSlots : Tg → List Nat
  | .nm i => [i]
  | .tup ts => tgsSlots ts
def tgsSlots : List Tg → List Nat
  | [] => []
  | t :: ts => tgSlots t ++ tgsSlots ts
end
theorem tgPuts_len : ∀ {ts : List Tg} {ds : List PyData} {s s' : S}, tgPuts ts ds s = some s' → ts.length = ds.length
  | [], [], _, _, _ => rfl
  | t :: ts, d :: ds, s, s', h => by
    unfold tgPuts at h
    cases e : tgPut t d s with
    | none => rw [e] at h; cases h
    | some s1 =>
      rw [e] at h
      exact congrArg (· + 1) (tgPuts_len (s := s1) h)
  | [], _ :: _, _, _, h => by unfold tgPuts at h; cases h
  | _ :: _, [], _, _, h => by unfold tgPuts at h; cases h

/-- slots that stand as they stood, but for some -/
structure But (l : List Nat) (σ σ' : St) : Prop where
  len : σ'.length = σ.length
  eq : ∀ j, j ∉ l → σ'[j]? = σ[j]?
theorem But.refl (l : List Nat) (σ : St) : But l σ σ := ⟨rfl, fun _ _ => rfl⟩
theorem But.trans {l l' : List Nat} {σ σ1 σ2 : St} (a : But l σ σ1) (b : But l' σ1 σ2) : But (l ++ l') σ σ2 :=
  ⟨b.len.trans a.len, fun j h => (b.eq j fun z => h (List.mem_append_right _ z)).trans (a.eq j fun z => h (List.mem_append_left _ z))⟩
/-- a target's reading -/
def denG (Z : Sur) (t : Tg) : TG := fun v σ H Q => ∃ G io s d s', SR Z G io σ s H ∧ DR Z.K G v d ∧ tgPut t d s = some s' ∧ ∀ σ', SR Z G io σ' s' H → But (tgSlots t) σ σ' → Q σ' H
def denGs (Z : Sur) (ts : List Tg) : TGs := fun vs σ H Q => ∃ G io s ds s', SR Z G io σ s H ∧ DRs Z.K G vs ds ∧ tgPuts ts ds s = some s' ∧ ∀ σ', SR Z G io σ' s' H → But (tgsSlots ts) σ σ' → Q σ' H
section
variable {Z : Sur} {cs : Cs} {σ : St} {G H : Hp} {io : List Addr} {W : WX} {s : S} {X : Cx}
theorem den_gname {i : Nat} {v : V} {Q : St → Hp → Prop} (h : denG Z (.nm i) v σ H Q) : gName i v σ H Q := by
  obtain ⟨G, io, s, d, s', r, hd, e, q⟩ := h
  unfold tgPut at e
  cases e
  refine q _ (r.store (.dat hd)) ⟨List.length_set, fun j hj => List.getElem?_set_ne ?_⟩
  intro z
  exact hj (by simp [tgSlots, z])
theorem den_gnil {vs : List V} {Q : St → Hp → Prop} (h : denGs Z [] vs σ H Q) : gNil vs σ H Q := by
  obtain ⟨G, io, s, d, s', r, hd, e, q⟩ := h
  cases hd with
  | nil =>
    unfold tgPuts at e
    cases e
    exact ⟨rfl, q _ r (But.refl _ _)⟩
  | cons => unfold tgPuts at e; cases e
theorem den_gcons {t : Tg} {ts : List Tg} {vs : List V} {Q : St → Hp → Prop} (h : denGs Z (t :: ts) vs σ H Q) : gCons (denG Z t) (denGs Z ts) vs σ H Q := by
  obtain ⟨G, io, s, ds, s', r, hd, e, q⟩ := h
  cases hd with
  | nil => unfold tgPuts at e; cases e
  | cons h1 h2 =>
    rename_i v vs d ds
    unfold tgPuts at e
    cases e1 : tgPut t d s with
    | none => rw [e1] at e; cases e
    | some s1 =>
      rw [e1] at e
      refine ⟨v, vs, rfl, G, io, s, d, s1, r, h1, e1, fun σ1 r1 b1 => ?_⟩
      exact ⟨G, io, s1, ds, s', r1, h2, e, fun σ2 r2 b2 => q σ2 r2 (by unfold tgsSlots; exact b1.trans b2)⟩
theorem den_gtup {ts : List Tg} {v : V} {Q : St → Hp → Prop} (h : denG Z (.tup ts) v σ H Q) : gTup Z.K ts.length (denGs Z ts) v σ H Q := by
  obtain ⟨G, io, s, d, s', r, hd, e, q⟩ := h
  cases d with
  | tuple ds =>
    have e : tgPuts ts ds s = some s' := by unfold tgPut at e; exact e
    obtain ⟨a, vs, rfl, t1, d1⟩ := DR.tup_ hd
    refine ⟨a, vs, rfl, r.sub.sqT t1, ?_, G, io, s, ds, s', r, d1, e, fun σ' r' b' => q σ' r' ?_⟩
    · rw [d1.length]; exact (tgPuts_len e).symm
    · unfold tgSlots; exact b'
  | none => unfold tgPut at e; cases e
  | bool _ => unfold tgPut at e; cases e
  | int _ => unfold tgPut at e; cases e
  | str _ => unfold tgPut at e; cases e
  | list _ => unfold tgPut at e; cases e
  | dict _ => unfold tgPut at e; cases e
theorem PG.imp {e : Expr} {t t' : TG} (h : PG X e t) (f : ∀ v σ H Q, t' v σ H Q → t v σ H Q) : PG X e t' := ⟨fun pins s σ H v u Q I r q => h.run pins s σ H v u Q I r (f v σ H Q q)⟩
theorem PGs.imp {e : List Expr} {t t' : TGs} (h : PGs X e t) (f : ∀ v σ H Q, t' v σ H Q → t v σ H Q) : PGs X e t' := ⟨fun pins s σ H v u Q I r q => h.run pins s σ H v u Q I r (f v σ H Q q)⟩
end

/-! ### comprehensions -/
def S.wipe (s : S) : List Nat → S
  | [] => s
  | i :: l => (s.wipe l).put i none
def S.back (s s0 : S) : List Nat → S
  | [] => s
  | i :: l => (s.back s0 l).put i (s0.at_ i)
def compLoop (tg : Tg) (own : List Nat) (t : Option (M Bool)) (elt : M Val) (cs : Cs) : List PyData → List PyData → S → R (List PyData)
  | [], acc, s => .ok acc s
  | d :: ds, acc, s => match tgPut tg d s with
    | none => .no
    | some s1 => match (match t with
        | none => R.ok true s1
        | some f => f cs s1) with
      | .ok true s2 => (match elt cs s2 with
        | .ok v s3 => (match toD v with
          | some y => if acc.length < big then compLoop tg own t elt cs ds (acc ++ [y]) (s3.wipe own) else .no
          | none => .no)
        | _ => .no)
      | .ok false s2 => compLoop tg own t elt cs ds acc (s2.wipe own)
      | _ => .no
/-- no own list in these slots -/
def S.calm (s : S) (l : List Nat) : Bool := l.all fun i => match s.at_ i with
  | some (.own _) => false
  | _ => true
def mComp (src : Src) (tg : Tg) (own : List Nat) (t : Option (M Bool)) (elt : M Val) : M Val := fun cs s => (itemsOf src cs s).bnd fun items s1 =>
  if s1.calm own = true ∧ (tgSlots tg).all (fun i => own.contains i) = true then match compLoop tg own t elt cs items [] (s1.wipe own) with
    | .ok acc s2 => .ok (.own acc) (s2.back s1 own)
    | _ => .no
  else .no

theorem wipe_len (s : S) : ∀ l, (s.wipe l).sl.length = s.sl.length
  | [] => rfl
  | i :: l => by show ((s.wipe l).sl.set i none).length = _; rw [List.length_set]; exact wipe_len s l
theorem back_len (s s0 : S) : ∀ l, (s.back s0 l).sl.length = s.sl.length
  | [] => rfl
  | i :: l => by show ((s.back s0 l).sl.set i _).length = _; rw [List.length_set]; exact back_len s s0 l
theorem wipe_ob (s : S) : ∀ l, (s.wipe l).ob = s.ob
  | [] => rfl
  | i :: l => wipe_ob s l
theorem back_ob (s s0 : S) : ∀ l, (s.back s0 l).ob = s.ob
  | [] => rfl
  | i :: l => back_ob s s0 l
theorem at_put {s : S} {i j : Nat} {o : Option Val} {v : Val} (h : (s.put i o).at_ j = some v) : (j = i ∧ o = some v) ∨ (j ≠ i ∧ s.at_ j = some v) := by
  by_cases z : j = i
  · subst z
    have hl := at_lt h
    have hl : j < s.sl.length := by
      have : (s.put j o).sl.length = s.sl.length := List.length_set
      omega
    rw [at_put_same hl] at h
    exact .inl ⟨rfl, h⟩
  · rw [at_put_ne z] at h; exact .inr ⟨z, h⟩
theorem at_wipe {s : S} {j : Nat} {v : Val} : ∀ {l : List Nat}, (s.wipe l).at_ j = some v → j ∉ l ∧ s.at_ j = some v
  | [], h => ⟨by simp, h⟩
  | i :: l, h => by
    rcases at_put h with ⟨_, z⟩ | ⟨ne, h⟩
    · cases z
    · obtain ⟨h1, h2⟩ := at_wipe h
      exact ⟨by simp [ne, h1], h2⟩
theorem at_back {s s0 : S} {j : Nat} {v : Val} : ∀ {l : List Nat}, (s.back s0 l).at_ j = some v → (j ∈ l ∧ s0.at_ j = some v) ∨ (j ∉ l ∧ s.at_ j = some v)
  | [], h => .inr ⟨by simp, h⟩
  | i :: l, h => by
    rcases at_put h with ⟨z, e⟩ | ⟨ne, h⟩
    · subst z; exact .inl ⟨by simp, e⟩
    · rcases at_back h with ⟨h1, h2⟩ | ⟨h1, h2⟩
      · exact .inl ⟨by simp [h1], h2⟩
      · exact .inr ⟨by simp [ne, h1], h2⟩
theorem wipe_in {σ : St} {i : Nat} : ∀ {l : List Nat}, i ∉ l → (wipe σ l)[i]? = σ[i]? := fun h => wipe_out h
theorem wipe_eq {σ σ' : St} : ∀ {l : List Nat}, σ'.length = σ.length → (∀ j, j ∉ l → σ'[j]? = σ[j]?) → wipe σ' l = wipe σ l := by
  intro l hl h
  apply List.ext_getElem?
  intro j
  by_cases hj : j ∈ l
  · -- within: nothing stands there, in both
    have none_at : ∀ (τ : St) (l : List Nat), j ∈ l → j < τ.length → (wipe τ l)[j]? = some none := by
      intro τ l
      induction l with
      | nil => intro z; simp at z
      | cons i l ih =>
        intro hm ht
        show ((wipe τ l).set i none)[j]? = _
        by_cases e : i = j
        · subst e
          exact List.getElem?_set_self (by rw [wipe_length]; exact ht)
        · rw [List.getElem?_set_ne e]
          rcases List.mem_cons.mp hm with z | z
          · exact absurd z.symm e
          · exact ih z ht
    by_cases ht : j < σ.length
    · rw [none_at σ l hj ht, none_at σ' l hj (by rw [hl]; exact ht)]
    · rw [List.getElem?_eq_none (by rw [wipe_length, hl]; omega), List.getElem?_eq_none (by rw [wipe_length]; omega)]
  · rw [wipe_in hj, wipe_in hj]; exact h j hj
section
variable {Z : Sur} {cs : Cs} {σ : St} {G H : Hp} {io : List Addr} {W : WX} {s : S} {X : Cx}
theorem SR.wiped (r : SR Z G io σ s H) (hx : Z.xs = none) (l : List Nat) : SR Z G io (L2.wipe σ l) (s.wipe l) H where
  sub := r.sub
  old := r.old
  gold := r.gold
  iold := r.iold
  kept := r.kept
  slot := fun i v h => by
    obtain ⟨h1, h2⟩ := at_wipe h
    obtain ⟨w, e, b⟩ := r.slot i v h2
    exact ⟨w, by rw [wipe_in h1]; exact e, b⟩
  mine := fun i xs a h e => by
    obtain ⟨h1, h2⟩ := at_wipe h
    rw [wipe_in h1] at e
    obtain ⟨m, q⟩ := r.mine i xs a h2 e
    refine ⟨m, fun j ys hj ej => ?_⟩
    obtain ⟨h3, h4⟩ := at_wipe hj
    rw [wipe_in h3] at ej
    exact q j ys h4 ej
  ol := by rw [wipe_ob]; exact r.ol
  ond := r.ond
  ofr := r.ofr
  ob := by rw [wipe_ob]; exact r.ob
  len := by rw [wipe_len, wipe_length]; exact r.len
  xx := ⟨fun _ _ h => (by rw [hx] at h; cases h), r.xx.fl⟩
/-- the surroundings while the list of a comprehension stands at D -/
def Sur.hold (Z : Sur) (D : Addr) (vs : List V) : Sur := { Z with kp := upd Z.kp D (.lst vs) }
theorem SR.holds {D : Addr} {vs : List V} (r : SR Z G io σ s H) (hD : H D = some (.lst vs)) (hg : G D = none) (hi : D ∉ io) (h0 : Z.H0 D = none) (nm : ∀ (i : Nat) (xs : List PyData), s.at_ i = some (.own xs) → σ[i]? ≠ some (some (.ref D))) : SR (Z.hold D vs) G io σ s H where
  sub := r.sub
  old := r.old
  gold := r.gold
  iold := r.iold
  kept := fun a o h => by
    by_cases e : a = D
    · subst e
      have h : upd Z.kp a (.lst vs) a = some o := h
      rw [upd_same] at h
      cases h
      exact ⟨hD, hg, hi, h0⟩
    · have h : upd Z.kp D (.lst vs) a = some o := h
      rw [upd_ne e] at h
      exact r.kept a o h
  slot := r.slot
  mine := fun i xs a h e => by
    obtain ⟨m, q⟩ := r.mine i xs a h e
    have ne : a ≠ D := fun z => nm i xs h (by rw [← z]; exact e)
    refine ⟨⟨m.g, m.h0, ?_, m.io, m.h⟩, q⟩
    show upd Z.kp D (.lst vs) a = none
    rw [upd_ne ne]; exact m.kp
  ol := r.ol
  ond := r.ond
  ofr := r.ofr
  ob := r.ob
  len := r.len
  xx := ⟨r.xx.sl, r.xx.fl⟩
/-- the list at D grows -/
theorem SR.grows {D : Addr} {vs : List V} (us : List V) (r : SR (Z.hold D vs) G io σ s H) : SR (Z.hold D us) G io σ s (upd H D (.lst us)) := by
  obtain ⟨hD, hg, hi, h0⟩ := r.kept D (.lst vs) upd_same
  have h0 : Z.H0 D = none := h0
  have ob : ∀ (a : Addr) (o : Ob), a ∈ io → ObR Z.K Z.cla G H io a o → ObR Z.K Z.cla G (upd H D (.lst us)) io a o := fun a o ha h => by
    have ne : a ≠ D := fun z => hi (z ▸ ha)
    have vb : ∀ w v, (∀ xs, v ≠ .own xs) → VB Z.K G H io w v → VB Z.K G (upd H D (.lst us)) io w v := fun w v n h => VB.up h n (Ext.refl _ _)
    cases o with
    | lst xs => obtain ⟨ws, h1, h2⟩ := h; exact ⟨ws, by rw [upd_ne ne]; exact h1, h2⟩
    | dct kvs => obtain ⟨ws, h1, h2⟩ := h; exact ⟨ws, by rw [upd_ne ne]; exact h1, h2⟩
    | mix us => obtain ⟨ws, h1, h2, h3⟩ := h; exact ⟨ws, by rw [upd_ne ne]; exact h1, h2, fun p hp => ⟨vb _ _ (h3 p hp).2 (h3 p hp).1, (h3 p hp).2⟩⟩
    | ins c fs => obtain ⟨C, dx, gs, h0', h1, h2, h3⟩ := h; exact ⟨C, dx, gs, h0', by rw [upd_ne ne]; exact h1, h2, fun p hp => ⟨vb _ _ (h3 p hp).2 (h3 p hp).1, (h3 p hp).2⟩⟩
  have kD : ∀ {a : Addr}, (Z.hold D vs).kp a = none → a ≠ D := fun {a} h z => by
    subst z
    have h : upd Z.kp a (.lst vs) a = none := h
    rw [upd_same] at h; cases h
  exact {
    sub := fun a o h => by
      have ne : a ≠ D := ne_of_none h hg
      rw [upd_ne ne]; exact r.sub a o h
    old := fun a o h n => by
      have ne : a ≠ D := ne_of_none h h0
      rw [upd_ne ne]; exact r.old a o h n
    gold := r.gold
    iold := r.iold
    kept := fun a o h => by
      by_cases e : a = D
      · subst e
        have h : upd Z.kp a (.lst us) a = some o := h
        rw [upd_same] at h
        cases h
        exact ⟨upd_same, hg, hi, h0⟩
      · have h : upd Z.kp D (.lst us) a = some o := h
        rw [upd_ne e] at h
        rw [upd_ne e]
        exact r.kept a o (by show upd Z.kp D (.lst vs) a = some o; rw [upd_ne e]; exact h)
    slot := fun i v h => by
      obtain ⟨w, e, b⟩ := r.slot i v h
      refine ⟨w, e, ?_⟩
      cases v with
      | own xs =>
        obtain ⟨a, ws, rfl, h1, h2⟩ := b
        obtain ⟨m, _⟩ := r.mine i xs a h e
        exact ⟨a, ws, rfl, by rw [upd_ne (kD m.kp)]; exact h1, h2⟩
      | dat d => exact b
      | scr ns => exact b
      | obj n => exact b
      | exn x => exact b
    mine := fun i xs a h e => by
      obtain ⟨m, q⟩ := r.mine i xs a h e
      have ne := kD m.kp
      refine ⟨⟨m.g, m.h0, ?_, m.io, by rw [upd_ne ne]; exact m.h⟩, q⟩
      have k := m.kp
      have k : upd Z.kp D (.lst vs) a = none := k
      show upd Z.kp D (.lst us) a = none
      rw [upd_ne ne] at k ⊢; exact k
    ol := r.ol
    ond := r.ond
    ofr := fun a h => by
      have ne : a ≠ D := fun z => hi (z ▸ h)
      rw [upd_ne ne]; exact r.ofr a h
    ob := fun n a o h1 h2 => ob a o (List.mem_of_getElem? h1) (r.ob n a o h1 h2)
    len := r.len
    xx := ⟨r.xx.sl, fun dd f w d h => by
      obtain ⟨h1, h2⟩ := r.xx.fl dd f w d h
      have ne : dd ≠ D := fun z => by rw [z, hD] at h1; cases h1
      exact ⟨by rw [upd_ne ne]; exact h1, h2⟩⟩ }
/-- behind a comprehension: its list is a result -/
theorem SR.backs {D : Addr} {vs : List V} {l : List Nat} {s1 : S} {G1 H1 : Hp} {io1 : List Addr} (r : SR (Z.hold D vs) G io (L2.wipe σ l) s H) (r1 : SR Z G1 io1 σ s1 H1) (e : Ext G1 io1 G io) (hc : s1.calm l = true) (k0 : Z.kp D = none) (hx : Z.xs = none) : SR Z G io σ (s.back s1 l) H := by
  have nown : ∀ i ∈ l, ∀ xs, s1.at_ i ≠ some (.own xs) := fun i hi xs z => by
    have q := List.all_eq_true.mp hc i hi
    rw [z] at q
    cases q
  exact {
    sub := r.sub
    old := r.old
    gold := r.gold
    iold := r.iold
    kept := fun a o h => by
      have ne : a ≠ D := ne_of_none h k0
      exact r.kept a o (by show upd Z.kp D (.lst vs) a = some o; rw [upd_ne ne]; exact h)
    slot := fun i v h => by
      rcases at_back h with ⟨h1, h2⟩ | ⟨h1, h2⟩
      · obtain ⟨w, ew, b⟩ := r1.slot i v h2
        exact ⟨w, ew, VB.up b (fun xs z => nown i h1 xs (by rw [← z]; exact h2)) e⟩
      · obtain ⟨w, ew, b⟩ := r.slot i v h2
        rw [wipe_in h1] at ew
        exact ⟨w, ew, b⟩
    mine := fun i xs a h ei => by
      rcases at_back h with ⟨h1, h2⟩ | ⟨h1, h2⟩
      · exact absurd h2 (nown i h1 xs)
      · obtain ⟨m, q⟩ := r.mine i xs a h2 (by rw [wipe_in h1]; exact ei)
        have ne : a ≠ D := fun z => by
          have k : upd Z.kp D (.lst vs) a = none := m.kp
          rw [z, upd_same] at k; cases k
        refine ⟨⟨m.g, m.h0, ?_, m.io, m.h⟩, fun j ys hj ej => ?_⟩
        · have k : upd Z.kp D (.lst vs) a = none := m.kp
          rw [upd_ne ne] at k; exact k
        · rcases at_back hj with ⟨h3, h4⟩ | ⟨h3, h4⟩
          · exact absurd h4 (nown j h3 ys)
          · exact q j ys h4 (by rw [wipe_in h3]; exact ej)
    ol := by rw [back_ob]; exact r.ol
    ond := r.ond
    ofr := r.ofr
    ob := by rw [back_ob]; exact r.ob
    len := by rw [back_len, r.len, wipe_length]
    xx := ⟨fun _ _ h => (by rw [hx] at h; cases h), r.xx.fl⟩ }
theorem VT.backs {D : Addr} {vs : List V} {xs : List PyData} {l : List Nat} {s1 : S} {G1 H1 : Hp} {io1 : List Addr} (r : SR (Z.hold D vs) G io (L2.wipe σ l) s H) (hc : s1.calm l = true) (k0 : Z.kp D = none) (hd : DRs Z.K G vs xs) :
    VT Z G io σ (s.back s1 l) H (.ref D) (.own xs) := by
  obtain ⟨hD, hg, hi, h0⟩ := r.kept D (.lst vs) upd_same
  refine ⟨⟨D, vs, rfl, hD, hd⟩, fun ys a e1 e2 => ?_⟩
  cases e2
  refine ⟨⟨hg, h0, k0, hi, vs, hD⟩, fun j zs hj ej => ?_⟩
  rcases at_back hj with ⟨h3, h4⟩ | ⟨h3, h4⟩
  · have q := List.all_eq_true.mp hc j h3
    rw [h4] at q
    cases q
  · obtain ⟨m, _⟩ := r.mine j zs D h4 (by rw [wipe_in h3]; exact ej)
    have k : upd Z.kp D (.lst vs) D = none := m.kp
    rw [upd_same] at k; cases k

/-- the same whatever the surroundings' moving part is -/
def anyV (K : PySem.W.Frag) (cla : Nat → Option Addr) (cs : Cs) (f : M Val) : TE := fun σ H Q => ∃ Z : Sur, Z.K = K ∧ Z.cla = cla ∧ (Z.xs = none ∧ Z.xf = none) ∧ denV Z cs f (fun _ _ _ _ => False) σ H Q
def anyB (K : PySem.W.Frag) (cla : Nat → Option Addr) (cs : Cs) (f : M Bool) : TT := fun σ H Q => ∃ Z : Sur, Z.K = K ∧ Z.cla = cla ∧ (Z.xs = none ∧ Z.xf = none) ∧ denB Z cs f (fun _ _ _ _ => False) σ H Q
def anyBo (K : PySem.W.Frag) (cla : Nat → Option Addr) (cs : Cs) : Option (M Bool) → TT
  | none => tYes
  | some f => anyB K cla cs f
def anyG (K : PySem.W.Frag) (cla : Nat → Option Addr) (t : Tg) : TG := fun v σ H Q => ∃ Z : Sur, Z.K = K ∧ Z.cla = cla ∧ (Z.xs = none ∧ Z.xf = none) ∧ denG Z t v σ H Q
/-- no exception comes: what is asked of one is nothing -/
theorem Aft.noX {α : Type} {P : Po α} {x : R α} {a : α} {s' : S} (e : x = .ok a s') (h : ∀ G' io' H', SR Z G' io' σ s' H' → Ext G io G' io' → P a G' io' s' H') : Aft Z σ G io W P x := by
  subst e
  exact h
theorem den_comp {src : Src} {tg : Tg} {own : List Nat} {t : Option (M Bool)} {elt : M Val} {Q : VK} (hxx : Z.xs = none ∧ Z.xf = none) (h : denV Z cs (mComp src tg own t elt) W σ H Q) :
    tLc (tSrc Z cs W src) (anyG Z.K Z.cla tg) (anyBo Z.K Z.cla cs t) (anyV Z.K Z.cla cs elt) own σ H Q := by
  obtain ⟨G, io, s, r, h⟩ := h
  have t0 := src_ok r h
  -- what follows the source
  have main : ∀ J H1, (∃ items G1 io1 s1, SR Z G1 io1 σ s1 H1 ∧ Ext G io G1 io1 ∧ Wk Z.K J G1 items ∧ Aft Z σ G1 io1 W (pV Z σ Q) (if s1.calm own = true ∧ (tgSlots tg).all (fun i => own.contains i) = true then match compLoop tg own t elt cs items [] (s1.wipe own) with
      | .ok acc s2 => .ok (.own acc) (s2.back s1 own)
      | _ => .no
    else .no)) → ∀ D, H1 D = none → ∃ W' : Nat → Nat → Hp → Prop, (∃ m, W' 0 m (upd H1 D (.lst []))) ∧ ∀ i m H, W' i m H →
      (J.stop i H ∧ Q (.ref D) H) ∨ (J.go i H ∧ ∃ Nx : Hp → Prop, (∀ H', Nx H' → ∃ m', m' < m ∧ W' (i + 1) m' H') ∧ ∀ x H', J.yld i H x H' → anyG Z.K Z.cla tg x (L2.wipe σ own) H' fun σ2 H2 => L2.wipe σ2 own = L2.wipe σ own ∧ anyBo Z.K Z.cla cs t σ2 H2 fun b H3 =>
        if b = true then anyV Z.K Z.cla cs elt σ2 H3 fun y H4 => ∃ acc, H4 D = some (.lst acc) ∧ acc.length < sizeLine ∧ Nx (upd H4 D (.lst (acc ++ [y]))) else Nx H3) := by
    rintro J H1 ⟨items, G1, io1, s1, r1, e1, wk, p⟩ D hD
    by_cases hc : s1.calm own = true ∧ (tgSlots tg).all (fun i => own.contains i) = true
    · rw [if_pos hc] at p
      obtain ⟨hc, hsl⟩ := hc
      have hsl : ∀ i ∈ tgSlots tg, i ∈ own := fun i hi => by
        have := List.all_eq_true.mp hsl i hi
        simpa using this
      cases eF : compLoop tg own t elt cs items [] (s1.wipe own) with
      | no => rw [eF] at p; exact p.elim
      | ex x s' => rw [eF] at p; exact p.elim
      | ok accF sF =>
        rw [eF] at p
        have k0 : Z.kp D = none := r1.knone hD
        let Iv : Nat → Nat → Hp → Prop := fun i m H => ∃ G2 io2 s2 vs acc, SR (Z.hold D vs) G2 io2 (L2.wipe σ own) s2 H ∧ Ext G1 io1 G2 io2 ∧ DRs Z.K G2 vs acc ∧ m = items.length - i ∧ i ≤ items.length ∧ compLoop tg own t elt cs (items.drop i) acc s2 = .ok accF sF
        refine ⟨Iv, ⟨items.length, G1, io1, s1.wipe own, [], [], ?_, Ext.refl _ _, .nil, rfl, Nat.zero_le _, by rw [List.drop_zero]; exact eF⟩, ?_⟩
        · refine ((r1.wiped hxx.1 own).new hD (.lst [])).holds upd_same (r1.gnone hD) (fun z => ?_) (r1.h0none hD) fun i xs hi ei => ?_
          · have := (r1.ofr D z).2; rw [hD] at this; cases this
          · obtain ⟨m, _⟩ := (r1.wiped hxx.1 own).mine i xs D hi ei
            obtain ⟨ws, hw⟩ := m.h
            rw [hD] at hw; cases hw
        · rintro i m H2 ⟨G2, io2, s2, vs, acc, r2, e2, d2, hm, hi, eL⟩
          have g12 : Sub G1 H2 := e2.g.trans r2.sub
          by_cases hlt : i < items.length
          · right
            refine ⟨wk.go i H2 g12 hlt, Iv (i + 1) (items.length - (i + 1)), fun H' h' => ⟨items.length - (i + 1), by omega, h'⟩, fun x H' y => ?_⟩
            have ed : items[i]? = some items[i] := by simp [hlt]
            rw [List.drop_eq_getElem_cons hlt] at eL
            unfold compLoop at eL
            -- the item, in the heap as it is given
            have item : ∃ G3, Sub G2 G3 ∧ SR (Z.hold D vs) G3 io2 (L2.wipe σ own) s2 H' ∧ DR Z.K G3 x items[i] := by
              rcases wk.yld i H2 x H' items[i] g12 ed y with ⟨rfl, dr⟩ | ⟨q, ws, ds, hq, rfl, rfl, dd, ee⟩
              · exact ⟨G2, Sub.refl _, r2, DR.mono e2.g _ _ dr⟩
              · have g3 : Sub G2 (upd G2 q (.tup ws)) := Sub.upd (r2.gnone hq)
                refine ⟨upd G2 q (.tup ws), g3, r2.newG hq _, ?_⟩
                rw [ee]
                exact .tup (SqT.of upd_same) (DRs.mono (e2.g.trans g3) _ _ dd)
            obtain ⟨G3, g3, r3, dr⟩ := item
            cases eT : tgPut tg items[i] s2 with
            | none => simp only [eT] at eL; cases eL
            | some s3 =>
              simp only [eT] at eL
              refine ⟨Z.hold D vs, rfl, rfl, hxx, G3, io2, s2, items[i], s3, r3, dr, eT, fun σ2 r4 b4 => ?_⟩
              have hw : L2.wipe σ2 own = L2.wipe σ own := by
                have w1 : L2.wipe σ2 own = L2.wipe (L2.wipe σ own) own := wipe_eq b4.len fun j hj => b4.eq j fun z => hj (hsl j z)
                rw [w1]
                exact wipe_eq (wipe_length σ own) fun j hj => wipe_in hj
              refine ⟨hw, ?_⟩
              -- behind the test
              have behind : ∀ (b : Bool) (s5 : S) (G5 : Hp) (io5 : List Addr) (H5 : Hp), SR (Z.hold D vs) G5 io5 σ2 s5 H5 → Ext G3 io2 G5 io5 → (match (R.ok b s5 : R Bool) with
                  | .ok true s2 => (match elt cs s2 with
                    | .ok v s3 => (match toD v with
                      | some y => if acc.length < big then compLoop tg own t elt cs (items.drop (i + 1)) (acc ++ [y]) (s3.wipe own) else .no
                      | none => .no)
                    | _ => .no)
                  | .ok false s2 => compLoop tg own t elt cs (items.drop (i + 1)) acc (s2.wipe own)
                  | _ => .no) = .ok accF sF → if b = true then anyV Z.K Z.cla cs elt σ2 H5 fun y H4 => ∃ acc, H4 D = some (.lst acc) ∧ acc.length < sizeLine ∧ Iv (i + 1) (items.length - (i + 1)) (upd H4 D (.lst (acc ++ [y]))) else Iv (i + 1) (items.length - (i + 1)) H5 := by
                intro b s5 G5 io5 H5 r5 e5 eq
                have e25 : Ext G2 io2 G5 io5 := (⟨g3, List.prefix_rfl⟩ : Ext G2 io2 G3 io2).trans e5
                cases b with
                | false =>
                  rw [if_neg (by decide)]
                  refine ⟨G5, io5, s5.wipe own, vs, acc, ?_, e2.trans e25, DRs.mono e25.g _ _ d2, rfl, hlt, eq⟩
                  rw [← hw]
                  exact r5.wiped hxx.1 own
                | true =>
                  rw [if_pos rfl]
                  simp only at eq
                  cases eE : elt cs s5 with
                  | no => simp only [eE] at eq; cases eq
                  | ex x' s' => simp only [eE] at eq; cases eq
                  | ok v s6 =>
                    simp only [eE] at eq
                    cases eD : toD v with
                    | none => simp only [eD] at eq; cases eq
                    | some yd =>
                      simp only [eD] at eq
                      by_cases hb : acc.length < big
                      · rw [if_pos hb] at eq
                        refine ⟨Z.hold D vs, rfl, rfl, hxx, G5, io5, s5, r5, Aft.noX eE fun G6 io6 H6 r6 e6 w t6 => ?_⟩
                        obtain ⟨G7, g7, r7, t7⟩ := VT.toFrz r6 t6
                        obtain ⟨hD6, _⟩ := r7.kept D (.lst vs) upd_same
                        have e26 : Ext G2 io2 G7 io6 := e25.trans (e6.trans ⟨g7, List.prefix_rfl⟩)
                        have dy : DR Z.K G7 w yd := by
                          cases v with
                          | dat d => cases eD; exact t7.1
                          | own xs => cases eD; exact t7.1
                          | scr ns => cases eD
                          | obj n => cases eD
                          | exn n => cases eD
                        refine ⟨vs, hD6, by rw [big_eq, d2.length]; exact hb, G7, io6, s6.wipe own, vs ++ [w], acc ++ [yd], ?_, e2.trans e26, (DRs.mono e26.g _ _ d2).append (.cons dy .nil), rfl, hlt, eq⟩
                        rw [← hw]
                        exact (r7.wiped hxx.1 own).grows _
                      · rw [if_neg hb] at eq; cases eq
              cases t with
              | none => exact behind true s3 G3 io2 H' r4 (Ext.refl _ _) eL
              | some f =>
                simp only at eL
                cases eB : f cs s3 with
                | no => rw [eB] at eL; cases eL
                | ex x' s' => rw [eB] at eL; cases eL
                | ok b s5 =>
                  rw [eB] at eL
                  exact ⟨Z.hold D vs, rfl, rfl, hxx, G3, io2, s3, r4, Aft.noX eB fun G5 io5 H5 r5 e5 => behind b s5 G5 io5 H5 r5 e5 eL⟩
          · left
            have hi' : i = items.length := by omega
            subst hi'
            rw [List.drop_length] at eL
            unfold compLoop at eL
            cases eL
            refine ⟨wk.stop _ H2 g12 (Nat.le_refl _), ?_⟩
            exact p G2 io2 H2 (r2.backs r1 e2 hc k0 hxx.1) e2 _ (VT.backs (G1 := G1) (H1 := H1) (io1 := io1) r2 hc k0 d2)
    · rw [if_neg hc] at p; exact p.elim
  -- the source's own shape
  cases src with
  | seq f =>
    obtain ⟨G0, io0, s0, r0, q0⟩ := t0
    refine ⟨G0, io0, s0, r0, q0.mono fun vs G' io' s' H' _ _ q ws hw => ?_⟩
    obtain ⟨v, ev, q⟩ := q ws hw
    refine ⟨v, ev, ?_⟩
    rcases q with ⟨a, xs, e, hq, q⟩ | ⟨a, xs, e, hq, q⟩ | ⟨z, e, q⟩
    · exact .inl ⟨a, xs, e, hq, main _ _ q⟩
    · exact .inr (.inl ⟨a, xs, e, hq, main _ _ q⟩)
    · exact .inr (.inr ⟨z, e, main _ _ q⟩)
  | range1 f =>
    obtain ⟨G0, io0, s0, r0, q0⟩ := t0
    refine ⟨G0, io0, s0, r0, q0.mono fun vs G' io' s' H' _ _ q ws hw => ?_⟩
    obtain ⟨j, h1, h2, h3, q⟩ := q ws hw
    exact ⟨j, h1, h2, h3, main _ _ q⟩
  | range2 f g =>
    obtain ⟨G0, io0, s0, r0, q0⟩ := t0
    refine ⟨G0, io0, s0, r0, q0.mono fun vs G' io' s' H' _ _ q ws hw => ?_⟩
    obtain ⟨i, j, h1, h2, q⟩ := q ws hw
    exact ⟨i, j, h1, h2, main _ _ q⟩
  | range3 f g h =>
    obtain ⟨G0, io0, s0, r0, q0⟩ := t0
    refine ⟨G0, io0, s0, r0, q0.mono fun vs G' io' s' H' _ _ q ws hw => ?_⟩
    obtain ⟨i, j, c, n, h1, h2, q⟩ := q ws hw
    exact ⟨i, j, c, n, h1, h2, main _ _ q⟩
  | enum f =>
    obtain ⟨G0, io0, s0, r0, q0⟩ := t0
    refine ⟨G0, io0, s0, r0, q0.mono fun vs G' io' s' H' _ _ q ws hw => ?_⟩
    obtain ⟨a, xs, h1, h2, q⟩ := q ws hw
    exact ⟨a, xs, h1, h2, main _ _ q⟩
  | rev f =>
    obtain ⟨G0, io0, s0, r0, q0⟩ := t0
    refine ⟨G0, io0, s0, r0, q0.mono fun vs G' io' s' H' _ _ q ws hw => ?_⟩
    obtain ⟨a, xs, h1, h2, q⟩ := q ws hw
    exact ⟨a, xs, h1, h2, main _ _ q⟩
  | zip f g =>
    obtain ⟨G0, io0, s0, r0, q0⟩ := t0
    refine ⟨G0, io0, s0, r0, q0.mono fun vs G' io' s' H' _ _ q ws hw => ?_⟩
    obtain ⟨a, b, xs, ys, h1, h2, h3, q⟩ := q ws hw
    exact ⟨a, b, xs, ys, h1, h2, h3, main _ _ q⟩
  | objl f => exact h.elim
end
end CH

/-! CH6: statements. -/
namespace CH
open PySem L2

inductive Fl where
  | nx | rt (v : Val) | bk | ct
/-- what comes of a statement's result -/
def AftS (Z : Sur) (G : Hp) (io : List Addr) (W : WX) (D : Ends) : R Fl → Prop
  | .ok .nx s' => ∀ σ' G' io' H', SR Z G' io' σ' s' H' → Ext G io G' io' → D.nx σ' H'
  | .ok (.rt v) s' => ∀ σ' G' io' H', SR Z G' io' σ' s' H' → Ext G io G' io' → ∀ w, VT Z G' io' σ' s' H' w v → D.rt w H'
  | .ok .bk s' => ∀ σ' G' io' H', SR Z G' io' σ' s' H' → Ext G io G' io' → D.bk σ' H'
  | .ok .ct s' => ∀ σ' G' io' H', SR Z G' io' σ' s' H' → Ext G io G' io' → D.ct σ' H'
  | .ex e s' => ∀ σ' cls d G' io' H', SR Z G' io' σ' s' H' → Ext G io G' io' → XR Z.K Z.cla G' H' e cls d → W cls d σ' H'
  | .no => False
def denS (Z : Sur) (cs : Cs) (f : M Fl) (W : WX) : TS := fun D σ H => ∃ G io s, SR Z G io σ s H ∧ AftS Z G io W D (f cs s)
section
variable {Z : Sur} {G G' H : Hp} {io io' : List Addr} {W : WX} {D D' : Ends} {σ : St} {s : S}
theorem AftS.up {x : R Fl} (h : AftS Z G io W D x) (e : Ext G io G' io') : AftS Z G' io' W D x := by
  cases x with
  | no => exact h
  | ex e' s' => exact fun σ' cls d G2 io2 H2 r2 e2 => h σ' cls d G2 io2 H2 r2 (e.trans e2)
  | ok a s' =>
    cases a with
    | nx => exact fun σ' G2 io2 H2 r2 e2 => h σ' G2 io2 H2 r2 (e.trans e2)
    | rt v => exact fun σ' G2 io2 H2 r2 e2 => h σ' G2 io2 H2 r2 (e.trans e2)
    | bk => exact fun σ' G2 io2 H2 r2 e2 => h σ' G2 io2 H2 r2 (e.trans e2)
    | ct => exact fun σ' G2 io2 H2 r2 e2 => h σ' G2 io2 H2 r2 (e.trans e2)
/-- an expression, then a statement's rest at the same slots -/
theorem AftS.val {α : Type} {x : R α} {k : α → S → R Fl} (h : AftS Z G io W D (x.bnd k)) : Aft Z σ G io W (fun a G1 io1 s1 _ => AftS Z G1 io1 W D (k a s1)) x := by
  cases x with
  | no => exact h
  | ex e s' => exact fun cls d G1 io1 H1 r1 e1 xr => h σ cls d G1 io1 H1 r1 e1 xr
  | ok a s' =>
    intro G1 io1 H1 r1 e1
    have h' : AftS Z G io W D (k a s') := h
    exact h'.up e1
end

/-! ### the combinators -/
def sNo : M Fl := fun _ _ => .no
def sPass : M Fl := fun _ s => .ok .nx s
def sBreak : M Fl := fun _ s => .ok .bk s
def sCont : M Fl := fun _ s => .ok .ct s
def sSeq (f g : M Fl) : M Fl := fun cs s => (f cs s).bnd fun x s1 => match x with
  | .nx => g cs s1
  | y => .ok y s1
def sIf (t : M Bool) (f g : M Fl) : M Fl := fun cs s => (t cs s).bnd fun b s1 => if b then f cs s1 else g cs s1
def sRet (f : M Val) : M Fl := fun cs s => (f cs s).bnd fun v s1 => .ok (.rt v) s1
def sRetN : M Fl := fun _ s => .ok (.rt (.dat .none)) s
def sExpr (f : M Val) : M Fl := fun cs s => (f cs s).bnd fun _ s1 => .ok .nx s1
def sAsg (i : Nat) (f : M Val) : M Fl := fun cs s => (f cs s).bnd fun v s1 => .ok .nx (s1.put i (some v))
def sTgt (t : Tg) (f : M Val) : M Fl := fun cs s => (f cs s).bnd fun v s1 => match frz v with
  | .dat d => (match tgPut t d s1 with
    | some s2 => .ok .nx s2
    | none => .no)
  | _ => .no
def sPar2 (i j : Nat) (es : List (M Val)) : M Fl := fun cs s => (mArgs es cs s).bnd fun vs s1 => match vs with
  | [v, w] => .ok .nx ((s1.put i (some v)).put j (some w))
  | _ => .no
def sPar3 (i j l : Nat) (es : List (M Val)) : M Fl := fun cs s => (mArgs es cs s).bnd fun vs s1 => match vs with
  | [v, w, u] => .ok .nx (((s1.put i (some v)).put j (some w)).put l (some u))
  | _ => .no
/-- x += e, ints -/
def sAug (i : Nat) (f : M Val) : M Fl := fun cs s => match s.at_ i with
  | some (.dat (.int a)) => (f cs s).bnd fun v s1 => match v with
    | .dat (.int b) => .ok .nx (s1.put i (some (.dat (.int (a + b)))))
    | _ => .no
  | _ => .no
def forLoop (tg : Tg) (body : M Fl) (cs : Cs) : List PyData → S → R Fl
  | [], s => .ok .nx s
  | d :: ds, s => match tgPut tg d s with
    | none => .no
    | some s1 => (body cs s1).bnd fun x s2 => match x with
      | .nx => forLoop tg body cs ds s2
      | .ct => forLoop tg body cs ds s2
      | .bk => .ok .nx s2
      | .rt v => .ok (.rt v) s2
def sFor (src : Src) (tg : Tg) (body : M Fl) : M Fl := fun cs s => (itemsOf src cs s).bnd fun items s1 => forLoop tg body cs items s1
def whileLoop (t : M Bool) (body : M Fl) (cs : Cs) : Nat → S → R Fl
  | 0, _ => .no
  | n + 1, s => (t cs s).bnd fun b s1 => if b then (body cs s1).bnd fun x s2 => (match x with
      | .nx => whileLoop t body cs n s2
      | .ct => whileLoop t body cs n s2
      | .bk => .ok .nx s2
      | .rt v => .ok (.rt v) s2) else .ok .nx s1
def wFuel : Nat := 1000000
def sWhile (t : M Bool) (body : M Fl) : M Fl := fun cs s => whileLoop t body cs wFuel s

section
variable {Z : Sur} {cs : Cs} {σ : St} {G H : Hp} {io : List Addr} {W : WX} {s : S} {X : Cx} {D : Ends}
theorem no_denS : ¬ denS Z cs sNo W D σ H := fun ⟨_, _, _, _, h⟩ => h
theorem den_pass (h : denS Z cs sPass W D σ H) : tNext D σ H := by
  obtain ⟨G, io, s, r, h⟩ := h
  exact h σ G io H r (Ext.refl _ _)
theorem den_break (h : denS Z cs sBreak W D σ H) : tBreak D σ H := by
  obtain ⟨G, io, s, r, h⟩ := h
  exact h σ G io H r (Ext.refl _ _)
theorem den_cont (h : denS Z cs sCont W D σ H) : tCont D σ H := by
  obtain ⟨G, io, s, r, h⟩ := h
  exact h σ G io H r (Ext.refl _ _)
theorem den_seq {f g : M Fl} (h : denS Z cs (sSeq f g) W D σ H) : tSeq (denS Z cs f W) (denS Z cs g W) D σ H := by
  obtain ⟨G, io, s, r, h⟩ := h
  refine ⟨G, io, s, r, ?_⟩
  have h' : AftS Z G io W D ((f cs s).bnd fun x s1 => match x with | .nx => g cs s1 | y => .ok y s1) := h
  cases e : f cs s with
  | no => rw [e] at h'; exact h'.elim
  | ex x s' => rw [e] at h'; exact h'
  | ok x s' =>
    rw [e] at h'
    cases x with
    | nx => exact fun σ' G' io' H' r' e' => ⟨G', io', s', r', AftS.up h' e'⟩
    | rt v => exact h'
    | bk => exact h'
    | ct => exact h'
theorem den_ifS {t : M Bool} {f g : M Fl} (h : denS Z cs (sIf t f g) W D σ H) : tIfS (denB Z cs t W) (denS Z cs f W) (denS Z cs g W) D σ H := by
  obtain ⟨G, io, s, r, h⟩ := h
  refine denB.of r (AftS.val h) fun b G1 io1 s1 H1 r1 e1 p => ?_
  cases b with
  | true => exact ⟨G1, io1, s1, r1, p⟩
  | false => exact ⟨G1, io1, s1, r1, p⟩
theorem den_ret {f : M Val} (h : denS Z cs (sRet f) W D σ H) : tRet (denV Z cs f W) D σ H := by
  obtain ⟨G, io, s, r, h⟩ := h
  exact denV.of r (AftS.val h) fun v G1 io1 s1 H1 r1 e1 p w t => p σ G1 io1 H1 r1 (Ext.refl _ _) w t
theorem den_retN (h : denS Z cs sRetN W D σ H) : tRetN D σ H := by
  obtain ⟨G, io, s, r, h⟩ := h
  exact h σ G io H r (Ext.refl _ _) .non (.dat .non)
theorem den_expr {f : M Val} (h : denS Z cs (sExpr f) W D σ H) : tDrop (denV Z cs f W) D σ H := by
  obtain ⟨G, io, s, r, h⟩ := h
  exact denV.of r (AftS.val h) fun v G1 io1 s1 H1 r1 e1 p w t => p σ G1 io1 H1 r1 (Ext.refl _ _)
theorem den_asg {i : Nat} {f : M Val} (h : denS Z cs (sAsg i f) W D σ H) : tAsg (denV Z cs f W) (gName i) D σ H := by
  obtain ⟨G, io, s, r, h⟩ := h
  exact denV.of r (AftS.val h) fun v G1 io1 s1 H1 r1 e1 p w t => p _ G1 io1 H1 (r1.store t) (Ext.refl _ _)
theorem den_tgt {t : Tg} {f : M Val} (h : denS Z cs (sTgt t f) W D σ H) : tAsg (denV Z cs f W) (denG Z t) D σ H := by
  obtain ⟨G, io, s, r, h⟩ := h
  refine denV.of r (AftS.val h) fun v G1 io1 s1 H1 r1 e1 p w t1 => ?_
  obtain ⟨G2, g2, r2, t2⟩ := VT.toFrz r1 t1
  have p' := AftS.up p (⟨g2, List.prefix_rfl⟩ : Ext G1 io1 G2 io1)
  revert p' t2
  cases e : frz v with
  | dat d =>
    intro t2 p'
    simp only at p'
    cases e2 : tgPut t d s1 with
    | none => rw [e2] at p'; exact p'.elim
    | some s2 =>
      rw [e2] at p'
      exact ⟨G2, io1, s1, d, s2, r2, t2.1, e2, fun σ' r' _ => p' σ' G2 io1 H1 r' (Ext.refl _ _)⟩
  | own xs => intro t2 p'; exact p'.elim
  | scr xs => intro t2 p'; exact p'.elim
  | obj xs => intro t2 p'; exact p'.elim
  | exn xs => intro t2 p'; exact p'.elim
theorem VBs.vt1 {w : V} {v : Val} (h : VB Z.K G H io w v ∧ ∀ xs, v ≠ .own xs) : VT Z G io σ s H w v := ⟨h.1, fun xs _ e => absurd e (h.2 xs)⟩
theorem den_par2 {i j : Nat} {es : List (M Val)} (h : denS Z cs (sPar2 i j es) W D σ H) : tPar i j (denA Z cs (mArgs es) W) D σ H := by
  obtain ⟨G, io, s, r, h⟩ := h
  refine ⟨G, io, s, r, (AftS.val h).mono fun vs G1 io1 s1 H1 r1 e1 p ws hw => ?_⟩
  match vs, ws, hw, p with
  | [v, v'], [w, w'], hw, p =>
    have p' : AftS Z G1 io1 W D (.ok .nx ((s1.put i (some v)).put j (some v'))) := p
    exact ⟨w, w', rfl, p' _ G1 io1 H1 ((r1.store (VBs.vt1 hw.1)).store (VBs.vt1 hw.2.1)) (Ext.refl _ _)⟩
  | [], _, _, p => exact p.elim
  | [_], _, _, p => exact p.elim
  | _ :: _ :: _ :: _, _, _, p => exact p.elim
theorem den_par3 {i j l : Nat} {es : List (M Val)} (h : denS Z cs (sPar3 i j l es) W D σ H) : tPar3 i j l (denA Z cs (mArgs es) W) D σ H := by
  obtain ⟨G, io, s, r, h⟩ := h
  refine ⟨G, io, s, r, (AftS.val h).mono fun vs G1 io1 s1 H1 r1 e1 p ws hw => ?_⟩
  match vs, ws, hw, p with
  | [v, v', v2], [w, w', w2], hw, p =>
    have p' : AftS Z G1 io1 W D (.ok .nx (((s1.put i (some v)).put j (some v')).put l (some v2))) := p
    exact ⟨w, w', w2, rfl, p' _ G1 io1 H1 (((r1.store (VBs.vt1 hw.1)).store (VBs.vt1 hw.2.1)).store (VBs.vt1 hw.2.2.1)) (Ext.refl _ _)⟩
  | [], _, _, p => exact p.elim
  | [_], _, _, p => exact p.elim
  | [_, _], _, _, p => exact p.elim
  | _ :: _ :: _ :: _ :: _, _, _, p => exact p.elim
/-- a slot's own list is changed -/
theorem SR.ownSet {i : Nat} {xs ys : List PyData} {a : Addr} {us : List V} (r : SR Z G io σ s H) (h : s.at_ i = some (.own xs)) (e : σ[i]? = some (some (.ref a))) (hd : DRs Z.K G us ys) :
    SR Z G io σ (s.put i (some (.own ys))) (upd H a (.lst us)) := by
  obtain ⟨m, uq⟩ := r.mine i xs a h e
  have hi := at_lt h
  have ob : ∀ (b : Addr) (o : Ob), b ∈ io → ObR Z.K Z.cla G H io b o → ObR Z.K Z.cla G (upd H a (.lst us)) io b o := fun b o hb h => by
    have ne : b ≠ a := fun z => m.io (z ▸ hb)
    have vb : ∀ w v, (∀ xs, v ≠ .own xs) → VB Z.K G H io w v → VB Z.K G (upd H a (.lst us)) io w v := fun w v n h => VB.up h n (Ext.refl _ _)
    cases o with
    | lst xs => obtain ⟨ws, h1, h2⟩ := h; exact ⟨ws, by rw [upd_ne ne]; exact h1, h2⟩
    | dct kvs => obtain ⟨ws, h1, h2⟩ := h; exact ⟨ws, by rw [upd_ne ne]; exact h1, h2⟩
    | mix us => obtain ⟨ws, h1, h2, h3⟩ := h; exact ⟨ws, by rw [upd_ne ne]; exact h1, h2, fun p hp => ⟨vb _ _ (h3 p hp).2 (h3 p hp).1, (h3 p hp).2⟩⟩
    | ins c fs => obtain ⟨C, dx, gs, h0', h1, h2, h3⟩ := h; exact ⟨C, dx, gs, h0', by rw [upd_ne ne]; exact h1, h2, fun p hp => ⟨vb _ _ (h3 p hp).2 (h3 p hp).1, (h3 p hp).2⟩⟩
  exact {
    sub := fun b o hb => by
      have ne : b ≠ a := ne_of_none hb m.g
      rw [upd_ne ne]; exact r.sub b o hb
    old := fun b o hb n => by
      have ne : b ≠ a := ne_of_none hb m.h0
      rw [upd_ne ne]; exact r.old b o hb n
    gold := r.gold
    iold := r.iold
    kept := fun b o hb => by
      have ne : b ≠ a := ne_of_none hb m.kp
      rw [upd_ne ne]; exact r.kept b o hb
    slot := fun j v hj => by
      rcases at_put hj with ⟨rfl, ev⟩ | ⟨ne, hj⟩
      · cases ev
        exact ⟨_, e, a, us, rfl, upd_same, hd⟩
      · obtain ⟨w, ew, b⟩ := r.slot j v hj
        refine ⟨w, ew, ?_⟩
        cases v with
        | own zs =>
          obtain ⟨c, ws, rfl, h1, h2⟩ := b
          have nc : c ≠ a := fun z => ne (uq j zs hj (by rw [← z]; exact ew))
          exact ⟨c, ws, rfl, by rw [upd_ne nc]; exact h1, h2⟩
        | dat d => exact b
        | scr ns => exact b
        | obj n => exact b
        | exn x => exact b
    mine := fun j zs c hj ej => by
      rcases at_put hj with ⟨rfl, ev⟩ | ⟨ne, hj2⟩
      · rw [e] at ej
        cases ej
        refine ⟨⟨m.g, m.h0, m.kp, m.io, us, upd_same⟩, fun k ts hk ek => ?_⟩
        rcases at_put hk with ⟨z, _⟩ | ⟨_, hk⟩
        · exact z
        · exact uq k ts hk ek
      · obtain ⟨m', q'⟩ := r.mine j zs c hj2 ej
        have nc : c ≠ a := fun z => ne (uq j zs hj2 (by rw [← z]; exact ej))
        refine ⟨⟨m'.g, m'.h0, m'.kp, m'.io, by rw [upd_ne nc]; exact m'.h⟩, fun k ts hk ek => ?_⟩
        rcases at_put hk with ⟨z, _⟩ | ⟨_, hk⟩
        · subst z
          rw [e] at ek
          cases ek
          exact absurd rfl nc
        · exact q' k ts hk ek
    ol := r.ol
    ond := r.ond
    ofr := fun b hb => by
      have ne : b ≠ a := fun z => m.io (z ▸ hb)
      rw [upd_ne ne]; exact r.ofr b hb
    ob := fun n b o h1 h2 => ob b o (List.mem_of_getElem? h1) (r.ob n b o h1 h2)
    len := by show (s.sl.set i _).length = _; rw [List.length_set]; exact r.len
    xx := ⟨fun j b hj hn => by
        by_cases z : j = i
        · subst z; rw [at_put_same hi] at hn; cases hn
        · rw [at_put_ne z] at hn; exact r.xx.sl j b hj hn,
      fun dd f w d hf => by
        obtain ⟨h1, h2⟩ := r.xx.fl dd f w d hf
        obtain ⟨vs, hv⟩ := m.h
        have ne : dd ≠ a := fun z => by rw [z, hv] at h1; cases h1
        exact ⟨by rw [upd_ne ne]; exact h1, h2⟩⟩ }
/-- x.m(..) of one's own list -/
theorem den_own {i : Nat} {fs : List (M Val)} {k : List PyData → List Val → Option (List PyData)} {rd : V → List V → Hp → VK → Prop}
    (hk : ∀ xs vs ys, k xs vs = some ys → ∀ {G H : Hp} {io : List Addr} {a : Addr} {us ws : List V} {Q : VK}, Sub G H → H a = some (.lst us) → DRs Z.K G us xs → VBs Z.K G H io ws vs → (∀ us', DRs Z.K G us' ys → Q .non (upd H a (.lst us'))) → rd (.ref a) ws H Q)
    (h : denS Z cs (fun cs s => match s.at_ i with
      | some (.own _) => (mArgs fs cs s).bnd fun vs s1 => (match s1.at_ i with
        | some (.own xs) => (match k xs vs with
          | some ys => R.ok Fl.nx (s1.put i (some (.own ys)))
          | none => .no)
        | _ => .no)
      | _ => .no) W D σ H) : tDrop (tBM Z.K "list" rd (tVar i) (denA Z cs (mArgs fs) W)) D σ H := by
  obtain ⟨G, io, s, r, h⟩ := h
  simp only at h
  cases e0 : s.at_ i with
  | none => simp only [e0] at h; exact h.elim
  | some v0 =>
    cases v0 with
    | own xs0 =>
      simp only [e0] at h
      obtain ⟨w, ew, a, us0, rfl, h1, h2⟩ := r.slot i _ e0
      refine ⟨.ref a, ew, .inl ⟨rfl, us0, SqL.of h1⟩, G, io, s, r, (AftS.val h).mono fun vs G1 io1 s1 H1 r1 e1 p ws hw => ?_⟩
      cases e2 : s1.at_ i with
      | none => simp only [e2] at p; exact p.elim
      | some v1 =>
        cases v1 with
        | own xs =>
          simp only [e2] at p
          cases e3 : k xs vs with
          | none => simp only [e3] at p; exact p.elim
          | some ys =>
            simp only [e3] at p
            obtain ⟨w', ew', a', us, rfl, h3, h4⟩ := r1.slot i _ e2
            rw [ew] at ew'
            cases ew'
            exact hk xs vs ys e3 r1.sub h3 h4 hw fun us' d' => p σ G1 io1 _ (r1.ownSet e2 ew d') (Ext.refl _ _)
        | dat d => simp only [e2] at p; exact p.elim
        | scr d => simp only [e2] at p; exact p.elim
        | obj d => simp only [e2] at p; exact p.elim
        | exn d => simp only [e2] at p; exact p.elim
    | dat d => simp only [e0] at h; exact h.elim
    | scr d => simp only [e0] at h; exact h.elim
    | obj d => simp only [e0] at h; exact h.elim
    | exn d => simp only [e0] at h; exact h.elim
def kApp (xs : List PyData) : List Val → Option (List PyData)
  | [.dat d] => if xs.length < big then some (xs ++ [d]) else none
  | _ => none
def kExt (xs : List PyData) : List Val → Option (List PyData)
  | [.dat (.list ys)] => if xs.length + ys.length ≤ big then some (xs ++ ys) else none
  | _ => none
def kIns (xs : List PyData) : List Val → Option (List PyData)
  | [.dat (.int k), .dat d] => if xs.length < big ∧ 0 ≤ k ∧ k ≤ 1000000 then some (xs.take k.toNat ++ [d] ++ xs.drop k.toNat) else none
  | _ => none
end
/-- x.m(..) of a list of this def's own, by what it does -/
def sOwn (i : Nat) (k : List PyData → List Val → Option (List PyData)) (fs : List (M Val)) : M Fl := fun cs s => match s.at_ i with
  | some (.own _) => (mArgs fs cs s).bnd fun vs s1 => (match s1.at_ i with
    | some (.own xs) => (match k xs vs with
      | some ys => R.ok Fl.nx (s1.put i (some (.own ys)))
      | none => .no)
    | _ => .no)
  | _ => .no
section
variable {Z : Sur} {cs : Cs} {σ : St} {G H : Hp} {io : List Addr} {W : WX} {s : S} {X : Cx} {D : Ends}
theorem den_app {i : Nat} {fs : List (M Val)} (h : denS Z cs (sOwn i kApp fs) W D σ H) : tDrop (tBM Z.K "list" rAppend (tVar i) (denA Z cs (mArgs fs) W)) D σ H := by
  refine den_own (k := kApp) (fun xs vs ys e G H io a us ws Q g hu hd hw q => ?_) h
  unfold kApp at e
  split at e
  · split at e
    · rename_i d hz
      cases e
      obtain ⟨w, rfl, b⟩ := VBs.ones hw
      exact ⟨a, us, w, rfl, rfl, hu, by rw [big_eq, hd.length]; exact hz, q _ (hd.append (.cons b .nil))⟩
    · cases e
  · cases e
theorem den_ext {i : Nat} {fs : List (M Val)} (h : denS Z cs (sOwn i kExt fs) W D σ H) : tDrop (tBM Z.K "list" rExtend (tVar i) (denA Z cs (mArgs fs) W)) D σ H := by
  refine den_own (k := kExt) (fun xs vs ys e G H io a us ws Q g hu hd hw q => ?_) h
  unfold kExt at e
  split at e
  · split at e
    · rename_i zs hz
      cases e
      obtain ⟨w, rfl, b⟩ := VBs.ones hw
      obtain ⟨a', us', rfl, h1, h2⟩ := DR.lst_ b
      exact ⟨a, a', us, us', rfl, rfl, hu, g _ _ h1, by rw [big_eq, hd.length, h2.length]; exact hz, q _ (hd.append h2)⟩
    · cases e
  · cases e
def rInsert : V → List V → Hp → VK → Prop := fun x vs H Q => ∃ (l : Addr) (xs : List V) (i : Int) (y : V), x = .ref l ∧ vs = [.int i, y] ∧ H l = some (.lst xs) ∧ xs.length < sizeLine ∧ 0 ≤ i ∧ i < 2 ^ 63 ∧ Q .non (upd H l (.lst (xs.take i.toNat ++ [y] ++ xs.drop i.toNat)))
theorem den_ins {i : Nat} {fs : List (M Val)} (h : denS Z cs (sOwn i kIns fs) W D σ H) : tDrop (tBM Z.K "list" rInsert (tVar i) (denA Z cs (mArgs fs) W)) D σ H := by
  refine den_own (k := kIns) (fun xs vs ys e G H io a us ws Q g hu hd hw q => ?_) h
  unfold kIns at e
  split at e
  · split at e
    · rename_i k d hz
      cases e
      obtain ⟨w1, w2, rfl, b1, b2⟩ := VBs.twos hw
      cases DR.int_ b1
      exact ⟨a, us, k, w2, rfl, rfl, hu, by rw [big_eq, hd.length]; exact hz.1, hz.2.1, by have := hz.2.2; omega, q _ (((hd.take _).append (.cons b2 .nil)).append (hd.drop _))⟩
    · cases e
  · cases e
/-! ### loops -/
theorem tSrc.mono {src : Src} {R R' : It → Hp → Prop} (f : ∀ J H, R J H → R' J H) (h : tSrc Z cs W src σ H R) : tSrc Z cs W src σ H R' := by
  cases src with
  | seq g =>
    obtain ⟨G0, io0, s0, r0, q0⟩ := h
    refine ⟨G0, io0, s0, r0, q0.mono fun vs G' io' s' H' _ _ q ws hw => ?_⟩
    obtain ⟨v, ev, q⟩ := q ws hw
    refine ⟨v, ev, ?_⟩
    rcases q with ⟨a, xs, e, hq, q⟩ | ⟨a, xs, e, hq, q⟩ | ⟨z, e, q⟩
    · exact .inl ⟨a, xs, e, hq, f _ _ q⟩
    · exact .inr (.inl ⟨a, xs, e, hq, f _ _ q⟩)
    · exact .inr (.inr ⟨z, e, f _ _ q⟩)
  | range1 g =>
    obtain ⟨G0, io0, s0, r0, q0⟩ := h
    refine ⟨G0, io0, s0, r0, q0.mono fun vs G' io' s' H' _ _ q ws hw => ?_⟩
    obtain ⟨j, h1, h2, h3, q⟩ := q ws hw
    exact ⟨j, h1, h2, h3, f _ _ q⟩
  | range2 g g' =>
    obtain ⟨G0, io0, s0, r0, q0⟩ := h
    refine ⟨G0, io0, s0, r0, q0.mono fun vs G' io' s' H' _ _ q ws hw => ?_⟩
    obtain ⟨i, j, h1, h2, q⟩ := q ws hw
    exact ⟨i, j, h1, h2, f _ _ q⟩
  | range3 g g' g2 =>
    obtain ⟨G0, io0, s0, r0, q0⟩ := h
    refine ⟨G0, io0, s0, r0, q0.mono fun vs G' io' s' H' _ _ q ws hw => ?_⟩
    obtain ⟨i, j, c, n, h1, h2, q⟩ := q ws hw
    exact ⟨i, j, c, n, h1, h2, f _ _ q⟩
  | enum g =>
    obtain ⟨G0, io0, s0, r0, q0⟩ := h
    refine ⟨G0, io0, s0, r0, q0.mono fun vs G' io' s' H' _ _ q ws hw => ?_⟩
    obtain ⟨a, xs, h1, h2, q⟩ := q ws hw
    exact ⟨a, xs, h1, h2, f _ _ q⟩
  | rev g =>
    obtain ⟨G0, io0, s0, r0, q0⟩ := h
    refine ⟨G0, io0, s0, r0, q0.mono fun vs G' io' s' H' _ _ q ws hw => ?_⟩
    obtain ⟨a, xs, h1, h2, q⟩ := q ws hw
    exact ⟨a, xs, h1, h2, f _ _ q⟩
  | zip g g' =>
    obtain ⟨G0, io0, s0, r0, q0⟩ := h
    refine ⟨G0, io0, s0, r0, q0.mono fun vs G' io' s' H' _ _ q ws hw => ?_⟩
    obtain ⟨a, b, xs, ys, h1, h2, h3, q⟩ := q ws hw
    exact ⟨a, b, xs, ys, h1, h2, h3, f _ _ q⟩
  | objl g =>
    obtain ⟨G0, io0, s0, r0, q0⟩ := h
    refine ⟨G0, io0, s0, r0, q0.mono fun v G' io' s' H' _ _ q w hw => ?_⟩
    rcases q w hw with ⟨a, xs, e, hq, q⟩ | ⟨a, xs, e, hq, q⟩ | ⟨z, e, q⟩
    · exact .inl ⟨a, xs, e, hq, f _ _ q⟩
    · exact .inr (.inl ⟨a, xs, e, hq, f _ _ q⟩)
    · exact .inr (.inr ⟨z, e, f _ _ q⟩)
/-- a body whose result is looked at by the loop around: the ends are the loop's -/
theorem AftS.body {x : R Fl} {k : Fl → S → R Fl} {N : St → Hp → Prop} (h : AftS Z G io W D (x.bnd k)) (hb : ∀ s, k .bk s = .ok .nx s) (hr : ∀ v s, k (.rt v) s = .ok (.rt v) s)
    (hN : ∀ s' σ' G' io' H', (x = .ok .nx s' ∨ x = .ok .ct s') → SR Z G' io' σ' s' H' → Ext G io G' io' → N σ' H') : AftS Z G io W { D with nx := N, ct := N, bk := D.nx } x := by
  cases x with
  | no => exact h
  | ex e s' => exact h
  | ok a s' =>
    cases a with
    | nx => exact fun σ' G' io' H' r' e' => hN s' σ' G' io' H' (.inl rfl) r' e'
    | ct => exact fun σ' G' io' H' r' e' => hN s' σ' G' io' H' (.inr rfl) r' e'
    | bk =>
      have h' : AftS Z G io W D (k .bk s') := h
      rw [hb] at h'
      exact h'
    | rt v =>
      have h' : AftS Z G io W D (k (.rt v) s') := h
      rw [hr] at h'
      exact h'
theorem den_for {src : Src} {tg : Tg} {body : M Fl} (h : denS Z cs (sFor src tg body) W D σ H) : tFor (tSrc Z cs W src) (denG Z tg) (denS Z cs body W) D σ H := by
  obtain ⟨G, io, s, r, h⟩ := h
  have h0 : Aft Z σ G io W (fun a G1 io1 s1 _ => AftS Z G1 io1 W D (forLoop tg body cs a s1)) (itemsOf src cs s) := AftS.val h
  -- as a reckoning whose rest is told by AftS
  have t0 : tSrc Z cs W src σ H fun J H1 => ∃ items G1 io1 s1, SR Z G1 io1 σ s1 H1 ∧ Ext G io G1 io1 ∧ Wk Z.K J G1 items ∧ AftS Z G1 io1 W D (forLoop tg body cs items s1) := by
    have h1 : Aft Z σ G io W (fun a G1 io1 s1 _ => AftS Z G1 io1 W D (forLoop tg body cs a s1)) ((itemsOf src cs s).bnd fun a s1 => R.ok a s1) := by
      cases e : itemsOf src cs s with
      | no => rw [e] at h0; exact h0
      | ex x s' => rw [e] at h0; exact h0
      | ok a s' => rw [e] at h0; exact h0
    refine tSrc.mono (fun J H1 ⟨items, G1, io1, s1, r1, e1, wk, p⟩ => ?_) (src_ok r h1)
    exact ⟨items, G1, io1, s1, r1, e1, wk, p G1 io1 H1 r1 (Ext.refl _ _)⟩
  refine tSrc.mono (fun J H1 ⟨items, G1, io1, s1, r1, e1, wk, p⟩ => ?_) t0
  let Iv : Nat → Nat → St → Hp → Prop := fun i m σ H => ∃ G2 io2 s2, SR Z G2 io2 σ s2 H ∧ Ext G1 io1 G2 io2 ∧ m = items.length - i ∧ i ≤ items.length ∧ AftS Z G2 io2 W D (forLoop tg body cs (items.drop i) s2)
  refine ⟨Iv, ⟨items.length, G1, io1, s1, r1, Ext.refl _ _, rfl, Nat.zero_le _, by rw [List.drop_zero]; exact p⟩, ?_⟩
  rintro i m σ2 H2 ⟨G2, io2, s2, r2, e2, hm, hi, p2⟩
  have g12 : Sub G1 H2 := e2.g.trans r2.sub
  by_cases hlt : i < items.length
  · right
    refine ⟨wk.go i H2 g12 hlt, Iv (i + 1) (items.length - (i + 1)), fun σ' H' h' => ⟨items.length - (i + 1), by omega, h'⟩, fun x H' y => ?_⟩
    have ed : items[i]? = some items[i] := by simp [hlt]
    rw [List.drop_eq_getElem_cons hlt] at p2
    unfold forLoop at p2
    have item : ∃ G3, Sub G2 G3 ∧ SR Z G3 io2 σ2 s2 H' ∧ DR Z.K G3 x items[i] := by
      rcases wk.yld i H2 x H' items[i] g12 ed y with ⟨rfl, dr⟩ | ⟨q, ws, ds, hq, rfl, rfl, dd, ee⟩
      · exact ⟨G2, Sub.refl _, r2, DR.mono e2.g _ _ dr⟩
      · have g3 : Sub G2 (upd G2 q (.tup ws)) := Sub.upd (r2.gnone hq)
        refine ⟨upd G2 q (.tup ws), g3, r2.newG hq _, ?_⟩
        rw [ee]
        exact .tup (SqT.of upd_same) (DRs.mono (e2.g.trans g3) _ _ dd)
    obtain ⟨G3, g3, r3, dr⟩ := item
    have e23 : Ext G2 io2 G3 io2 := ⟨g3, List.prefix_rfl⟩
    cases eT : tgPut tg items[i] s2 with
    | none => simp only [eT] at p2; exact p2.elim
    | some s3 =>
      simp only [eT] at p2
      refine ⟨G3, io2, s2, items[i], s3, r3, dr, eT, fun σ4 r4 _ => ?_⟩
      have p3 := AftS.up p2 e23
      refine ⟨G3, io2, s3, r4, AftS.body p3 (fun _ => rfl) (fun _ _ => rfl) fun s5 σ5 G5 io5 H5 hx r5 e5 => ?_⟩
      refine ⟨G5, io5, s5, r5, e2.trans (e23.trans e5), rfl, hlt, ?_⟩
      rcases hx with hx | hx
      · rw [hx] at p3
        exact AftS.up p3 e5
      · rw [hx] at p3
        exact AftS.up p3 e5
  · left
    have hi' : i = items.length := by omega
    subst hi'
    rw [List.drop_length] at p2
    unfold forLoop at p2
    exact ⟨wk.stop _ H2 g12 (Nat.le_refl _), p2 σ2 G2 io2 H2 r2 (Ext.refl _ _)⟩
theorem den_while {t : M Bool} {body : M Fl} (h : denS Z cs (sWhile t body) W D σ H) : tWhile (denB Z cs t W) (denS Z cs body W) D σ H := by
  obtain ⟨G, io, s, r, h⟩ := h
  let Iv : Nat → St → Hp → Prop := fun m σ H => ∃ G2 io2 s2, SR Z G2 io2 σ s2 H ∧ AftS Z G2 io2 W D (whileLoop t body cs m s2)
  refine ⟨Iv, ⟨wFuel, G, io, s, r, h⟩, ?_⟩
  rintro m σ2 H2 ⟨G2, io2, s2, r2, p2⟩
  cases m with
  | zero => exact p2.elim
  | succ n =>
    unfold whileLoop at p2
    refine denB.of r2 (AftS.val p2) fun b G3 io3 s3 H3 r3 e3 p3 => ?_
    cases b with
    | false => exact p3 σ2 G3 io3 H3 r3 (Ext.refl _ _)
    | true =>
      simp only [if_true] at p3
      rw [if_pos rfl]
      refine ⟨Iv n, fun σ' H' h' => ⟨n, Nat.lt_succ_self _, h'⟩, G3, io3, s3, r3, AftS.body p3 (fun _ => rfl) (fun _ _ => rfl) fun s5 σ5 G5 io5 H5 hx r5 e5 => ?_⟩
      refine ⟨G5, io5, s5, r5, ?_⟩
      rcases hx with hx | hx
      · rw [hx] at p3
        exact AftS.up p3 e5
      · rw [hx] at p3
        exact AftS.up p3 e5
theorem den_aug {i : Nat} {f : M Val} (h : denS Z cs (sAug i f) W D σ H) : tAug i (denV Z cs f W) (ipI fun i j => i + j) D σ H := by
  obtain ⟨G, io, s, r, h⟩ := h
  unfold sAug at h
  cases e0 : s.at_ i with
  | none => rw [e0] at h; exact h.elim
  | some v0 =>
    cases v0 with
    | dat d =>
      cases d with
      | int a =>
        rw [e0] at h
        obtain ⟨w, ew, b⟩ := r.slot i _ e0
        cases DR.int_ b
        refine ⟨_, ew, denV.of r (AftS.val h) fun v G1 io1 s1 H1 r1 e1 p w t => ?_⟩
        revert p t
        split
        · rename_i b'
          intro p t
          cases DR.int_ t.1
          exact ⟨a, b', rfl, rfl, p _ G1 io1 H1 (r1.store (.dat (.int _))) (Ext.refl _ _)⟩
        · intro p; exact p.elim
      | none => rw [e0] at h; exact h.elim
      | bool _ => rw [e0] at h; exact h.elim
      | str _ => rw [e0] at h; exact h.elim
      | list _ => rw [e0] at h; exact h.elim
      | tuple _ => rw [e0] at h; exact h.elim
      | dict _ => rw [e0] at h; exact h.elim
    | own d => rw [e0] at h; exact h.elim
    | scr d => rw [e0] at h; exact h.elim
    | obj d => rw [e0] at h; exact h.elim
    | exn d => rw [e0] at h; exact h.elim
end

/-! ### exceptions: several clauses, with a name or without -/
section
/-- the ends behind a clause that names slot i -/
def offD (D : Ends) (i : Nat) : Ends := ⟨fun τ E => D.nx (τ.set i none) E, D.rt, fun τ E => D.bk (τ.set i none) E, fun τ E => D.ct (τ.set i none) E⟩
abbrev Cl := Value × Option Nat × (Addr → Value → Option Addr → TS)
/-- what the clauses, one by one, wish of an exception -/
def wMix (K : PySem.W.Frag) (Wo : WX) (D : Ends) : List Cl → WX
  | [] => Wo
  | (c, o, ts) :: r => fun cls d τ E => ∃ b, PySem.W.exmOne K cls c = some b ∧ (b = false → wMix K Wo D r cls d τ E) ∧
      (b = true → ∀ p, E p = none → match o with
        | none => ts p cls d D τ E
        | some i => ts p cls d (offD D i) (τ.set i (some (.ref p))) E)
inductive MixOk (X : Cx) : List ExceptHandler → List Cl → Prop
  | nil : MixOk X [] []
  | only {x : Str} {c : Value} {ts : Addr → Value → Option Addr → TS} {st : Stmt} {sts : List Stmt} {p1 p2 : Pos} {hs : List ExceptHandler} {l : List Cl} (nm : Names X x c)
      (su : ∀ (p : Addr) (ob : Obj) (cls : Value) (d : Option Addr) (qs : List (Addr × Obj)), Zc cls d ob → (∃ fs, ob.data = .fields fs) → PSs (X.suite p ((p, ob) :: qs)) (st :: sts) (ts p cls d)) (r : MixOk X hs l) :
      MixOk X (.ExceptHandler (some (.Name x p1)) none (st :: sts) p2 :: hs) ((c, none, ts) :: l)
  | named {x n : Str} {i : Nat} {c : Value} {ts : Addr → Value → Option Addr → TS} {st : Stmt} {sts : List Stmt} {p1 p2 : Pos} {hs : List ExceptHandler} {l : List Cl} (nm : Names X x c) (ni : X.N[i]? = some n) (nk : X.env.kindOf n = some .local)
      (su : ∀ (p : Addr) (ob : Obj) (cls : Value) (d : Option Addr) (qs : List (Addr × Obj)), Zc cls d ob → (∃ fs, ob.data = .fields fs) → PSs (X.suite p ((p, ob) :: qs)) (st :: sts) (ts p cls d)) (r : MixOk X hs l) :
      MixOk X (.ExceptHandler (some (.Name x p1)) (some n) (st :: sts) p2 :: hs) ((c, some i, ts) :: l)
variable {X : Cx} {bd : List Stmt} {h0 : ExceptHandler} {hs : List ExceptHandler} {l : List Cl} {pos : Pos} {tb : WX → TS} {Wo : WX}
theorem ps_try_mix (stk : X.stack = X.env :: X.outer) (frm : X.env.frame = some X.env.locals) (ndp : X.N.Nodup) (tko : Takes X Wo)
    (hbd : ∀ (V : WX) (qs : List (Addr × Obj)) (xe : Value → Shared → Prop), Takes (X.tr qs xe) V → PassesOwn (model X.prog X.w) X.A X.env xe → PSs (X.tr qs xe) bd (tb V))
    (mix : MixOk X (h0 :: hs) l) : PS X (.Try bd (h0 :: hs) [] [] pos) (fun D τ E => tb (wMix X.K Wo D l) D τ E) := by
  constructor
  intro pins st τ E D inv want
  have okx := inv.ok
  have allF : X.A.frames = some (X.env :: X.outer) := okx.frames.trans (congrArg some stk)
  apply wpAny_Try_except
  have bodyRun := (hbd (wMix X.K Wo D l) (X.pn ++ pins) (fun ev t₁ => wpAny (model X.prog X.w) X.A (noteFrame ev X.env) (fun _ t₂ => wpAny (model X.prog X.w) X.A (setFlight ev none) (fun _ t₃ =>
    wpAny (model X.prog X.w) X.A (handleBy ev X.env (h0 :: hs)) (SP X pins D) X.xe t₃) X.xe t₂) X.xe t₁) ?caught PassesOwn.looking).run [] st τ E D (inv.toTry _) want
  case caught =>
    intro uv t1 air
    obtain ⟨p, gr, tI, _, τ1, E1, cls, d, rfl, inI, grd, upw, sky, unp, sos, sba, wish⟩ := air
    have invI : Inv X pins τ1 E1 tI := inI.ofTry okx
    have sky2 : Sky gr (X.env :: X.outer) p (Zc cls d) X.env.locals t1.heap := stk ▸ sky
    change wpAny (model X.prog X.w) X.A (noteFrame (.ref p) X.env) _ _ _
    refine Sky.land Zc.steady allF frm sky2 fun hl lands upl => ?_
    have invL : Inv X pins τ1 E1 { t1 with heap := hl } := invI.landed grd lands.1 (upw.trans upl) sos sba
    obtain ⟨oL, fL, getL, zcL, dataL⟩ := lands.there
    have offFr : p ∉ frs (X.env :: X.outer) := fun inFr => by
      obtain ⟨_, o2, get2, nof⟩ := lands.2.2.1.mem inFr
      rw [getL] at get2
      cases get2
      exact nof _ dataL
    have offL : p ≠ X.env.locals := fun same => offFr (List.mem_filterMap.mpr ⟨X.env, List.mem_cons_self, by rw [frm, same]⟩)
    have offS : p ∉ X.fs := fun inS => by
      obtain ⟨ee, me, qe⟩ := List.mem_filterMap.mp inS
      exact offFr (List.mem_filterMap.mpr ⟨ee, List.mem_cons_of_mem _ me, qe⟩)
    have suiL := invL.suite getL dataL unp offL offS
    have looksT : PySem.W.Looks (model X.prog X.w) hl (typeOf (.ref p)) cls := fun _ _ _ _ kp qq => wpAny_typeOf_ref (kp _ _ getL) (by rw [zcL.1]; exact qq)
    have loads : ∀ {x : Str} {c : Value} {p1 : Pos} {Q EE : Value → Shared → Prop}, Names X x c → Q c { t1 with heap := hl } → wpAny (model X.prog X.w) (X.A.mark (some (.ref p))) (eval (.Name x p1) X.env) Q EE { t1 with heap := hl } := by
      intro x c p1 Q EE nm qc
      obtain ⟨gx, dx, gm | ⟨gm, bv, nn⟩⟩ := nm
      · exact ld_glob (X := X.suite p ((p, oL) :: (X.pn ++ pins))) suiL gx gm qc dx
      · exact ld_blt (X := X.suite p ((p, oL) :: (X.pn ++ pins))) suiL gx gm bv qc nn dx
    have clauses : ∀ {hs' : List ExceptHandler} {l' : List Cl}, MixOk X hs' l' → wMix X.K Wo D l' cls d τ1 E1 → wpAny (model X.prog X.w) X.A (handleBy (.ref p) X.env hs') (SP X pins D) X.xe { t1 with heap := hl } := by
      intro hs' l' mk
      induction mk with
      | nil =>
        intro out
        apply wpAny_handleBy_nil
        obtain ⟨_, _, _, oN, fN, tbN, _, _, getN, _, dataN, atN, _⟩ := id lands
        unfold PySem.passOn
        refine wpAny_bind (wpAny_field getN dataN atN ?_)
        have notNone : ¬ ((Value.ref tbN == Value.none) = true) := by simp
        rw [if_neg notNone]
        have goesOn : wpAny (model X.prog X.w) X.A (setFlight (.ref p) X.env.frame) (fun _ t4 => wpAny (model X.prog X.w) X.A (throw (.ref p) : Sem Flow) (SP X pins D) X.xe t4) X.xe { t1 with heap := hl } := by
          rw [frm]
          refine HandSPX.setFlight_upZ lands fun hm held upm => wpAny_throw (tko _ _ ?_)
          exact ⟨p, gr, tI, pins, τ1, E1, cls, d, rfl, invI, grd, (upw.trans upl).trans upm, .inr (.inr (stk.symm ▸ held)), unp, sos, sba, out⟩
        first
          | exact wpAny_bind goesOn
          | exact wpAny_bind (wpAny_pure (wpAny_bind goesOn))
      | only nm su _ ih =>
        intro out
        obtain ⟨b, isB, isNo, isYes⟩ := out
        refine wpAny_handleBy_cons (codeAny_handlers_test ?_) (by rintro ⟨⟩)
        refine loads nm ((PySem.W.exm_one (M := model X.prog X.w) invL.kIn looksT isB).here ?_)
        cases b with
        | false => exact ih (isNo rfl)
        | true =>
          apply codeAny_handlers_suite
          refine HandSPX.lands_againZ lands fun ha landsA upa => ?_
          have invA : Inv X pins τ1 E1 { t1 with heap := ha } := invI.landed grd landsA.1 ((upw.trans upl).trans upa) sos sba
          obtain ⟨oA, fA, getA, zcA, dataA⟩ := landsA.there
          have ran := (su p oA cls d (X.pn ++ pins) zcA ⟨_, dataA⟩).run [] _ τ1 E1 D (invA.suite getA dataA unp offL offS) (isYes rfl p unp)
          refine wpAny_mono ran (fun fl t6 spq => ?_) fun _ _ ff => ff.elim
          cases fl with
          | ret u => obtain ⟨v6, τ6, E6, inv6, rel6, q6⟩ := spq; exact ⟨v6, τ6, E6, inv6.unsuite okx, rel6, q6⟩
          | next => obtain ⟨τ6, E6, inv6, q6⟩ := spq; exact ⟨τ6, E6, inv6.unsuite okx, q6⟩
          | brk => obtain ⟨τ6, E6, inv6, q6⟩ := spq; exact ⟨τ6, E6, inv6.unsuite okx, q6⟩
          | cont => obtain ⟨τ6, E6, inv6, q6⟩ := spq; exact ⟨τ6, E6, inv6.unsuite okx, q6⟩
      | @named x n i c ts st' sts p1 p2 hs2 l2 nm ni nk su _ ih =>
        intro out
        obtain ⟨b, isB, isNo, isYes⟩ := out
        refine wpAny_handleBy_cons (codeAny_handlers_test ?_) (by rintro ⟨⟩)
        refine loads nm ((PySem.W.exm_one (M := model X.prog X.w) invL.kIn looksT isB).here ?_)
        cases b with
        | false => exact ih (isNo rfl)
        | true =>
          apply codeAny_handlers_suite_as
          refine HandSPX.lands_againZ lands fun ha landsA upa => ?_
          have invA : Inv X pins τ1 E1 { t1 with heap := ha } := invI.landed grd landsA.1 ((upw.trans upl).trans upa) sos sba
          obtain ⟨oA, fA, getA, zcA, dataA⟩ := landsA.there
          refine store_ok (X := X.suite p ((p, oA) :: (X.pn ++ pins))) (v := .ref p) (invA.suite getA dataA unp offL offS) ndp ni (.inl nk) rfl (fun t5 inv5 => ?_) (.inr nk)
          have ran := (su p oA cls d (X.pn ++ pins) zcA ⟨_, dataA⟩).run [] t5 _ E1 (offD D i) inv5 (isYes rfl p unp)
          refine wpAny_mono ran (fun fl t6 spq => ?_) fun _ _ ff => ff.elim
          have closes : ∀ {τ6 : St} {E6 : Hp} {Q : Shared → Prop}, Inv (X.suite p ((p, oA) :: (X.pn ++ pins))) [] τ6 E6 t6 → (∀ t7, Inv X pins (τ6.set i none) E6 t7 → Q t7) →
              wpAny (model X.prog X.w) X.A (do bindName X.env n .none; unbindBehindTheSuite X.env n p2) (fun _ t7 => Q t7) X.xe t6 := by
            intro τ6 E6 Q inv6 hq
            exact gone_ok (inv6.unsuite okx) ndp ni nk hq
          cases fl with
          | ret u => obtain ⟨v6, τ6, E6, inv6, rel6, q6⟩ := spq; exact closes inv6 fun t7 inv7 => ⟨v6, _, E6, inv7, rel6, q6⟩
          | next => obtain ⟨τ6, E6, inv6, q6⟩ := spq; exact closes inv6 fun t7 inv7 => ⟨_, E6, inv7, q6⟩
          | brk => obtain ⟨τ6, E6, inv6, q6⟩ := spq; exact closes inv6 fun t7 inv7 => ⟨_, E6, inv7, q6⟩
          | cont => obtain ⟨τ6, E6, inv6, q6⟩ := spq; exact closes inv6 fun t7 inv7 => ⟨_, E6, inv7, q6⟩
    exact clauses mix wish
  refine wpAny_mono bodyRun (fun fl t1 spq => ?_) fun _ _ ex => ex
  cases fl with
  | ret u => obtain ⟨v6, τ6, E6, inv6, rel6, q6⟩ := spq; exact ⟨v6, τ6, E6, inv6.ofTry okx, rel6, q6⟩
  | next => obtain ⟨τ6, E6, inv6, q6⟩ := spq; exact wpAny_execs_nil ⟨τ6, E6, inv6.ofTry okx, q6⟩
  | brk => obtain ⟨τ6, E6, inv6, q6⟩ := spq; exact ⟨τ6, E6, inv6.ofTry okx, q6⟩
  | cont => obtain ⟨τ6, E6, inv6, q6⟩ := spq; exact ⟨τ6, E6, inv6.ofTry okx, q6⟩
end

/-! ### raise and try, reckoned -/
def noX : R Fl → R Fl
  | .ok x s => .ok x s
  | _ => .no
def offR (i : Nat) : R Fl → R Fl
  | .ok x s => .ok x (s.put i none)
  | _ => .no
def runCl : List (Nat × Option Nat × M Fl) → Cs → Exn → S → R Fl
  | [], _, e, s => .ex e s
  | (c, o, f) :: r, cs, e, s => if subc e.cls c then (match o with
      | none => noX (f { cs with xn := some e } s)
      | some i => if i < s.sl.length then offR i (f { cs with xn := some e } (s.put i none)) else .no)
    else runCl r cs e s
def sTry (body : M Fl) (cl : List (Nat × Option Nat × M Fl)) : M Fl := fun cs s => match body cs s with
  | .ex e s1 => runCl cl cs e s1
  | r => r
def sRaise (id : Nat) : M Fl := fun _ s => .ex ⟨id, none⟩ s
def sRaiseF (id : Nat) (f : Str) (a : M Val) : M Fl := fun cs s => if 2 ≤ cs.lv then (mArgs [a] cs s).bnd fun vs s1 => (match vs with
  | [.dat d] => .ex ⟨id, some (f, d)⟩ s1
  | _ => .no) else .no
/-- isinstance(e, C) of the exception in hand (none: ValueError), e.f -/
def mIsE (i : Nat) (k : Option Nat) : M Val := fun cs s => match s.at_ i, cs.xn with
  | none, some e => .ok (.dat (.bool (match k with
    | some c => subc e.cls c
    | none => true))) s
  | _, _ => .no
def mFldE (i : Nat) (f : Str) : M Val := fun cs s => match s.at_ i, cs.xn with
  | none, some ⟨c, some (g, d)⟩ => if f = g ∧ fldOf c = some f then .ok (.dat d) s else .no
  | _, _ => .no
section
variable {Z : Sur} {G H : Hp} {io : List Addr} {W : WX} {D : Ends} {σ : St} {s : S} {cs : Cs} {w : V} {v : Val}
def Sur.hot (Z : Sur) (xs : Option (Nat × Addr)) (xf : Option (Addr × Str × V × PyData)) : Sur := { Z with xs := xs, xf := xf }
theorem at_none {i j : Nat} {u : Val} (h : (s.put i none).at_ j = some u) : j ≠ i ∧ s.at_ j = some u := by
  by_cases z : j = i
  · subst z
    have hl := at_lt h
    have hl : j < s.sl.length := by
      have : (s.put j none).sl.length = s.sl.length := List.length_set
      omega
    rw [at_put_same hl] at h; cases h
  · rw [at_put_ne z] at h; exact ⟨z, h⟩
theorem Mine.hot {a : Addr} {Z' : Sur} (m : Mine Z G H io a) (h1 : Z'.H0 = Z.H0) (h2 : Z'.kp = Z.kp) : Mine Z' G H io a := ⟨m.g, by rw [h1]; exact m.h0, by rw [h2]; exact m.kp, m.io, m.h⟩
/-- a slot is forgotten, the surroundings know of another exception -/
theorem SR.turn {Z' : Sur} {o : Option V} (r : SR Z G io σ s H) (i : Nat) (hK : Z'.K = Z.K) (hC : Z'.cla = Z.cla) (h1 : Z'.H0 = Z.H0) (h2 : Z'.G0 = Z.G0) (h3 : Z'.io0 = Z.io0) (h4 : Z'.kp = Z.kp) (x : XS Z' G (σ.set i o) (s.put i none) H) : SR Z' G io (σ.set i o) (s.put i none) H where
  sub := r.sub
  old := by rw [h1]; exact r.old
  gold := by rw [h1, h2]; exact r.gold
  iold := by rw [h1, h3]; exact r.iold
  kept := by rw [h1, h4]; exact r.kept
  slot := fun j u hj => by
    obtain ⟨ne, hj⟩ := at_none hj
    obtain ⟨w, e, b⟩ := r.slot j u hj
    rw [hK]
    exact ⟨w, by rw [List.getElem?_set_ne (Ne.symm ne)]; exact e, b⟩
  mine := fun j xs a hj e => by
    obtain ⟨ne, hj⟩ := at_none hj
    rw [List.getElem?_set_ne (Ne.symm ne)] at e
    obtain ⟨m, q⟩ := r.mine j xs a hj e
    refine ⟨m.hot h1 h4, fun k ys hk ek => ?_⟩
    obtain ⟨nk, hk⟩ := at_none hk
    rw [List.getElem?_set_ne (Ne.symm nk)] at ek
    exact q k ys hk ek
  ol := r.ol
  ond := r.ond
  ofr := r.ofr
  ob := by rw [hK, hC]; exact r.ob
  len := by show (s.sl.set i _).length = _; rw [List.length_set, List.length_set]; exact r.len
  xx := x
theorem SR.turn0 {Z' : Sur} (r : SR Z G io σ s H) (hK : Z'.K = Z.K) (hC : Z'.cla = Z.cla) (h1 : Z'.H0 = Z.H0) (h2 : Z'.G0 = Z.G0) (h3 : Z'.io0 = Z.io0) (h4 : Z'.kp = Z.kp) (x : XS Z' G σ s H) : SR Z' G io σ s H where
  sub := r.sub
  old := by rw [h1]; exact r.old
  gold := by rw [h1, h2]; exact r.gold
  iold := by rw [h1, h3]; exact r.iold
  kept := by rw [h1, h4]; exact r.kept
  slot := by rw [hK]; exact r.slot
  mine := fun j xs a hj e => by
    obtain ⟨m, q⟩ := r.mine j xs a hj e
    exact ⟨m.hot h1 h4, q⟩
  ol := r.ol
  ond := r.ond
  ofr := r.ofr
  ob := by rw [hK, hC]; exact r.ob
  len := r.len
  xx := x
theorem VT.turn {Z' : Sur} {o : Option V} (t : VT Z G io σ s H w v) (i : Nat) (hK : Z'.K = Z.K) (h1 : Z'.H0 = Z.H0) (h4 : Z'.kp = Z.kp) : VT Z' G io (σ.set i o) (s.put i none) H w v := by
  refine ⟨by rw [hK]; exact t.1, fun xs a e1 e2 => ?_⟩
  obtain ⟨m, q⟩ := t.2 xs a e1 e2
  refine ⟨m.hot h1 h4, fun j ys hj => ?_⟩
  obtain ⟨ne, hj⟩ := at_none hj
  rw [List.getElem?_set_ne (Ne.symm ne)]
  exact q j ys hj
theorem VT.turn0 {Z' : Sur} (t : VT Z G io σ s H w v) (hK : Z'.K = Z.K) (h1 : Z'.H0 = Z.H0) (h4 : Z'.kp = Z.kp) : VT Z' G io σ s H w v := by
  refine ⟨by rw [hK]; exact t.1, fun xs a e1 e2 => ?_⟩
  obtain ⟨m, q⟩ := t.2 xs a e1 e2
  exact ⟨m.hot h1 h4, q⟩
/-- the exception in hand, as the surroundings know it -/
def XH (Z : Sur) (e : Exn) (cls : Value) (d : Option Addr) (xf : Option (Addr × Str × V × PyData)) : Prop := ∃ C, Z.cla e.cls = some C ∧ cls = .ref C ∧ match e.fld with
  | none => d = none ∧ xf = none
  | some (g, pd) => ∃ dd u, d = some dd ∧ xf = some (dd, g, u, pd)
def tsOf (Z : Sur) (cs : Cs) (o : Option Nat) (f : M Fl) (p : Addr) (cls : Value) (d : Option Addr) : TS := fun D σ H => ∃ e xf, XH Z e cls d xf ∧ denS (Z.hot (o.map (·, p)) xf) { cs with xn := some e } f (fun _ _ _ _ => False) D σ H
theorem xs_none (h1 : Z.xs = none) (h2 : Z.xf = none) : XS Z G σ s H := ⟨fun i a h => (by rw [h1] at h; cases h), fun dd f w d h => (by rw [h2] at h; cases h)⟩
theorem hot_fl {e : Exn} {cls : Value} {d : Option Addr} (x : XR Z.K Z.cla G H e cls d) : ∃ xf, XH Z e cls d xf ∧ ∀ (dd : Addr) (f : Str) (w : V) (d : PyData), xf = some (dd, f, w, d) → H dd = some (.xd [(f, w)]) ∧ DR Z.K G w d := by
  obtain ⟨C, h1, h2, h3⟩ := x
  unfold XH
  cases e1 : e.fld with
  | none =>
    rw [e1] at h3
    exact ⟨none, ⟨C, h1, h2, h3, rfl⟩, fun _ _ _ _ z => by cases z⟩
  | some q =>
    obtain ⟨g, pd⟩ := q
    rw [e1] at h3
    obtain ⟨dd, u, e2, e3, e4⟩ := h3
    refine ⟨some (dd, g, u, pd), ⟨C, h1, h2, dd, u, e2, rfl⟩, fun _ _ _ _ z => ?_⟩
    cases z
    exact ⟨e3, e4⟩
theorem den_try {body : M Fl} {cl : List (Nat × Option Nat × M Fl)} {cv : Nat → Value} (hx1 : Z.xs = none) (hx2 : Z.xf = none) (hc : ∀ q ∈ cl, ∀ (n : Nat) (C : Addr), Z.cla n = some C → PySem.W.exmOne Z.K (.ref C) (cv q.1) = some (subc n q.1))
    (h : denS Z cs (sTry body cl) W D σ H) : denS Z cs body (wMix Z.K W D (cl.map fun q => (cv q.1, q.2.1, tsOf Z cs q.2.1 q.2.2))) D σ H := by
  obtain ⟨G, io, s, r, h⟩ := h
  refine ⟨G, io, s, r, ?_⟩
  have h' : AftS Z G io W D (match body cs s with
    | .ex e s1 => runCl cl cs e s1
    | r => r) := h
  cases eb : body cs s with
  | no => rw [eb] at h'; exact h'.elim
  | ok x s1 => rw [eb] at h'; cases x <;> exact h'
  | ex e s1 =>
    rw [eb] at h'
    intro σ1 cls d G1 io1 H1 r1 e1 xr
    have h2 := AftS.up h' e1
    clear h h' eb
    induction cl with
    | nil => exact h2 σ1 cls d G1 io1 H1 r1 (Ext.refl _ _) xr
    | cons q l ih =>
      obtain ⟨c, o, f⟩ := q
      obtain ⟨C, x1, x2, x3⟩ := id xr
      refine ⟨subc e.cls c, by rw [x2]; exact hc _ List.mem_cons_self e.cls C x1, fun hb => ?_, fun hb p hp => ?_⟩
      · refine ih (fun q hq => hc q (List.mem_cons_of_mem _ hq)) ?_
        have h3 : AftS Z G1 io1 W D (if subc e.cls c = true then _ else runCl l cs e s1) := h2
        rw [hb] at h3
        exact h3
      · obtain ⟨xf, xh, fl⟩ := hot_fl xr
        cases o with
        | none =>
          have h3 : AftS Z G1 io1 W D (if subc e.cls c = true then noX (f { cs with xn := some e } s1) else _) := h2
          rw [hb, if_pos rfl] at h3
          refine ⟨e, xf, xh, G1, io1, s1, r1.turn0 rfl rfl rfl rfl rfl rfl ⟨fun i a z => (by cases z), fl⟩, ?_⟩
          show AftS (Z.hot none xf) G1 io1 _ D (f { cs with xn := some e } s1)
          have back : ∀ {σ' : St} {G' : Hp} {io' : List Addr} {s' : S} {H' : Hp}, SR (Z.hot none xf) G' io' σ' s' H' → SR Z G' io' σ' s' H' := fun q => q.turn0 rfl rfl rfl rfl rfl rfl (xs_none hx1 hx2)
          cases ef : f { cs with xn := some e } s1 with
          | no => rw [ef] at h3; exact h3.elim
          | ex e' s' => rw [ef] at h3; exact h3.elim
          | ok a s' =>
            rw [ef] at h3
            cases a with
            | nx => exact fun σ' G' io' H' r' e' => h3 σ' G' io' H' (back r') e'
            | rt u => exact fun σ' G' io' H' r' e' w t => h3 σ' G' io' H' (back r') e' w (t.turn0 rfl rfl rfl)
            | bk => exact fun σ' G' io' H' r' e' => h3 σ' G' io' H' (back r') e'
            | ct => exact fun σ' G' io' H' r' e' => h3 σ' G' io' H' (back r') e'
        | some i =>
          have h3 : AftS Z G1 io1 W D (if subc e.cls c = true then (if i < s1.sl.length then offR i (f { cs with xn := some e } (s1.put i none)) else .no) else _) := h2
          rw [hb, if_pos rfl] at h3
          by_cases hi : i < s1.sl.length
          · rw [if_pos hi] at h3
            have hi2 : i < σ1.length := by rw [← r1.len]; exact hi
            refine ⟨e, xf, xh, G1, io1, s1.put i none, r1.turn i rfl rfl rfl rfl rfl rfl ⟨fun j a z _ => ?_, fl⟩, ?_⟩
            · have z : some (i, p) = some (j, a) := z
              cases z
              exact List.getElem?_set_self hi2
            show AftS (Z.hot (some (i, p)) xf) G1 io1 _ (offD D i) (f { cs with xn := some e } (s1.put i none))
            have back : ∀ {σ' : St} {G' : Hp} {io' : List Addr} {s' : S} {H' : Hp}, SR (Z.hot (some (i, p)) xf) G' io' σ' s' H' → SR Z G' io' (σ'.set i none) (s'.put i none) H' := fun q => q.turn i rfl rfl rfl rfl rfl rfl (xs_none hx1 hx2)
            cases ef : f { cs with xn := some e } (s1.put i none) with
            | no => rw [ef] at h3; exact h3.elim
            | ex e' s' => rw [ef] at h3; exact h3.elim
            | ok a s' =>
              rw [ef] at h3
              cases a with
              | nx => exact fun σ' G' io' H' r' e' => h3 _ G' io' H' (back r') e'
              | rt u => exact fun σ' G' io' H' r' e' w t => h3 _ G' io' H' (back r') e' w (t.turn i rfl rfl rfl)
              | bk => exact fun σ' G' io' H' r' e' => h3 _ G' io' H' (back r') e'
              | ct => exact fun σ' G' io' H' r' e' => h3 _ G' io' H' (back r') e'
          · rw [if_neg hi] at h3; exact h3.elim
/-- raise X('m') -/
theorem den_raise {id : Nat} {C : Addr} (hC : Z.cla id = some C) (h : denS Z cs (sRaise id) W D σ H) : W (.ref C) none σ H := by
  obtain ⟨G, io, s, r, h⟩ := h
  exact h σ (.ref C) none G io H r (Ext.refl _ _) ⟨C, hC, rfl, rfl⟩
end

/-! ### an own class over ValueError with one field: its __init__, raise C(x) -/
/-- what __init__(self, f) does: the field is laid -/
def spIni (K : PySem.W.Frag) (C : Addr) (f : Str) : Sp := fun vs H Q _ => ∃ p y, vs = [.ref p, y] ∧ OexC K C ∧ PySem.W.findIn K (.ref C) f = some none ∧ H p = some (exo p C none) ∧ ∀ dx, H dx = none → dx ≠ p → Q .non (upd (upd H dx (exd dx [(f, y)])) p (exo p C (some dx)))
section
variable {X : Cx} {B : Addr} {b : Str} {o e : Expr} {es : List Expr} {ta : TA} {p1 p2 pos : Pos}
/-- B.__init__(self, ..), B an own class that has ValueError's -/
theorem pe_cinit {pl : Sem Bool} {mc : Value} (hg : Gl X b) (hdb : (b == ("__debug__" : Str)) = false) (hm : X.mg b = some (.ref B)) (rd : ClX.CRead X.K B mc) (at_ : PySem.W.findCls X.K (.ref B) mc "__init__" = some (.val (.builtin "ValueError.__init__"))) (ha : PA X (e :: es) ta)
    (ev : eval (.Call (.Attribute (.Name b p1) "__init__" p2) (e :: es) [] pos) X.env = (do
      let bv ← eval (.Name b p1) X.env
      standAt p2.atName
      let (fn, fst) ← holding [bv] (getMethod bv "__init__" pl)
      callWith pos fn fst (backTo pos (starEach (e :: es) X.env)) (backToKw pos (keywordEach [] X.env))) := by rfl)
    (st : starEach (e :: es) X.env = (false, eval e X.env) :: starEach es X.env := by rfl) (ns : (backTo pos (starEach es X.env)).any (·.1) = false := by rfl) :
    PE X (.Call (.Attribute (.Name b p1) "__init__" p2) (e :: es) [] pos) (tVeI X.K ta) := by
  constructor
  intro pins s σ H Q I want
  refine PySem.W.methodCall_KW (ld_glob I hg hm ?_ hdb) ev
  refine PySem.W.method_cls I.kIn rd.ga (PySem.W.cls_value I.kIn rd.rd at_ (by decide +kernel) ?_)
  change wpAny _ _ (callWith pos (Value.builtin "ValueError.__init__") [] (backTo pos (starEach (e :: es) X.env)) []) _ _ _
  refine PyProof.Rows.callWith_method1 (thn (ha.run pos pins _ σ H _ (I.tok _) want) fun us s1 got => ?_) st ns
  obtain ⟨vs, H1, I1, rel, q, C, ws, rfl, many, T, at1, fin⟩ := got
  cases rel with
  | @cons _ u0 _ ur r0 rr =>
    obtain rfl : u0 = Value.ref q := r0
    have few : ur.length ≤ sizeLine := by
      rw [← Paired.length rr, sizeLine_eq]
      omega
    exact oinit_ok T I1 at1 few fun s' J => ⟨.non, H1, J, rfl, fin⟩
end
section
variable {P : Program} {w : World} {K : PySem.W.Frag} {mg : Str → Option Value} {base : Heap} {C B fI : Addr} {fd : FuncData} {f b m qual : Str} {params : Arguments} {body : List Stmt} {scope : Scope} {kws : List (Str × V)} {mc : Value}
theorem ini_ok {j : Nat} {q1 q2 q3 q4 q5 q6 q7 q8 q9 q10 : Pos} (F : FunD K "__init__" qual params body scope [] kws fI fd) (hf : f ≠ "self")
    (hbody : body = [.Expr (.Call (.Attribute (.Name b q1) "__init__" q2) [.Name "self" q3, .Constant (.str m) j q4] [] q5) q6, .Assign [.Attribute (.Name "self" q7) f q8] (.Name f q9) q10])
    (S : FnScope ["self", f] ["self", f] scope) (v0 : Vis scope "self") (v1 : Vis scope f) (g0 : scope.names.lookup b = some .globalImplicit) (db : (b == ("__debug__" : Str)) = false) (df : (f == ("__debug__" : Str)) = false ∧ (f == ("__classdict__" : Str)) = false)
    (hev : ∀ env : Env, ∃ pl : Sem Bool, eval (.Call (.Attribute (.Name b q1) "__init__" q2) [.Name "self" q3, .Constant (.str m) j q4] [] q5) env = (do
      let bv ← eval (.Name b q1) env
      standAt q2.atName
      let (fn, fst) ← holding [bv] (getMethod bv "__init__" pl)
      callWith q5 fn fst (backTo q5 (starEach [.Name "self" q3, .Constant (.str m) j q4] env)) (backToKw q5 (keywordEach [] env))))
    (hm : mg b = some (.ref B)) (rd : ClX.CRead K B mc) (at_ : PySem.W.findCls K (.ref B) mc "__init__" = some (.val (.builtin "ValueError.__init__"))) :
    FnOk P w K mg base (L2.CX P w) 1 fI fd ["self", f] (spIni K C f) := by
  refine FunD.ok (k := 0) F S (fun vs H Q E h => ?_) fun cdv A outer s H vs Q E hr h => ?_
  · obtain ⟨p, y, rfl, _⟩ := h
    rfl
  · subst hbody
    obtain ⟨pl, hpl⟩ := hev (cxOf (L2.CX P w) P w K mg base ["self", f] qual scope fI cdv A outer s H E).env
    refine ⟨_, PSs.nox (pss_cons (ps_expr (pe_cinit (pl := pl) (mc := mc) (ev := hpl) g0 db hm rd at_ (pa_cons (pe_var (i := 0) rfl v0 (by decide) (by decide)) (pa_cons pe_str pa_nil))))
      (pss_one (ps_ost (pe_var (i := 0) rfl v0 (by decide) (by decide)) (pe_var (i := 1) rfl v1 df.1 df.2)))), ?_⟩
    obtain ⟨p, y, rfl, T, no, at0, fin⟩ := h
    refine ⟨.ref p, rfl, ?_⟩
    refine ⟨p, C, [.str m], rfl, by simp, T, at0, ?_⟩
    refine ⟨y, rfl, .ref p, rfl, p, C, rfl, T, no, .inl ⟨at0, fun dx n ne => fin dx n ne⟩⟩
end
section
variable {Z : Sur} {G H : Hp} {io : List Addr} {W : WX} {D : Ends} {σ : St} {s : S} {cs : Cs}
/-- raise C(x): what comes of it -/
theorem den_raiseF {id : Nat} {f : Str} {a : M Val} {C : Addr} (hlv : 2 ≤ cs.lv) (hC : Z.cla id = some C) (T : OexC Z.K C) (no : PySem.W.findIn Z.K (.ref C) f = some none) (h : denS Z cs (sRaiseF id f a) W D σ H) :
    tMkO C (spIni Z.K C f) [] (denA Z cs (mArgs [a]) W) σ H (fun cls d H' => W cls d σ H') := by
  obtain ⟨G, io, s, r, h⟩ := h
  have h : AftS Z G io W D (if 2 ≤ cs.lv then (mArgs [a] cs s).bnd fun vs s1 => (match vs with
    | [.dat d] => .ex ⟨id, some (f, d)⟩ s1
    | _ => .no) else .no) := h
  rw [if_pos hlv] at h
  refine ⟨G, io, s, r, (AftS.val h).mono fun vs G1 io1 s1 H1 r1 e1 p ws hw => ?_⟩
  match vs, ws, hw, p with
  | [.dat d], [y], hw, p =>
    have dr : DR Z.K G1 y d := hw.1.1
    refine ⟨by simp, fun q hq => ⟨q, y, rfl, T, no, upd_same, fun dx hdx ne => ⟨rfl, dx, [(f, y)], upd_same, ?_, ?_, ?_⟩⟩⟩
    · rw [upd_ne ne, upd_same]
    · rw [upd_ne ne] at hdx
      exact hdx
    · rw [upd_ne ne] at hdx
      have eH : upd (del (upd (upd (upd H1 q (exo q C none)) dx (exd dx [(f, y)])) q (exo q C (some dx))) q) dx (.xd [(f, y)]) = upd H1 dx (.xd [(f, y)]) := by
        funext z
        by_cases h1 : z = dx
        · rw [h1, upd_same, upd_same]
        · rw [upd_ne h1, upd_ne h1]
          by_cases h2 : z = q
          · rw [h2, del_same, hq]
          · rw [del_ne h2, upd_ne h2, upd_ne h1, upd_ne h2]
      rw [eH]
      exact p σ (.ref C) (some dx) G1 io1 _ (r1.new hdx _) (Ext.refl _ _) ⟨C, hC, rfl, dx, y, rfl, upd_same, dr⟩
  | [.own _], _, _, p => exact p.elim
  | [.scr _], _, _, p => exact p.elim
  | [.obj _], _, _, p => exact p.elim
  | [.exn _], _, _, p => exact p.elim
  | [], _, _, p => exact p.elim
  | v0 :: _ :: _, _, _, p => cases v0 <;> exact (p : False).elim
end
end CH

/-! TS: set(xs) and sorted(set(xs)) of texts. -/
namespace CH
open PySem PySem.Spec PyProof.Rows L2
def txKey (e : Int × Value) : Str := match e.2 with
  | .str k _ => k
  | _ => Str.empty
def TxEl (w : World) (e : Int × Value) : Prop := ∃ (k : Str) (u : Tok), e.2 = .str k u ∧ e.1 = hashStr w k
/-- the set at a holds the texts L, in some order; it can be walked -/
def TxSet (w : World) (hp : Heap) (a : Addr) (L : List Str) : Prop := ∃ ob es ep tb, hp.get? a = some ob ∧ ob.ExactSet ∧ ob.data = .set es ep tb ∧ (∀ e ∈ es.toList, TxEl w e) ∧ (es.toList.map txKey).Perm L ∧ L.Nodup ∧
  L.length < scanBound ∧ tb.fits es.size = true ∧ Ris tb.place.toList ∧ (w.params.followText "set-order" = true ∨ tb.led = true)
def addS (L : List Str) (k : Str) : List Str := if k ∈ L then L else L ++ [k]
section
variable {P : Program} {w : World}
theorem tx_elems {l : List (Int × Value)} (g : ∀ e ∈ l, TxEl w e) : ElemsOf (PySem.strKind P w) l := fun e he => by
  obtain ⟨k, u, e1, e2⟩ := g e he
  refine ⟨⟨k, ?_, e2⟩, ?_⟩
  · rw [e1]
    exact strKind_is P w k u
  · rw [e1]
    rfl
theorem tx_is {e : Int × Value} (g : TxEl w e) (k : Str) : (PySem.strKind P w).is k e.2 = true ↔ txKey e = k := by
  obtain ⟨k0, u, e1, _⟩ := g
  have e2 : txKey e = k0 := by unfold txKey; rw [e1]
  rw [e2, e1]
  constructor
  · intro z
    exact (PySem.strKind P w).inj (.str k0 u) k0 k (strKind_is P w k0 u) z
  · rintro rfl
    exact strKind_is P w k0 u
theorem tx_mem {l : List (Int × Value)} (g : ∀ e ∈ l, TxEl w e) (k : Str) : k ∈ l.map txKey ↔ ∃ e ∈ l, (PySem.strKind P w).is k e.2 = true := by
  constructor
  · intro z
    obtain ⟨e, he, q⟩ := List.mem_map.mp z
    exact ⟨e, he, (tx_is (g e he) k).mpr q⟩
  · rintro ⟨e, he, q⟩
    exact List.mem_map.mpr ⟨e, he, (tx_is (g e he) k).mp q⟩
end
theorem tx_store {hp : Heap} {a : Addr} {ob : Obj} {es es' : Array (Int × Value)} {ep : Nat} {tb tb' : SetTable} (ho : hp.get? a = some ob) (hd : ob.data = .set es ep tb) :
    (hp.update a (Obj.putSet es' tb')).get? a = some { ob with data := .set es' (ep + 1) tb' } := by
  have z := Heap.get?_update_self (Obj.putSet es' tb') ho (by rw [putSet_of es' tb' hd]; rfl)
  rwa [putSet_of es' tb' hd] at z
section
variable {P : Program} {w : World} {A : Around} {E : Value → Shared → Prop} {s : Shared} {a : Addr} {L : List Str}
theorem tx_tail {gw : Bool → Sem Unit} (hgw : ∀ (b : Bool) (s₁ : Shared) (Q' : Unit → Shared → Prop), Q' () s₁ → wpAny (model P w) A (gw b) Q' E s₁) {ob : Obj} {es : Array (Int × Value)} {ep : Nat} {tb : SetTable} (ho : s.heap.get? a = some ob) (hx : ob.ExactSet)
    (hd : ob.data = .set es ep tb) {es1 : Array (Int × Value)} {tb2 : SetTable} {L' : List Str} (g1 : ∀ e ∈ es1.toList, TxEl w e) (p1 : (es1.toList.map txKey).Perm L') (nd1 : L'.Nodup) (few : L'.length < scanBound) (f2 : tb2.fits es1.size = true)
    (r2 : Ris tb2.place.toList) (l2 : w.params.followText "set-order" = true ∨ tb2.led = true) {dm : Bool} {R : Option Bool → Shared → Prop} (hR : ∀ h', Heap.SameBut a s.heap h' → TxSet w h' a L' → R (some true) { s with heap := h' }) :
    wpAny (model P w) A (do
      storeSet a es1 tb2
      if (!dm && tb2.tooFull) = true then do
        gw (relayAll tb2 es1 (SetTable.grown es1.size)).2.2
        storeSet a (relayAll tb2 es1 (SetTable.grown es1.size)).1 (relayAll tb2 es1 (SetTable.grown es1.size)).2.1
        pure (some true)
      else pure (some true)) R E s := by
  have hsz0 : es1.size = L'.length := by rw [← p1.length_eq, List.length_map, Array.length_toList]
  have hz1 : es1.size < scanBound := by omega
  refine wpAny_bind (wpAny_storeSet_of ho hd ?_ (fits_of_scanBound hz1))
  have o1 := tx_store (es' := es1) (tb' := tb2) ho hd
  have same1 := Heap.SameBut.update s.heap a (Obj.putSet es1 tb2)
  split
  · have pm := relayAll_perm tb2 es1 (SetTable.grown es1.size)
    have f3 := relayAll_fits tb2 es1 (SetTable.grown es1.size)
    have r3 := relayAll_ris tb2 es1 (SetTable.grown es1.size)
    have l3 := relayAll_led tb2 es1 (SetTable.grown es1.size)
    generalize relayAll tb2 es1 (SetTable.grown es1.size) = y at pm f3 r3 l3 ⊢
    obtain ⟨es2, tb3, gave⟩ := y
    dsimp only at pm f3 r3 l3 ⊢
    have hz2 : es2.size < scanBound := by
      have : es2.size = es1.size := by rw [← Array.length_toList, pm.length_eq, Array.length_toList]
      omega
    refine wpAny_bind (hgw _ _ _ (wpAny_bind (wpAny_storeSet_of o1 rfl ?_ (fits_of_scanBound hz2))))
    refine wpAny_pure (hR _ (same1.trans (Heap.SameBut.update _ a _)) ?_)
    exact ⟨_, es2, _, tb3, tx_store (es' := es2) (tb' := tb3) o1 rfl, hx, rfl, fun e he => g1 e (pm.mem_iff.mp he), (pm.map txKey).trans p1, nd1, few, f3, r3, l2.imp id fun z => l3.trans z⟩
  · exact wpAny_pure (hR _ same1 ⟨_, es1, _, tb2, o1, hx, rfl, g1, p1, nd1, few, f2, r2, l2⟩)
theorem tx_add {k : Str} {u : Tok} {Q : Bool → Shared → Prop} (T : TxSet w s.heap a L) (room : L.length + 1 < scanBound) (hQ : ∀ b h', Heap.SameBut a s.heap h' → TxSet w h' a (addS L k) → Q b { s with heap := h' }) :
    wpAny (model P w) A (setAddHashed a (.str k u) ((PySem.strKind P w).hash k)) Q E s := by
  obtain ⟨ob, es, ep, tb, ho, hx, hd, g, pm, nd, few, hf, hr, hl⟩ := T
  have hk : (PySem.strKind P w).is k (.str k u) = true := strKind_is P w k u
  have sc : (Value.str k u).scannable = true := rfl
  have els : ElemsOf (PySem.strKind P w) es.toList := tx_elems g
  have hz : es.size = L.length := by rw [← pm.length_eq, List.length_map, Array.length_toList]
  have hz0 : es.size < scanBound := by omega
  unfold setAddHashed setAddHashedIn
  refine wpAny_holding (wpAny_bind (wpAny_setState_of ho hd hf ?_))
  dsimp only
  rw [byScan_of sc hz0 els]
  simp only [↓reduceIte]
  unfold setAddByScan
  refine wpAny_bind (wpAny_bind (wpAny_rule (wpAny_bind (wpAny_setScan_of hk ho hd hf els ?_))))
  cases hfi : List.findIdx? (fun e => (PySem.strKind P w).is k e.2) es.toList with
  | some j =>
    dsimp only
    obtain ⟨hj, pj, _⟩ := List.findIdx?_eq_some_iff_getElem.mp hfi
    have hm : k ∈ L := pm.mem_iff.mp ((tx_mem (P := P) g k).mpr ⟨es.toList[j], List.getElem_mem hj, pj⟩)
    refine wpAny_pure (wpAny_pure ?_)
    have z := hQ false s.heap (Heap.SameBut.refl a s.heap) (by unfold addS; rw [if_pos hm]; exact ⟨ob, es, ep, tb, ho, hx, hd, g, pm, nd, few, hf, hr, hl⟩)
    exact z
  | none =>
    dsimp only
    have hm : k ∉ L := fun z => by
      obtain ⟨e, he, q⟩ := (tx_mem (P := P) g k).mp (pm.mem_iff.mpr z)
      have c := List.findIdx?_eq_none_iff.mp hfi e he
      rw [q] at c
      cases c
    have hgw : ∀ (b : Bool) {s₁ : Shared} {Q' : Unit → Shared → Prop}, Q' () s₁ → wpAny (model P w) A (match b with | true => rule "set.scan.the-table-gave-way" | false => pure ()) Q' E s₁ := by
      intro b s₁ Q' q
      cases b
      · exact wpAny_pure q
      · exact wpAny_rule q
    have p2 := layNew_perm tb es ((PySem.strKind P w).hash k) (.str k u)
    have f2 := layNew_fits tb es ((PySem.strKind P w).hash k) (.str k u)
    have r2 := layNew_ris tb es ((PySem.strKind P w).hash k) (.str k u) hr
    have l2 := layNew_led tb es ((PySem.strKind P w).hash k) (.str k u)
    generalize layNew tb es ((PySem.strKind P w).hash k) (.str k u) = y at p2 f2 r2 l2 ⊢
    obtain ⟨es1, tb1, dm, gave⟩ := y
    dsimp only at p2 f2 r2 l2 ⊢
    rw [Array.toList_push] at p2
    have pk : (es1.toList.map txKey).Perm (L ++ [k]) := by
      have z := p2.map txKey
      rw [List.map_append] at z
      exact z.trans (pm.append_right [k])
    have g1 : ∀ e ∈ es1.toList, TxEl w e := fun e he => by
      rcases List.mem_append.mp (p2.mem_iff.mp he) with z | z
      · exact g e z
      · rw [List.mem_singleton.mp z]
        exact ⟨k, u, rfl, rfl⟩
    have ndk : (L ++ [k]).Nodup := by
      rw [List.nodup_append]
      exact ⟨nd, by simp, fun x hx y hy z => hm (by rw [List.mem_singleton.mp hy] at z; rw [← z]; exact hx)⟩
    have fewk : (L ++ [k]).length < scanBound := by simp; omega
    have led : w.params.followText "set-order" = true ∨ tb1.led = true := hl.imp id fun z => l2.trans z
    have hend : ∀ h', Heap.SameBut a s.heap h' → TxSet w h' a (L ++ [k]) → Q true { s with heap := h' } := fun h' sb z => hQ true h' sb (by unfold addS; rw [if_neg hm]; exact z)
    refine wpAny_bind (hgw _ ?_)
    split
    · refine wpAny_bind ?_
      rw [hashByValue_scannable 8 sc]
      refine wpAny_pure (tx_tail ?_ ho hx hd g1 pk ndk fewk ?_ ?_ ?_ ?_)
      · intro b s₁ Q' q
        cases b <;> first | exact wpAny_pure q | exact wpAny_rule q
      · first | (split <;> first | exact f2 | exact SetTable.fits_plain_off f2) | exact f2
      · first | (split <;> exact r2) | exact r2
      · first | (split <;> exact led) | exact led
      · intro h' sb z
        dsimp only
        exact wpAny_pure (hend h' sb z)
    · refine wpAny_bind (wpAny_pure ?_)
      simp only [↓reduceIte]
      refine tx_tail ?_ ho hx hd g1 pk ndk fewk f2 r2 led ?_
      · intro b s₁ Q' q
        cases b <;> first | exact wpAny_pure q | exact wpAny_rule q
      · intro h' sb z
        dsimp only
        exact wpAny_pure (hend h' sb z)
theorem TxSet.at {hp hp' : Heap} (T : TxSet w hp a L) (k : ∀ o, hp.get? a = some o → hp'.get? a = some o) : TxSet w hp' a L := by
  obtain ⟨ob, es, ep, tb, ho, r⟩ := T
  exact ⟨ob, es, ep, tb, k ob ho, r⟩
theorem addS_len (L : List Str) (k : Str) : (addS L k).length ≤ L.length + 1 := by
  unfold addS
  split
  · omega
  · simp
def dedS (xs : List Str) : List Str := xs.foldl addS []
theorem foldS_len (xs : List Str) : ∀ L : List Str, (xs.foldl addS L).length ≤ L.length + xs.length := by
  induction xs with
  | nil => intro L; simp
  | cons x xs ih =>
    intro L
    have := ih (addS L x)
    have := addS_len L x
    simp only [List.foldl_cons, List.length_cons]
    omega
/-- set.update's walk of texts -/
theorem tx_update {I : Addr} {fp wr : List Addr} {G : Array GenState → Array GenState → Prop} {n : Nat} {Pv : Nat → Value → Prop} {St : Nat → Shared → Prop} {R : Result → Shared → Prop} (W : WalksS P w A.in1 I fp wr G n Pv St) (b0 : Addr) (hb0 : b0 ∉ fp)
    (xs : List Str) (hn : n = xs.length) (few : xs.length + 1 < scanBound) (hv : ∀ i v, Pv i v → ∃ k u, xs[i]? = some k ∧ v = .str k u) : ∀ (m i : Nat) (s : Shared), n - i = m → i ≤ n → St i s → TxSet w s.heap b0 (dedS (xs.take i)) →
      (∀ s', Moved (b0 :: wr) G s s' → TxSet w s'.heap b0 (dedS xs) → R (.ok (.ret .none)) s') → codeAny (model P w) A (.builtin "set.update.loop" ⟨[.ref b0, .ref I], []⟩) R s := by
  have nw : b0 ∉ wr := fun z => hb0 (W.sub _ z)
  have up : ∀ b ∈ wr, b ∈ b0 :: wr := fun b z => List.mem_cons_of_mem _ z
  intro m
  induction m with
  | zero =>
    intro i s hm hi st T hR
    obtain rfl : i = n := by omega
    refine codeAny_builtin F.entry_set_update_loop ?_
    rw [Around.under_plainId F.plain_set_update_loop _]
    show wpAny _ A.in1 (pyNext (.ref I) >>= _) _ _ s
    refine wpAny_bind (W.done s _ _ st fun s' mv => ?_)
    show wpAny _ A.in1 (ret Value.none) _ _ s'
    have et : xs.take i = xs := List.take_of_length_le (by omega)
    rw [et] at T
    exact wpAny_pure (hR s' (mv.mono up) (T.at fun o e => mv.heap b0 o nw e))
  | succ m ih =>
    intro i s hm hi st T hR
    have lt : i < n := by omega
    refine codeAny_builtin F.entry_set_update_loop ?_
    rw [Around.under_plainId F.plain_set_update_loop _]
    show wpAny _ A.in1 (pyNext (.ref I) >>= _) _ _ s
    refine wpAny_bind (W.item i s _ _ lt st fun v s' hP st' mv => ?_)
    obtain ⟨k, u, hk, rfl⟩ := hv i v hP
    have T' := T.at (hp' := s'.heap) fun o e => mv.heap b0 o nw e
    show wpAny _ A.in1 (holding [Value.str k u] (setAdd b0 (.str k u)) >>= _) _ _ s'
    refine wpAny_bind (wpAny_holding ?_)
    unfold setAdd
    refine wpAny_holding (wpAny_bind ((PySem.strKind P w).pyHash (k := k) (strKind_is P w k u) ?_))
    have hl := foldS_len (xs.take i) []
    rw [List.length_take] at hl
    have room : (dedS (xs.take i)).length + 1 < scanBound := by
      show ((xs.take i).foldl addS []).length + 1 < scanBound
      simp at hl
      omega
    refine tx_add (s := { s' with toks := s'.toks + 1 }) T' room fun b h' sb T2 => ?_
    have e2 : addS (dedS (xs.take i)) k = dedS (xs.take (i + 1)) := by
      unfold dedS
      rw [List.take_add_one, hk]
      simp
    rw [e2] at T2
    refine wpAny_pure ⟨plainId_quiet F.plain_set_update_loop _, ih (i + 1) _ (by omega) lt (W.frame _ s' _ _ st' (Nat.le_succ _) fun c hc o e => ?_) T2 fun s'' mv2 T3 => ?_⟩
    · rw [sb.2 c fun z : c = b0 => hb0 (z ▸ hc)]
      exact e
    · refine hR s'' (Moved.trans W.gtrans ((mv.mono up).then_heap (Nat.le_succ _) fun c o hc e => ?_) mv2) T3
      rw [sb.2 c fun z : c = b0 => hc (by rw [z]; exact List.mem_cons_self)]
      exact e
theorem tx_fresh {hp : Heap} (w : World) (ho : hp.get? a = some { cls := .type "set", dict := none, data := .set #[] 0 (.fresh 0 0 (!w.params.followText "set-order")) }) : TxSet w hp a [] := by
  refine ⟨_, #[], 0, _, ho, ⟨rfl, rfl, rfl⟩, rfl, fun e he => by simp at he, by simp, List.nodup_nil, by decide, rfl, List.Pairwise.nil, ?_⟩
  show _ ∨ (!w.params.followText "set-order") = true
  cases w.params.followText "set-order"
  · exact .inr rfl
  · exact .inl rfl
theorem strs_at {vs : List Value} {ys : List Str} (h : StrsAre vs ys) : ∀ (i : Nat) (v : Value), vs[i]? = some v → ∃ k u, ys[i]? = some k ∧ v = .str k u := by
  induction h with
  | nil => intro i v e; simp at e
  | cons y t _ ih =>
    intro i v e
    cases i with
    | zero => simp at e; exact ⟨y, t, by simp, e.symm⟩
    | succ i =>
      simp only [List.getElem?_cons_succ] at e ⊢
      exact ih i v e
theorem strs_len {vs : List Value} {ys : List Str} (h : StrsAre vs ys) : vs.length = ys.length := by
  induction h with
  | nil => rfl
  | cons y t _ ih => simp [ih]
abbrev set0 (w : World) : Obj := { cls := .type "set", dict := none, data := .set #[] 0 (.fresh 0 0 (!w.params.followText "set-order")) }
set_option maxHeartbeats 3200000 in
/-- set(xs) of a list of texts -/
theorem tx_set {l : Addr} {its : Array Value} (xs : List Str) {Q : Value → Shared → Prop} (hh : A.handled = none) (hl : s.heap.IsList l its) (hx : StrsAre its.toList xs) (few : xs.length + 1 < scanBound)
    (h : ∀ (h' : Heap) (tk : Nat), TxSet w h' s.heap.objs.size (dedS xs) → (∀ b o, s.heap.get? b = some o → h'.get? b = some o) → Q (.ref s.heap.objs.size) { s with heap := h', toks := tk }) : wpAny (model P w) A (call (.type "set") [.ref l]) Q E s := by
  have isz : its.size = xs.length := by
    have z := strs_len hx
    rw [Array.length_toList] at z
    exact z
  obtain ⟨c, tl, hmro⟩ := F.called_set.mro
  have hmade := F.called_set.made
  have hsub := F.called_set.sub
  refine wpAny_call (codeAny_of_tree ?_)
  show wpAny _ _ (callAny (.type "set") _) _ _ _
  refine wpAny_pure ⟨Code.quiet_builtin _ (by decide +kernel), codeAny_builtin F.entry_type_call ?_⟩
  rw [Around.under_plain (weight_type_call_type "set" [.ref l] []) rfl]
  have h1 := F.called_set.notType
  have h2 := F.called_set.canCreate
  have hct := F.typeCall_set_1 (.ref l)
  repeat (any_goals (first | assumption | wp_step))
  refine codeAny_mono (code_set_led1 (.ref l) (E := E) (Q₁ := fun obj s₁ => obj = .ref s.heap.objs.size ∧ s₁ = { s with heap := s.heap.push (set0 w) }) ⟨rfl, rfl⟩) fun r s₁ hr => ?_
  cases r with
  | error e => exact hr
  | ok fl =>
    cases fl with
    | ret obj =>
      obtain ⟨rfl, rfl⟩ := hr
      have hS : (s.heap.push (set0 w)).get? s.heap.objs.size = some (set0 w) := Heap.get?_push_size _ rfl
      have hT : Shared.TypeIs { s with heap := s.heap.push (set0 w) } (.ref s.heap.objs.size) "set" := ⟨_, hS, rfl⟩
      have hli := F.called_set.init.lookup
      have hbi := F.called_set.init.bind (.ref s.heap.objs.size)
      repeat (any_goals (first | assumption | wp_step))
      refine codeAny_mono (codeAny_call_builtin (R := wants (fun r s₂ => r = .none ∧ ∃ h' tk, s₂ = { s with heap := h', toks := tk } ∧ TxSet w h' s.heap.objs.size (dedS xs) ∧ ∀ b o, s.heap.get? b = some o → h'.get? b = some o) E) F.called_set.init.plain F.entry_set_init (check_set_init_1 hT ?_)) fun r₂ s₂ hr₂ => ?_
      · obtain ⟨ol, hol, hcl, nl, hdl⟩ := hl
        obtain ⟨oc, od, odt, osl⟩ := ol
        simp only at hcl hdl
        subst hcl; subst hdl
        have hol' : (s.heap.push (set0 w)).get? l = some { cls := .type "list", dict := od, data := .seq its nl, slots := osl } := Heap.get?_push_of_some _ hol
        have hsls := F.sub_list_set
        have hslf := F.sub_list_frozenset
        have hne : (Value.type "list" == Value.type "dict") = false := by decide
        have hl1 : (s.heap.push (set0 w)).IsList l its := ⟨_, hol', rfl, nl, rfl⟩
        unfold Builtin.«set.__init__» noKeywords Builtin.Frozenset.updateFrom
        generalize hPI : pyIter = PI
        wp_walk
        subst hPI
        refine wpAny_pyIter_list hl1 (wpAny_bind (wpAny_runValue ?_))
        have lt1 : l < s.heap.objs.size := Heap.lt_size hol
        have hh3 : A.in1.in1.in1.handled = none := by simp [hh]
        have neI : l ≠ (s.heap.push (set0 w)).objs.size := by
          rw [Heap.size_push]
          exact Nat.ne_of_lt (Nat.lt_succ_of_lt lt1)
        have nf : s.heap.objs.size ∉ [(s.heap.push (set0 w)).objs.size, l] := by
          rw [Heap.size_push]
          simp only [List.mem_cons, List.not_mem_nil, or_false, not_or]
          exact ⟨Nat.ne_of_lt (Nat.lt_succ_self _), Nat.ne_of_gt lt1⟩
        have hv : ∀ (i : Nat) (v : Value), its[i]? = some v → ∃ k u, xs[i]? = some k ∧ v = .str k u := fun i v e => strs_at hx i v (by rw [Array.getElem?_toList]; exact e)
        refine tx_update ((Walks.list hh3 _ l neI its).toS) s.heap.objs.size nf xs isz few hv (its.size - 0) 0 _ (by omega) (Nat.zero_le _) ⟨⟨_, Heap.get?_push_size _ rfl, rfl, rfl⟩, hl1.push _⟩ ?_ ?_
        · exact tx_fresh w (Heap.get?_push_of_some _ hS)
        · intro s' mv T'
          obtain ⟨h', g2, d', tk', os'⟩ := s'
          have eg : g2 = s.gens := mv.gens
          have ed : d' = s.drawn := mv.drawn
          have eo : os' = s.os := mv.os
          subst eg; subst ed; subst eo
          show wpAny _ _ _ _ _ _
          refine wpAny_pure ?_
          show wpAny _ _ (ret Value.none) _ _ _
          refine wpAny_pure ⟨rfl, h', tk', rfl, T', fun b o e => ?_⟩
          have ltb : b < s.heap.objs.size := Heap.lt_size e
          refine mv.heap b o (fun z => ?_) (Heap.get?_push_of_some _ (Heap.get?_push_of_some _ e))
          rcases List.mem_cons.mp z with z | z
          · exact absurd ltb (by rw [z]; exact Nat.lt_irrefl _)
          · have z := List.mem_singleton.mp z
            rw [Heap.size_push] at z
            exact absurd ltb (by rw [z]; exact Nat.not_lt_of_le (Nat.le_succ _))
      · cases r₂ with
        | error e => exact hr₂
        | ok fl₂ =>
          cases fl₂ with
          | ret r =>
            obtain ⟨rfl, h', tk, rfl, T', hk'⟩ := hr₂
            repeat (any_goals (first | assumption | wp_step))
            exact h _ _ T' hk'
          | _ => exact hr₂.elim
    | _ => exact hr.elim
/-- sorted(set) of texts -/
theorem tx_sorted {Q : Value → Shared → Prop} (T : TxSet w s.heap a L) (hh : A.handled = none) (hQ : ∀ s' p (out : Array Value) (c : Nat) (ys : List Str), (∀ b o, s.heap.get? b = some o → s'.heap.get? b = some o) → s'.gens = s.gens → s'.os = s.os → s.heap.objs.size ≤ p →
      s'.heap.get? p = some (seqObj "list" out c) → StrsAre out.toList ys → ys.Perm L → sortedS ys = true → Q (.ref p) s') : wpAny (model P w) A (call (.builtin "sorted") [.ref a]) Q E s := by
  obtain ⟨ob, es, ep, tb, ho, hx, hd, g, pm, nd, few, hf, hr, hl⟩ := T
  have hz : es.size = L.length := by rw [← pm.length_eq, List.length_map, Array.length_toList]
  refine Calls.call_function_entry kind_sorted plain_sorted entry_sorted (args_sorted1 _) ?_
  unfold Builtin.«sorted»
  refine wpAny_bind (m := checkCount "sorted" 1 1 _) (wpAny_pure (wpAny_bind (collect_set (A := A.in1) hh ⟨ob, ho, hx.1, hd⟩ hf (by omega) hr hl fun s1 vs k1 hz1 g1 o1 pv => ?_)))
  have allS : ∀ vs : List Value, (∀ v ∈ vs, ∃ k u, v = Value.str k u) → ∃ ys : List Str, StrsAre vs ys ∧ ys = vs.map fun v => txKey (0, v) := by
    intro vs
    induction vs with
    | nil => intro _; exact ⟨[], .nil, rfl⟩
    | cons v vs ih =>
      intro hv
      obtain ⟨k, u, rfl⟩ := hv v List.mem_cons_self
      obtain ⟨ys, q1, q2⟩ := ih fun x hx => hv x (List.mem_cons_of_mem _ hx)
      exact ⟨k :: ys, .cons k u q1, by rw [q2]; rfl⟩
  obtain ⟨ys, q1, q2⟩ := allS vs fun v hv => by
    obtain ⟨e, he, q⟩ := List.mem_map.mp (pv.mem_iff.mp hv)
    obtain ⟨k, u, e1, _⟩ := g e he
    exact ⟨k, u, by rw [← q]; exact e1⟩
  have py : ys.Perm L := by
    rw [q2]
    have z := pv.map fun v => txKey (0, v)
    rw [List.map_map] at z
    exact z.trans pm
  have vl : vs.length ≤ sizeLine := by
    rw [strs_len q1, py.length_eq]
    exact fits_of_scanBound few
  refine wpAny_bind (wpAny_newList ?_ vl)
  have oL : (s1.heap.push (seqObj "list" vs.toArray 0)).get? s1.heap.objs.size = some (seqObj "list" vs.toArray 0) := Heap.get?_push_size _ rfl
  refine wpAny_bind (wpAny_holding (wpAny_call_entry slot_list_sort ⟨_, oL, rfl⟩ entry_list_sort (list_sort_treeKAny PyProof.Rows.strKind_oneLt oL q1.keysOf (fun v₁ v₂ rest e => keyKind_strs (by rw [← e]; exact q1)) vl fun st' a1 a2 => ⟨_, rfl, ?_⟩) (args_list_sort _)))
  obtain ⟨zs, z1, z2, z3⟩ := sorted_out_str q1 a1 a2
  obtain ⟨c, hc⟩ := sortedHeap_at (vs := vs) (out := (arrOf st').map (·.2)) oL
  refine wpAny_pure ⟨_, rfl, hQ _ s1.heap.objs.size _ c zs (fun b o e => ?_) g1 o1 hz1 hc z1 (z2.trans py) z3⟩
  have q := k1 b o e
  have lt := Heap.lt_size q
  show (sortedHeap (s1.heap.push (seqObj "list" vs.toArray 0)) s1.heap.objs.size vs _).get? b = some o
  rw [sortedHeap_old (Nat.ne_of_lt lt) (by rw [size_push']; exact Nat.lt_succ_of_lt lt)]
  exact Heap.get?_push_of_some _ q
end
end CH

namespace CH
open PySem PySem.Spec PyProof.Rows L2
/-! ### the order of texts -/
theorem lt_irr : ∀ a : List Nat, ltCps a a = false
  | [] => rfl
  | x :: r => by simp [ltCps, lt_irr r]
theorem lt_split : ∀ (a b c : List Nat), ltCps c a = true → ltCps c b = true ∨ ltCps b a = true
  | [], _, [], h => by simp [ltCps] at h
  | [], _, _ :: _, h => by simp [ltCps] at h
  | _ :: _, [], [], _ => .inr (by simp [ltCps])
  | _ :: _, [], _ :: _, _ => .inr (by simp [ltCps])
  | _ :: _, _ :: _, [], _ => .inl (by simp [ltCps])
  | x :: a, y :: b, z :: c, h => by
    simp only [ltCps, Bool.or_eq_true, Bool.and_eq_true, decide_eq_true_eq, beq_iff_eq] at h ⊢
    rcases h with h | ⟨h1, h2⟩
    · by_cases q : z < y
      · exact .inl (.inl q)
      · by_cases q2 : y < x
        · exact .inr (.inl q2)
        · omega
    · subst h1
      rcases Nat.lt_trichotomy z y with q | q | q
      · exact .inl (.inl q)
      · subst q
        rcases lt_split a b c h2 with q | q
        · exact .inl (.inr ⟨rfl, q⟩)
        · exact .inr (.inr ⟨rfl, q⟩)
      · exact .inr (.inl q)
theorem lt_anti : ∀ (a b : List Nat), ltCps a b = false → ltCps b a = false → a = b
  | [], [], _, _ => rfl
  | [], _ :: _, h, _ => by simp [ltCps] at h
  | _ :: _, [], _, h => by simp [ltCps] at h
  | x :: a, y :: b, h1, h2 => by
    simp only [ltCps, Bool.or_eq_false_iff, decide_eq_false_iff_not] at h1 h2
    have e : x = y := by omega
    subst e
    have := lt_anti a b (by simpa using h1.2) (by simpa using h2.2)
    rw [this]
def leS (a b : Str) : Bool := !ltCps b.cps.toList a.cps.toList
theorem leS_refl (a : Str) : leS a a = true := by simp [leS, lt_irr]
theorem leS_trans {a b c : Str} (h1 : leS a b = true) (h2 : leS b c = true) : leS a c = true := by
  unfold leS at *
  simp only [Bool.not_eq_true'] at *
  cases q : ltCps c.cps.toList a.cps.toList with
  | false => rfl
  | true =>
    rcases lt_split _ b.cps.toList _ q with z | z
    · rw [z] at h2; cases h2
    · rw [z] at h1; cases h1
theorem leS_anti {a b : Str} (h1 : leS a b = true) (h2 : leS b a = true) : a = b := by
  unfold leS at *
  simp only [Bool.not_eq_true'] at *
  have := lt_anti _ _ h2 h1
  obtain ⟨⟨x⟩⟩ := a
  obtain ⟨⟨y⟩⟩ := b
  simp at this
  rw [this]
theorem lt_asym : ∀ (a b : List Nat), ltCps a b = true → ltCps b a = false
  | [], [], h => by simp [ltCps] at h
  | [], _ :: _, _ => by simp [ltCps]
  | _ :: _, [], h => by simp [ltCps] at h
  | x :: a, y :: b, h => by
    simp only [ltCps, Bool.or_eq_true, Bool.and_eq_true, decide_eq_true_eq, beq_iff_eq] at h
    simp only [ltCps, Bool.or_eq_false_iff, decide_eq_false_iff_not]
    rcases h with h | ⟨h1, h2⟩
    · refine ⟨by omega, ?_⟩
      have : (y == x) = false := by simp; omega
      rw [this]
      rfl
    · subst h1
      exact ⟨by omega, by simp [lt_asym a b h2]⟩
theorem leS_total (a b : Str) : leS a b = true ∨ leS b a = true := by
  unfold leS
  cases h : ltCps b.cps.toList a.cps.toList with
  | false => exact .inl rfl
  | true =>
    refine .inr ?_
    rw [lt_asym _ _ h]
    rfl
def insS (x : Str) : List Str → List Str
  | [] => [x]
  | y :: r => if leS x y = true then x :: y :: r else y :: insS x r
def isrt : List Str → List Str
  | [] => []
  | x :: r => insS x (isrt r)
theorem ins_perm (x : Str) : ∀ l : List Str, (insS x l).Perm (x :: l)
  | [] => .refl _
  | y :: r => by
    unfold insS
    split
    · exact .refl _
    · exact ((ins_perm x r).cons y).trans (.swap x y r)
theorem isrt_perm : ∀ l : List Str, (isrt l).Perm l
  | [] => .refl _
  | x :: r => (ins_perm x (isrt r)).trans ((isrt_perm r).cons x)
theorem ins_sorted (x : Str) : ∀ l : List Str, l.Pairwise (fun a b => leS a b = true) → (insS x l).Pairwise (fun a b => leS a b = true)
  | [], _ => by simp [insS]
  | y :: r, h => by
    obtain ⟨h1, h2⟩ := List.pairwise_cons.mp h
    unfold insS
    split
    · rename_i hx
      refine List.pairwise_cons.mpr ⟨fun z hz => ?_, h⟩
      rcases List.mem_cons.mp hz with e | hz
      · rw [e]; exact hx
      · exact leS_trans hx (h1 z hz)
    · rename_i hx
      have hy : leS y x = true := (leS_total x y).resolve_left hx
      refine List.pairwise_cons.mpr ⟨fun z hz => ?_, ins_sorted x r h2⟩
      rcases List.mem_cons.mp ((ins_perm x r).mem_iff.mp hz) with e | hz
      · rw [e]; exact hy
      · exact h1 z hz
theorem isrt_sorted : ∀ l : List Str, (isrt l).Pairwise (fun a b => leS a b = true)
  | [] => .nil
  | x :: r => ins_sorted x (isrt r) (isrt_sorted r)
theorem srt_uniq : ∀ (l m : List Str), l.Pairwise (fun a b => leS a b = true) → m.Pairwise (fun a b => leS a b = true) → l.Perm m → l = m
  | [], m, _, _, p => (List.Perm.eq_nil p.symm).symm
  | x :: l, [], _, _, p => absurd p.length_eq (by simp)
  | x :: l, y :: m, hl, hm, p => by
    have e : x = y := by
      have a1 : leS x y = true := by
        rcases List.mem_cons.mp (p.mem_iff.mpr (List.mem_cons_self (a := y) (l := m))) with z | z
        · rw [z]; exact leS_refl x
        · exact (List.pairwise_cons.mp hl).1 y z
      have a2 : leS y x = true := by
        rcases List.mem_cons.mp (p.mem_iff.mp (List.mem_cons_self (a := x) (l := l))) with z | z
        · rw [z]; exact leS_refl y
        · exact (List.pairwise_cons.mp hm).1 x z
      exact leS_anti a1 a2
    subst e
    rw [srt_uniq l m (List.pairwise_cons.mp hl).2 (List.pairwise_cons.mp hm).2 p.cons_inv]
theorem rising_pw : ∀ (p : Str) (l : List Str), risingS p l = true → (p :: l).Pairwise (fun a b => leS a b = true)
  | p, [], _ => by simp
  | p, x :: r, h => by
    have h : (!ltCps x.cps.toList p.cps.toList && risingS x r) = true := h
    rw [Bool.and_eq_true] at h
    have ih := rising_pw x r h.2
    have px : leS p x = true := h.1
    refine List.pairwise_cons.mpr ⟨fun z hz => ?_, ih⟩
    rcases List.mem_cons.mp hz with e | hz
    · rw [e]; exact px
    · exact leS_trans px ((List.pairwise_cons.mp ih).1 z hz)
theorem sorted_pw (l : List Str) (h : sortedS l = true) : l.Pairwise (fun a b => leS a b = true) := by
  cases l with
  | nil => exact .nil
  | cons x r => exact rising_pw x r h
/-- the texts, each once, rising -/
def srtS (xs : List Str) : List Str := isrt (dedS xs)
theorem srtS_of {ys xs : List Str} (p : ys.Perm (dedS xs)) (h : sortedS ys = true) : ys = srtS xs :=
  srt_uniq _ _ (sorted_pw ys h) (isrt_sorted _) (p.trans (isrt_perm _).symm)
theorem addS_mem (L : List Str) (k x : Str) : x ∈ addS L k ↔ x ∈ L ∨ x = k := by
  unfold addS
  split
  · rename_i h
    constructor
    · exact .inl
    · rintro (z | rfl)
      · exact z
      · exact h
  · simp
theorem foldS_mem (xs : List Str) : ∀ (L : List Str) (x : Str), x ∈ xs.foldl addS L ↔ x ∈ L ∨ x ∈ xs := by
  induction xs with
  | nil => intro L x; simp
  | cons y ys ih =>
    intro L x
    rw [List.foldl_cons, ih, addS_mem, List.mem_cons]
    constructor
    · rintro ((h | h) | h)
      · exact .inl h
      · exact .inr (.inl h)
      · exact .inr (.inr h)
    · rintro (h | h | h)
      · exact .inl (.inl h)
      · exact .inl (.inr h)
      · exact .inr h
theorem addS_nd {L : List Str} (h : L.Nodup) (k : Str) : (addS L k).Nodup := by
  unfold addS
  split
  · exact h
  · rename_i hk
    rw [List.nodup_append]
    exact ⟨h, by simp, fun x hx y hy z => hk (by rw [List.mem_singleton.mp hy] at z; rw [← z]; exact hx)⟩
theorem foldS_nd (xs : List Str) : ∀ (L : List Str), L.Nodup → (xs.foldl addS L).Nodup := by
  induction xs with
  | nil => exact fun L h => h
  | cons y ys ih => exact fun L h => ih _ (addS_nd h y)
theorem srtS_mem (xs : List Str) (x : Str) : x ∈ srtS xs ↔ x ∈ xs := by
  unfold srtS
  rw [(isrt_perm _).mem_iff]
  unfold dedS
  rw [foldS_mem]
  simp
theorem srtS_nd (xs : List Str) : (srtS xs).Nodup := (isrt_perm _).nodup_iff.mpr (foldS_nd xs [] List.nodup_nil)
theorem srtS_pw (xs : List Str) : (srtS xs).Pairwise (fun a b => leS a b = true) := isrt_sorted _
/-- a rising list without doubles is told by its members -/
theorem srt_ext {l m : List Str} (hl : l.Pairwise (fun a b => leS a b = true)) (hm : m.Pairwise (fun a b => leS a b = true)) (nl : l.Nodup) (nm : m.Nodup) (h : ∀ x, x ∈ l ↔ x ∈ m) : l = m :=
  srt_uniq l m hl hm ((List.perm_ext_iff_of_nodup nl nm).mpr h)
theorem srtS_ext {xs ys : List Str} (h : ∀ x, x ∈ xs ↔ x ∈ ys) : srtS xs = srtS ys :=
  srt_ext (srtS_pw _) (srtS_pw _) (srtS_nd _) (srtS_nd _) fun x => by rw [srtS_mem, srtS_mem]; exact h x
theorem srtS_len (xs : List Str) : (srtS xs).length ≤ xs.length := by
  unfold srtS
  rw [(isrt_perm _).length_eq]
  have := foldS_len xs []
  simpa [dedS] using this
/-! ### the rules -/
def TxO (w : World) (a : Addr) (L : List Str) : HO := .ext fun h => TxSet w h a L
theorem txO_new {P : Program} {w : World} {H : Hp} {h : Heap} {a : Addr} {L : List Str} (T : TxSet w h a L) : ObjOk P w H h a (TxO w a L) := by
  have ⟨ob, es, ep, tb, ho, r⟩ := T
  refine ⟨T, ⟨ob, ho⟩, fun h1 h2 p k => ?_⟩
  have ⟨ob', es', ep', tb', ho', r'⟩ := p
  exact ⟨ob', es', ep', tb', k ob' ho', r'⟩
section
variable {X : Cx}
def rSetX (K : PySem.W.Frag) (w : World) : List V → Hp → VK → Prop := fun xs H Q => ∃ (l : Addr) (ks : List Str), xs = [V.ref l] ∧ SqL K H l (ks.map V.str) ∧ ks.length + 1 < scanBound ∧ ∀ a, H a = none → Q (.ref a) (upd H a (TxO w a (dedS ks)))
theorem cr_setX (hc : X.calm = true) : CallR X (.type "set") (rSetX X.K X.w) := by
  intro pins s σ H xs us Q I r h
  obtain ⟨l, ks, rfl, hl, few, q⟩ := h
  rw [Vals.ref1 r]
  obtain ⟨its, rv, pl, hz⟩ := I.list hl
  have hn : H s.heap.objs.size = none := I.hok.fresh (Nat.le_refl _)
  refine tx_set (P := X.prog) (w := X.w) ks (I.ok.hd hc) pl.isList (by simpa using rv.strs) few fun h' tk T k => ?_
  exact ⟨.ref s.heap.objs.size, upd H s.heap.objs.size (TxO X.w s.heap.objs.size (dedS ks)), I.laid (t' := tk) k (Nat.le_refl _) (txO_new T), rfl, q _ hn⟩
def rSortX (w : World) : List V → Hp → VK → Prop := fun vs H Q => ∃ (a : Addr) (L : List Str), vs = [V.ref a] ∧ H a = some (TxO w a L) ∧ ∀ ys p, ys.Perm L → sortedS ys = true → H p = none → Q (.ref p) (upd H p (.lst (ys.map V.str)))
theorem cr_sortX (hc : X.calm = true) : CallR X (.builtin "sorted") (rSortX X.w) := by
  intro pins s σ H vs us Q I r h
  obtain ⟨a, L, rfl, ha, q⟩ := h
  have T : TxSet X.w s.heap a L := (I.hok a _ ha).1
  rw [Vals.ref1 r]
  refine tx_sorted T (I.ok.hd hc) fun s' p out c ys k g o hp hg hy pm so => ?_
  have few : L.length < scanBound := by
    obtain ⟨_, _, _, _, _, _, _, _, _, _, z, _⟩ := T
    exact z
  have hlen : (ys.map V.str).length ≤ sizeLine := by
    rw [List.length_map, pm.length_eq]
    exact fits_of_scanBound few
  have hn : H p = none := I.hok.fresh hp
  have J : Inv X pins σ (upd H p (.lst (ys.map V.str))) { s with heap := s'.heap, gens := s'.gens, drawn := s'.drawn, toks := s'.toks } :=
    I.call (ch := []) (Un.laid k hp hn) (I.hok.laid k hp ⟨hlen, out.toList, c, vals_of_strs hy, hg⟩) (by rw [g]; exact I.bare) (fun _ z => nomatch z)
  have e : s' = { s with heap := s'.heap, gens := s'.gens, drawn := s'.drawn, toks := s'.toks } := by
    obtain ⟨h1, h2, h3, h4, h5⟩ := s'
    obtain ⟨k1, k2, k3, k4, k5⟩ := s
    cases o
    rfl
  rw [e]
  exact ⟨.ref p, _, J, rfl, q ys p pm so hn⟩
end
end CH

/-! TS3: sorted of tuples of ints of any lengths. -/
namespace CH
open PySem PySem.Spec PyProof.Rows L2
/-- the order of rows of ints -/
def lexW : List Int → List Int → Bool
  | [], [] => false
  | [], _ :: _ => true
  | _ :: _, [] => false
  | a :: r, b :: t => if a = b then lexW r t else decide (a < b)
theorem lexW_asym : ∀ a b : List Int, lexW a b = true → lexW b a = false
  | [], [], _ => rfl
  | [], _ :: _, _ => rfl
  | _ :: _, [], h => by cases h
  | x :: a, y :: b, h => by
    unfold lexW at h ⊢
    by_cases e : x = y
    · subst e
      rw [if_pos rfl] at h ⊢
      exact lexW_asym a b h
    · rw [if_neg e, decide_eq_true_eq] at h
      rw [if_neg (Ne.symm e), decide_eq_false_iff_not]
      omega
theorem lexW_tr : ∀ x y z : List Int, lexW y x = false → lexW z y = false → lexW z x = false
  | [], [], [], _, _ => rfl
  | [], [], _ :: _, _, _ => rfl
  | [], _ :: _, [], _, h => by cases h
  | [], _ :: _, _ :: _, _, _ => rfl
  | _ :: _, [], _, h, _ => by cases h
  | _ :: _, _ :: _, [], _, h => by cases h
  | a :: x, b :: y, c :: z, h1, h2 => by
    unfold lexW at h1 h2 ⊢
    by_cases e1 : b = a
    · subst e1
      rw [if_pos rfl] at h1
      by_cases e2 : c = b
      · subst e2
        rw [if_pos rfl] at h2 ⊢
        exact lexW_tr x y z h1 h2
      · rw [if_neg e2] at h2 ⊢
        exact h2
    · rw [if_neg e1, decide_eq_false_iff_not] at h1
      by_cases e2 : c = b
      · subst e2
        rw [if_neg e1, decide_eq_false_iff_not]
        exact h1
      · rw [if_neg e2, decide_eq_false_iff_not] at h2
        have e3 : c ≠ a := by omega
        rw [if_neg e3, decide_eq_false_iff_not]
        omega
theorem lexW_anti : ∀ a b : List Int, lexW a b = false → lexW b a = false → a = b
  | [], [], _, _ => rfl
  | [], _ :: _, h, _ => by cases h
  | _ :: _, [], _, h => by cases h
  | x :: a, y :: b, h1, h2 => by
    unfold lexW at h1 h2
    by_cases e : x = y
    · subst e
      rw [if_pos rfl] at h1 h2
      rw [lexW_anti a b h1 h2]
    · rw [if_neg e, decide_eq_false_iff_not] at h1
      rw [if_neg (Ne.symm e), decide_eq_false_iff_not] at h2
      omega
section
variable {prog : Program} {w : World} {A : Around} {E : Value → Shared → Prop} {s : Shared}
theorem lexK {b fin : Bool} {Q : Bool → Shared → Prop} : ∀ (xs ys : List Value) (ns ms : List Int) (i : Nat), IntsAre xs ns → IntsAre ys ms → fin = decide (xs.length < ys.length) → Q (lexW ns ms) s → PySem.W.KatLex prog w A b fin Q (xs.zip ys) i s
  | [], [], _, _, i, .nil, .nil, hf, hq => PySem.W.kat_nil (by rw [hf]; exact hq)
  | [], _ :: _, _, _, i, .nil, .cons _ _ _, hf, hq => PySem.W.kat_nil (by rw [hf]; simpa [lexW] using hq)
  | _ :: _, [], _, _, i, .cons _ _ _, .nil, hf, hq => PySem.W.kat_nil (by rw [hf]; simpa [lexW] using hq)
  | _ :: xs, _ :: ys, _, _, i, .cons (ns := ns) x t hx, .cons (ns := ms) y u hy, hf, hq => by
    refine PySem.W.kat_cons (SeqAt.EqAt.int_int x t y u prog w _ _ (PySem.W.kat_go (fun e => ?_) fun e => ?_))
    · have e : x = y := by simpa using e
      subst e
      have hq : Q (if x = x then lexW ns ms else decide (x < x)) s := hq
      rw [if_pos rfl] at hq
      exact PySem.W.kat_yes (lexK xs ys ns ms (i + 1) hx hy (by rw [hf]; simp) hq)
    · have e : ¬ x = y := by simpa using e
      have hq : Q (if x = y then lexW ns ms else decide (x < y)) s := hq
      rw [if_neg e] at hq
      refine PySem.W.kat_no ?_
      cases b && i == 0 with
      | true => exact oneLt_int hq
      | false => exact PySem.W.kat_one _ _ (PyProof.Rows.lt_int hq)
theorem lexAt_W (ns ms : List Int) : ∀ (k i : Nat), k = min ns.length ms.length - i → i ≤ min ns.length ms.length → Ob.lexAt (fun j => ns.getD j 0 == ms.getD j 0) (fun j => decide (ns.getD j 0 < ms.getD j 0)) (decide (ns.length < ms.length)) i k = lexW (ns.drop i) (ms.drop i)
  | 0, i, hk, hi => by
    have e : i = min ns.length ms.length := by omega
    rw [Ob.lexAt_zero]
    by_cases h : ns.length ≤ ms.length
    · have ei : i = ns.length := by omega
      rw [ei, List.drop_length]
      by_cases h2 : ns.length < ms.length
      · obtain ⟨a, r, hd⟩ := List.exists_cons_of_ne_nil (l := ms.drop ns.length) (by intro z; have := List.drop_eq_nil_iff.mp z; omega)
        rw [hd]
        simp [h2, lexW]
      · have hd : ms.drop ns.length = [] := List.drop_eq_nil_of_le (by omega)
        rw [hd]
        simp [h2, lexW]
    · have ei : i = ms.length := by omega
      rw [ei, List.drop_length]
      obtain ⟨a, r, hd⟩ := List.exists_cons_of_ne_nil (l := ns.drop ms.length) (by intro z; have := List.drop_eq_nil_iff.mp z; omega)
      rw [hd]
      have h2 : ¬ ns.length < ms.length := by omega
      simp [h2, lexW]
  | k + 1, i, hk, hi => by
    have h1 : i < ns.length := by omega
    have h2 : i < ms.length := by omega
    rw [Ob.lexAt_succ, lexAt_W ns ms k (i + 1) (by omega) (by omega), List.drop_eq_getElem_cons h1, List.drop_eq_getElem_cons h2]
    have e1 : ns.getD i 0 = ns[i] := by rw [List.getD_eq_getElem?_getD, List.getElem?_eq_getElem h1]; rfl
    have e2 : ms.getD i 0 = ms[i] := by rw [List.getD_eq_getElem?_getD, List.getElem?_eq_getElem h2]; rfl
    rw [e1, e2]
    show _ = if ns[i] = ms[i] then _ else _
    by_cases e : ns[i] = ms[i]
    · simp [e]
    · simp [e]
theorem ints_get {xs : Array Value} {ns : List Int} (h : IntsAre xs.toList ns) (j : Nat) (hj : j < xs.size) : ∃ t, xs[j] = .int (ns.getD j 0) t :=
  IntsAre.int_at h j xs[j] (by rw [Array.getElem?_toList]; exact Array.getElem?_eq_getElem hj)
theorem lt_gen {v u : Value} {ns ms : List Int} (hu : A.units < cLine) (hv : TS.TupInts s.heap v ns) (hw : TS.TupInts s.heap u ms) : Ob.RcOp .Lt A s v u (lexW ns ms) := by
  obtain ⟨a, xs, rfl, tx, ix⟩ := hv
  obtain ⟨c, ys, rfl, ty, iy⟩ := hw
  have l1 := IntsAre.length ix
  have l2 := IntsAre.length iy
  rw [Array.length_toList] at l1 l2
  have z := Ob.RcOp.tuples_lt (A := A) (s := s) (l := a) (b := c) (items := xs) (items2 := ys) (e := fun j => ns.getD j 0 == ms.getD j 0) (r := fun j => decide (ns.getD j 0 < ms.getD j 0)) tx ty hu (fun j h1 h2 => by
    obtain ⟨t1, e1⟩ := ints_get ix j h1
    obtain ⟨t2, e2⟩ := ints_get iy j h2
    rw [e1, e2]
    exact SeqAt.EqAt.int_int _ _ _ _) (fun j h1 h2 _ => by
    obtain ⟨t1, e1⟩ := ints_get ix j h1
    obtain ⟨t2, e2⟩ := ints_get iy j h2
    rw [e1, e2]
    exact Ob.RcOp.lt_int _ _ _ _)
  rw [l1, l2] at z
  have q := lexAt_W ns ms (min ns.length ms.length) 0 (by omega) (by omega)
  rw [q] at z
  exact z
/-- tuple.__lt__, called -/
theorem call_ltW {a c : Addr} {xs ys : Array Value} {ns ms : List Int} {Q : Value → Shared → Prop} (tx : IsTup s.heap a xs) (ty : IsTup s.heap c ys) (ix : IntsAre xs.toList ns) (iy : IntsAre ys.toList ms) (h : Q (.bool (lexW ns ms)) s) : wpAny (model prog w) A (call (.builtin "tuple.__lt__") [.ref a, .ref c]) Q E s := by
  obtain ⟨⟨cl, dd, da, sl⟩, ho, hc, n, hd⟩ := id tx
  obtain ⟨⟨cl2, dd2, da2, sl2⟩, ho2, hc2, n2, hd2⟩ := id ty
  simp only at hc hd hc2 hd2
  subst hc hd hc2 hd2
  have l1 := IntsAre.length ix
  have l2 := IntsAre.length iy
  rw [Array.length_toList] at l1 l2
  have q := lexAt_W ns ms (min ns.length ms.length) 0 (by omega) (by omega)
  have e0 : lexW (ns.drop 0) (ms.drop 0) = lexW ns ms := rfl
  rw [e0] at q
  refine call_meets PySem.F.slot_tuple_lt ⟨_, ho, rfl⟩ PySem.F.entry_tuple_lt (PySem.F.args_tuple_lt_2 _ _) (Ob.tuple_ltAt a c xs ys n n2 dd dd2 sl sl2 (fun j => ns.getD j 0 == ms.getD j 0) (fun j => decide (ns.getD j 0 < ms.getD j 0))) ⟨ho, ho2, fun j h1 h2 => ?_, fun j h1 h2 _ => ?_, ?_⟩
  · obtain ⟨t1, e1⟩ := ints_get ix j h1
    obtain ⟨t2, e2⟩ := ints_get iy j h2
    rw [e1, e2]
    exact SeqAt.EqAt.int_int _ _ _ _
  · obtain ⟨t1, e1⟩ := ints_get ix j h1
    obtain ⟨t2, e2⟩ := ints_get iy j h2
    rw [e1, e2]
    exact Ob.RcOp.lt_int _ _ _ _
  · rw [l1, l2, q]
    exact h
theorem cmpW {vs : List Value} {k : Value → List Int} (hu : A.units < cLine) (hv : ∀ v ∈ vs, TS.TupInts s.heap v (k v)) (κ : SortKind) (hκ : κ = tuples' true ∨ κ = general' ∨ κ = oneType') : SrtO.Cmp prog w A s κ (fun p => p.1 ∈ vs) (SrtO.lt2 fun v u => lexW (k v) (k u)) := by
  intro p q hm hm'
  have h1 := hv _ hm
  have h2 := hv _ hm'
  show wpAny (model prog w) A (keyLt' κ p.1 q.1) (fun r s' => s' = s ∧ r = lexW (k p.1) (k q.1)) (fun _ _ => False) s
  rcases hκ with rfl | rfl | rfl
  · obtain ⟨a, xs, e1, ⟨o, ho, hc, n, hd⟩, ix⟩ := h1
    obtain ⟨c, ys, e2, ⟨o2, ho2, hc2, n2, hd2⟩, iy⟩ := h2
    rw [e1, e2]
    exact PySem.W.kat_lt ho hd ho2 hd2 (lexK xs.toList ys.toList _ _ 0 ix iy (by simp) ⟨rfl, by rw [e1, e2]⟩)
  · have z := lt_gen hu h1 h2
    show wpAny (model prog w) A (oneLt' false p.1 q.1) _ _ s
    exact PySem.W.kat_one _ _ (z prog w _ _ ⟨rfl, rfl⟩)
  · obtain ⟨a, xs, e1, tx, ix⟩ := h1
    obtain ⟨c, ys, e2, ty, iy⟩ := h2
    rw [e1, e2, keyLt'_oneType, oneLt'_eq]
    simp only [if_true]
    refine wpAny_bind (wpAny_cRoomFor hu ?_)
    obtain ⟨o, ho, hc, n, hd⟩ := id tx
    refine wpAny_bind (wpAny_callSpecialIfBound?_slot ⟨o, ho, hc⟩ PySem.F.slot_tuple_lt (call_ltW tx ty ix iy ?_))
    exact wpAny_truthy_bool ⟨rfl, by rw [e1, e2]⟩
/-- the kind of the keys -/
theorem firstsW {M : Model} : ∀ (vs : List Value) (k : Value → List Int) {Q : List (Option Value) → Shared → Prop}, (∀ v ∈ vs, TS.TupInts s.heap v (k v)) → (∀ fs : List (Option Value), fs.map Option.isSome = vs.map (fun v => !(k v).isEmpty) → (∀ f ∈ fs, f = none ∨ ∃ x t, f = some (.int x t)) → Q fs s) → wpAny M A (vs.mapM firstOfTuple') Q E s
  | [], _, _, _, h => by rw [List.mapM_nil]; exact wpAny_pure (h [] rfl (fun _ z => by cases z))
  | v :: vs, k, Q, hv, h => by
    obtain ⟨a, xs, e0, ⟨o, ho, hc, n, hd⟩, ix⟩ := hv v List.mem_cons_self
    rw [List.mapM_cons]
    refine wpAny_bind ?_
    rw [e0, PySem.W.kas_first_eq]
    refine wpAny_bind (PySem.W.Looks.here (show PySem.W.Looks M s.heap (typeOf (.ref a)) o.cls from (PySem.W.Looks.ld ho).andThen .now) ?_)
    rw [hc, if_neg (by first | decide | simp)]
    refine wpAny_bind (listItems_at ho hd (wpAny_pure ?_))
    have l1 := IntsAre.length ix
    rw [Array.length_toList] at l1
    refine wpAny_bind (firstsW vs k (Q := fun bs s' => wpAny M A (pure (xs[0]? :: bs)) Q E s') (fun u hu => hv u (List.mem_cons_of_mem _ hu)) fun fs hl hf => wpAny_pure (h _ ?_ fun f hm => ?_))
    · rw [List.map_cons, List.map_cons, hl]
      congr 1
      cases q : k v with
      | nil =>
        rw [q] at l1
        have z : xs.size = 0 := l1
        have : xs[0]? = none := Array.getElem?_eq_none (by omega)
        rw [this]
        rfl
      | cons x r =>
        rw [q] at l1
        have z : xs.size = r.length + 1 := l1
        have hx : 0 < xs.size := by omega
        rw [Array.getElem?_eq_getElem hx]
        rfl
    · rcases List.mem_cons.mp hm with e | hm
      · rw [e]
        cases q : xs[0]? with
        | none => exact .inl rfl
        | some y =>
          obtain ⟨t, et⟩ := IntsAre.int_at ix 0 y (by rw [Array.getElem?_toList]; exact q)
          exact .inr ⟨_, t, by rw [et]⟩
      · exact hf f hm
def kindW (k : Value → List Int) (vs : List Value) : SortKind := if vs.all (fun v => !(k v).isEmpty) then tuples' true else match vs with
  | v :: _ => if (k v).isEmpty then oneType' else general'
  | [] => general'
theorem typesW {M : Model} {vs : List Value} {k : Value → List Int} (hv : ∀ v ∈ vs, TS.TupInts s.heap v (k v)) (hne : vs ≠ []) {Q : Option Value → Shared → Prop} (h : Q (some (.type "tuple")) s) : wpAny M A (oneTypeOnly' vs.toArray) Q E s := by
  rw [oneTypeOnly'_eq, List.mapM_toArray, map_eq_pure_bind]
  refine wpAny_bind (wpAny_bind (PySem.W.kas_mapM (r := .type "tuple") _ (fun v hm Q' hq => ?_) (wpAny_pure ?_)))
  · obtain ⟨a, xs, rfl, ⟨o, ho, hc, n, hd⟩, ix⟩ := hv v hm
    have z : PySem.W.Looks M s.heap (typeOf (.ref a)) o.cls := (PySem.W.Looks.ld ho).andThen .now
    rw [hc] at z
    exact z.here hq
  · obtain ⟨v, r, rfl⟩ := List.exists_cons_of_ne_nil hne
    have hall : ((List.map (fun _ => Value.type "tuple") (v :: r)).toArray.all fun x => x == Value.type "tuple") = true := by
      simp only [List.all_toArray, List.all_map, List.all_eq_true]
      exact fun _ _ => rfl
    have h0 : (List.map (fun _ => Value.type "tuple") (v :: r)).toArray[0]? = some (Value.type "tuple") := by simp
    rw [h0]
    simp only [hall, if_true]
    exact wpAny_pure h
theorem keyW {M : Model} {vs : List Value} {k : Value → List Int} (hv : ∀ v ∈ vs, TS.TupInts s.heap v (k v)) (hne : vs ≠ []) {Q : SortKind → Shared → Prop} (h : Q (kindW k vs) s) : wpAny M A (keyKind' vs.toArray) Q E s := by
  rw [PyProof.Rows.kat_kind_eq, List.mapM_toArray, map_eq_pure_bind]
  refine wpAny_bind (wpAny_bind (firstsW vs k hv fun fs hm hf => wpAny_pure ?_))
  have ea : (fs.toArray.all fun x => x.isSome) = vs.all (fun v => !(k v).isEmpty) := by
    have e1 : fs.all (fun x => x.isSome) = (fs.map Option.isSome).all id := by rw [List.all_map]; rfl
    rw [List.all_toArray, e1, hm, List.all_map]
    rfl
  rw [ea]
  unfold kindW at h
  by_cases hall : vs.all (fun v => !(k v).isEmpty) = true
  · rw [if_pos hall] at h ⊢
    refine wpAny_bind (wpAny_rule ?_)
    have hs : ∀ f ∈ fs, f.isSome = true := by
      intro f hf'
      have : f.isSome ∈ fs.map Option.isSome := List.mem_map.mpr ⟨f, hf', rfl⟩
      rw [hm] at this
      obtain ⟨v, hv', e⟩ := List.mem_map.mp this
      rw [← e]
      exact List.all_eq_true.mp hall v hv'
    have fne : fs.filterMap id ≠ [] := by
      intro z
      have hl : fs.length = vs.length := by
        have := congrArg List.length hm
        simpa using this
      cases fs with
      | nil =>
        simp at hl
        exact hne (List.eq_nil_of_length_eq_zero hl.symm)
      | cons f r =>
        obtain ⟨y, hy⟩ := Option.isSome_iff_exists.mp (hs f List.mem_cons_self)
        rw [hy] at z
        simp at z
    have fint : ∀ y ∈ fs.filterMap id, ∃ x t, y = Value.int x t := by
      intro y hy
      obtain ⟨f, hf', e⟩ := List.mem_filterMap.mp hy
      rcases hf f hf' with z | ⟨x, t, z⟩
      · rw [z] at e; cases e
      · rw [z] at e
        cases e
        exact ⟨x, t, rfl⟩
    have efm : fs.toArray.filterMap id = (fs.filterMap id).toArray := by simp
    rw [efm, oneTypeOnly'_eq, List.mapM_toArray, map_eq_pure_bind]
    refine wpAny_bind (wpAny_bind (wpAny_bind (PySem.W.kas_mapM (r := .type "int") _ (fun v hv' Q' hq => ?_) (wpAny_pure ?_))))
    · obtain ⟨x, t, rfl⟩ := fint v hv'
      exact PySem.W.Looks.now.here hq
    · obtain ⟨v, r, er⟩ := List.exists_cons_of_ne_nil fne
      rw [er]
      have hall2 : ((List.map (fun _ => Value.type "int") (v :: r)).toArray.all fun x => x == Value.type "int") = true := by
        simp only [List.all_toArray, List.all_map, List.all_eq_true]
        exact fun _ _ => rfl
      have h0 : (List.map (fun _ => Value.type "int") (v :: r)).toArray[0]? = some (Value.type "int") := by simp
      rw [h0]
      simp only [hall2, if_true]
      exact wpAny_pure (wpAny_pure h)
  · rw [if_neg hall] at h ⊢
    obtain ⟨v, r, rfl⟩ := List.exists_cons_of_ne_nil hne
    obtain ⟨f, fr, rfl⟩ : ∃ f fr, fs = f :: fr := by
      cases fs with
      | nil => simp at hm
      | cons f fr => exact ⟨f, fr, rfl⟩
    rw [List.map_cons, List.map_cons] at hm
    have h1 := (List.cons.inj hm).1
    have e1 : (((f :: fr).toArray[0]?).bind id).isSome = f.isSome := by simp
    rw [e1, h1]
    simp only at h
    cases hk : (k v).isEmpty with
    | true =>
      rw [hk] at h
      simp only [if_true] at h
      rw [if_neg (by simp)]
      refine wpAny_bind (typesW hv (by simp) ?_)
      exact wpAny_pure h
    | false =>
      rw [hk] at h
      simp only [Bool.false_eq_true, if_false] at h
      rw [if_pos (show (!false) = true from rfl)]
      exact wpAny_pure h
theorem kindW_or (k : Value → List Int) (vs : List Value) : kindW k vs = tuples' true ∨ kindW k vs = general' ∨ kindW k vs = oneType' := by
  unfold kindW
  split
  · exact .inl rfl
  · split
    · split
      · exact .inr (.inr rfl)
      · exact .inr (.inl rfl)
    · exact .inr (.inl rfl)
theorem sortableW {a : Addr} {vs : List Value} {k : Value → List Int} (hu : A.units < cLine) (hne : vs ≠ []) (hv : ∀ v ∈ vs, TS.TupInts s.heap v (k v)) (ha : ∀ o, s.heap.get? a = some o → o.cls ≠ .type "tuple") : SrtO.SortableO prog w A s a vs fun v u => lexW (k v) (k u) := by
  intro h' keep
  have hv' : ∀ v ∈ vs, TS.TupInts h' v (k v) := fun v hm => (hv v hm).keeps fun b o e c => keep b o (fun z => ha o (z ▸ e) c) e
  exact ⟨kindW k vs, fun Q E hq => keyW (s := { s with heap := h' }) hv' hne hq, cmpW (s := { s with heap := h' }) hu hv' _ (kindW_or k vs)⟩
theorem swoW (k : Value → List Int) : SrtO.Swo fun v u => lexW (k v) (k u) := ⟨fun x y h => lexW_asym _ _ h, fun x y z h1 h2 => lexW_tr _ _ _ h1 h2⟩
end
/-! ### there is just one sorted list -/
def insW (x : List Int) : List (List Int) → List (List Int)
  | [] => [x]
  | y :: r => if lexW y x = true then y :: insW x r else x :: y :: r
def isrtW : List (List Int) → List (List Int)
  | [] => []
  | x :: r => insW x (isrtW r)
theorem insW_perm (x : List Int) : ∀ l : List (List Int), (insW x l).Perm (x :: l)
  | [] => .refl _
  | y :: r => by
    unfold insW
    split
    · exact ((insW_perm x r).cons y).trans (.swap x y r)
    · exact .refl _
theorem isrtW_perm : ∀ l : List (List Int), (isrtW l).Perm l
  | [] => .refl _
  | x :: r => (insW_perm x (isrtW r)).trans ((isrtW_perm r).cons x)
def SrtW (l : List (List Int)) : Prop := l.Pairwise fun a b => lexW b a = false
theorem insW_srt (x : List Int) : ∀ l : List (List Int), SrtW l → SrtW (insW x l)
  | [], _ => List.pairwise_singleton _ _
  | y :: r, h => by
    obtain ⟨h1, h2⟩ := List.pairwise_cons.mp h
    unfold insW
    split
    · rename_i hx
      refine List.pairwise_cons.mpr ⟨fun z hz => ?_, insW_srt x r h2⟩
      rcases List.mem_cons.mp ((insW_perm x r).mem_iff.mp hz) with e | hz
      · rw [e]
        exact lexW_asym _ _ hx
      · exact h1 z hz
    · rename_i hx
      have hx : lexW y x = false := by simpa using hx
      refine List.pairwise_cons.mpr ⟨fun z hz => ?_, h⟩
      rcases List.mem_cons.mp hz with e | hz
      · rw [e]; exact hx
      · exact lexW_tr x y z hx (h1 z hz)
theorem isrtW_srt : ∀ l : List (List Int), SrtW (isrtW l)
  | [] => .nil
  | x :: r => insW_srt x _ (isrtW_srt r)
theorem lexW_irr (a : List Int) : lexW a a = false := by
  cases h : lexW a a with
  | false => rfl
  | true => exact (lexW_asym a a h).symm.trans h ▸ rfl
theorem srtW_uniq : ∀ (l m : List (List Int)), SrtW l → SrtW m → l.Perm m → l = m
  | [], m, _, _, p => (List.Perm.eq_nil p.symm).symm
  | x :: l, [], _, _, p => absurd p.length_eq (by simp)
  | x :: l, y :: m, hl, hm, p => by
    have e : x = y := by
      have a1 : lexW y x = false := by
        rcases List.mem_cons.mp (p.mem_iff.mpr (List.mem_cons_self (a := y) (l := m))) with z | z
        · rw [z]; exact lexW_irr x
        · exact (List.pairwise_cons.mp hl).1 y z
      have a2 : lexW x y = false := by
        rcases List.mem_cons.mp (p.mem_iff.mp (List.mem_cons_self (a := x) (l := l))) with z | z
        · rw [z]; exact lexW_irr y
        · exact (List.pairwise_cons.mp hm).1 x z
      exact lexW_anti x y a2 a1
    subst e
    rw [srtW_uniq l m (List.pairwise_cons.mp hl).2 (List.pairwise_cons.mp hm).2 p.cons_inv]
/-! ### the rules -/
section
variable {X : Cx}
theorem tupInts_sq {pins : List (Addr × Obj)} {σ : L2.St} {H : Hp} {s : Shared} {t : Addr} {ns : List Int} (I : Inv X pins σ H s) (h : SqT X.K H t (ns.map V.int)) : TS.TupInts s.heap (.ref t) ns := by
  obtain ⟨its, r, ⟨o, ho, hc, n, hd⟩, _⟩ := I.tuple h
  exact ⟨t, its.toArray, rfl, ⟨o, ho, hc, n, hd⟩, by simpa using r.ints⟩
/-- sorted(xs), tuples of ints of any lengths; backwards by reverse=True -/
def rSrtW (K : PySem.W.Frag) (b : Bool) : List V → Hp → VK → Prop := fun vs H Q => ∃ (a : Addr) (ps : List (Addr × List Int)), vs = [V.ref a] ∧ SqL K H a (ps.map fun p => V.ref p.1) ∧ (∀ p ∈ ps, SqT K H p.1 (p.2.map V.int)) ∧
  ∀ (qs : List (Addr × List Int)) (p : Addr), qs.Perm ps → SrtW ((if b = true then qs.reverse else qs).map (·.2)) → H p = none → Q (.ref p) (upd H p (.lst (qs.map fun p => V.ref p.1)))
def gW (h : Heap) (v : Value) : Addr × List Int := ((match v with | .ref a => a | _ => 0), TS.intsOf h v)
theorem srtW_pre {pins : List (Addr × Obj)} {σ : L2.St} {H : Hp} {s : Shared} {a : Addr} {ps : List (Addr × List Int)} (I : Inv X pins σ H s) (hs : SqL X.K H a (ps.map fun p => V.ref p.1)) (hx : ∀ p ∈ ps, SqT X.K H p.1 (p.2.map V.int)) :
    PlainL s.heap a (ps.map fun p => Value.ref p.1).toArray ∧ ps.length ≤ sizeLine ∧ (∀ v ∈ ps.map fun p => Value.ref p.1, TS.TupInts s.heap v (TS.intsOf s.heap v)) ∧ ∀ p ∈ ps, gW s.heap (.ref p.1) = p := by
  obtain ⟨its, rv, hl, hz⟩ := I.list hs
  have ei := refs_of_vals rv
  subst ei
  have key : ∀ p ∈ ps, TS.TupInts s.heap (.ref p.1) p.2 := fun p hp => tupInts_sq I (hx p hp)
  refine ⟨hl, by simpa using hz, fun v hv => ?_, fun p hp => ?_⟩
  · obtain ⟨p, hp, rfl⟩ := List.mem_map.mp hv
    rw [(key p hp).ints]
    exact key p hp
  · show (p.1, TS.intsOf s.heap (.ref p.1)) = p
    rw [(key p hp).ints]
theorem srtW_post {h : Heap} {ps : List (Addr × List Int)} {out : List Value} (pm : out.Perm (ps.map fun p => Value.ref p.1)) (hg : ∀ p ∈ ps, gW h (.ref p.1) = p) : (out.map (gW h)).Perm ps ∧ (out.map (gW h)).map (fun p => Value.ref p.1) = out := by
  constructor
  · have z := pm.map (gW h)
    rw [List.map_map] at z
    have e : ps.map (gW h ∘ fun p => Value.ref p.1) = ps := by
      have : ps.map (gW h ∘ fun p => Value.ref p.1) = ps.map id := List.map_congr_left fun p hp => hg p hp
      rw [this, List.map_id]
    rwa [e] at z
  · rw [List.map_map]
    have : out.map ((fun p : Addr × List Int => Value.ref p.1) ∘ gW h) = out.map id := List.map_congr_left fun v hv => by
      obtain ⟨p, hp, rfl⟩ := List.mem_map.mp (pm.mem_iff.mp hv)
      show Value.ref (gW h (.ref p.1)).1 = _
      rw [hg p hp]
      rfl
    rw [this, List.map_id]
theorem srtW_sortable {s : Shared} {A : Around} {prog : Program} {w : World} {vs : List Value} (hu : A.units < cLine) (h2 : 2 ≤ vs.length) (tup : ∀ v ∈ vs, TS.TupInts s.heap v (TS.intsOf s.heap v)) (h₁ : Heap) (b : Addr) (hb : h₁.get? b = some (seqObj "list" vs.toArray 0)) (kk : ∀ c o, s.heap.get? c = some o → c ≠ b ∧ h₁.get? c = some o) :
    SrtO.SortableO prog w A { s with heap := h₁ } b vs fun v u => lexW (TS.intsOf s.heap v) (TS.intsOf s.heap u) := by
  refine sortableW (s := { s with heap := h₁ }) hu (fun z => by rw [z] at h2; simp at h2) (fun v hv => (tup v hv).keeps fun b' o e _ => (kk b' o e).2) fun o e => ?_
  have e' : some o = some (seqObj "list" vs.toArray 0) := e.symm.trans hb
  cases e'
  intro c
  exact absurd (Value.type.inj c) (by decide)
theorem cr_srtW (hu : X.A.units + 64 < cLine) : CallR X (.builtin "sorted") (rSrtW X.K false) := by
  intro pins s σ H vs us Q I r h
  obtain ⟨a, ps, rfl, hs, hx, q⟩ := h
  obtain ⟨u, rfl, ru⟩ := vals1 r
  obtain rfl : u = Value.ref a := ru
  obtain ⟨hl, hz, tup, hg⟩ := srtW_pre I hs hx
  refine SrtO.sorted_ord (swoW fun u => TS.intsOf s.heap u) hl.isList (by simpa using hz) (fun h2 h₁ b hb kk => srtW_sortable (by show X.A.units + 2 < cLine; omega) h2 tup h₁ b hb kk) fun out hs' hb => ?_
  obtain ⟨p1, p2⟩ := srtW_post hb.perm hg
  obtain ⟨n, hn⟩ := sortedAll_at s.heap (ps.map fun p => Value.ref p.1) out.toArray
  have hlen : ((out.map (gW s.heap)).map fun p => V.ref p.1).length ≤ sizeLine := by rw [List.length_map, p1.length_eq]; exact hz
  refine ⟨.ref _, upd H (s.heap.objs.size + 1) (.lst ((out.map (gW s.heap)).map fun p => V.ref p.1)), I.laid (t' := s.toks) (fun _ _ => PyProof.Rows.sortedAll_old) (Nat.le_succ _) ⟨hlen, out, n, by have z := vals_of_refs (out.map (gW s.heap)); rwa [p2] at z, hn⟩, rfl, q _ _ p1 ?_ (I.hok.fresh (Nat.le_succ _))⟩
  rw [if_neg (by simp), List.map_map]
  exact List.pairwise_map.mpr hs'
theorem cr_srtWR (hu : X.A.units + 64 < cLine) : CallRK X (.builtin "sorted") [Str.ofString "reverse"] (fun vs zs H Q => zs = [.bl true] ∧ rSrtW X.K true vs H Q) := by
  intro pins s σ H vs zs us ws Q I r rz h
  obtain ⟨rfl, a, ps, rfl, hs, hx, q⟩ := h
  obtain rfl := Vals.ref1 r
  obtain ⟨w1, rfl, e1⟩ := vals1 rz
  obtain rfl : w1 = Value.bool true := e1
  obtain ⟨hl, hz, tup, hg⟩ := srtW_pre I hs hx
  refine SrtR.sorted_ordK (b := true) (fun _ => rfl) (PyProof.Rows.args_sorted_rev _ _) (fun _ => PyProof.Rows.args_list_sort_rev _ _) (swoW fun u => TS.intsOf s.heap u) hl.isList (by simpa using hz) (fun h2 h₁ b hb kk => srtW_sortable (by show X.A.units + 2 < cLine; omega) h2 tup h₁ b hb kk) fun out hs' hb => ?_
  rw [if_pos rfl] at hb
  obtain ⟨p1, p2⟩ := srtW_post (out := out.reverse) ((List.reverse_perm out).trans (hb.perm.trans (List.reverse_perm _))) hg
  obtain ⟨n, hn⟩ := sortedAll_at s.heap (ps.map fun p => Value.ref p.1) out.reverse.toArray
  have hlen : ((out.reverse.map (gW s.heap)).map fun p => V.ref p.1).length ≤ sizeLine := by rw [List.length_map, p1.length_eq]; exact hz
  have er : (if true = true then out.toArray.reverse else out.toArray) = out.reverse.toArray := by simp
  rw [er]
  refine ⟨.ref _, upd H (s.heap.objs.size + 1) (.lst ((out.reverse.map (gW s.heap)).map fun p => V.ref p.1)), I.laid (t' := s.toks) (fun _ _ => PyProof.Rows.sortedAll_old) (Nat.le_succ _) ⟨hlen, out.reverse, n, by have z := vals_of_refs (out.reverse.map (gW s.heap)); rwa [p2] at z, hn⟩, rfl, q _ _ p1 ?_ (I.hok.fresh (Nat.le_succ _))⟩
  rw [if_pos rfl]
  simp only [List.map_reverse, List.reverse_reverse, List.map_map]
  exact List.pairwise_map.mpr hs'
end
end CH

/-! TS4: sorted(set(xs)) of tuples of ints of any lengths; len(set(xs)) of texts. -/
namespace CH
open PySem PySem.Spec PyProof.Rows L2
section
variable {P : Program} {w : World} {A : Around} {E : Value → Shared → Prop} {s : Shared}
theorem tup_set_sorted {a : Addr} {L : List (Addr × List Int)} {es : Array (Int × Value)} {ep : Nat} {t : SetTable} {Q : Value → Shared → Prop} (R : SetTR P w s.heap a L es ep t) (hh : A.handled = none) (hu : A.units + 2 < cLine)
    (hQ : ∀ s' p (out : Array Value) (c : Nat) (M : List (Addr × List Int)), (∀ b o, s.heap.get? b = some o → s'.heap.get? b = some o) → s'.gens = s.gens → s'.os = s.os → s.heap.objs.size ≤ p →
      s'.heap.get? p = some (seqObj "list" out c) → out.toList = M.map (fun q => Value.ref q.1) → M.Perm L → SrtW (M.map (·.2)) → Q (.ref p) s') :
    wpAny (model P w) A (call (.builtin "sorted") [.ref a]) Q E s := by
  have ⟨o, ho, hex, hd⟩ := R.ob
  have hfew := R.few
  have hsz := R.size
  refine Calls.call_function_entry kind_sorted plain_sorted entry_sorted (args_sorted1 _) ?_
  unfold Builtin.«sorted»
  refine wpAny_bind (m := checkCount "sorted" 1 1 _) (wpAny_pure (wpAny_bind (collect_set (A := A.in1) hh ⟨o, ho, hex.1, hd⟩ R.fits (by unfold scanBound; omega) R.tab.ris R.led fun s1 vs k1 hz g1 o1 pm => ?_)))
  have hrow : es.toList.map (·.2) = L.map fun q => Value.ref q.1 := by
    rw [R.rows]
    unfold L2.rowsOf
    rw [List.map_map]
    rfl
  rw [hrow] at pm
  have hlen : vs.length ≤ sizeLine := by rw [pm.length_eq, List.length_map, sizeLine_eq]; omega
  have key : ∀ p ∈ L, TS.TupInts s1.heap (.ref p.1) p.2 := fun p hp => tupInts_of (P := P) (w := w) (isT_keep (R.tup p hp) k1)
  have hg : ∀ p ∈ L, gW s1.heap (.ref p.1) = p := fun p hp => by
    show (p.1, TS.intsOf s1.heap (.ref p.1)) = p
    rw [(key p hp).ints]
  have tup : ∀ v ∈ vs, TS.TupInts s1.heap v (TS.intsOf s1.heap v) := fun v hv => by
    obtain ⟨p, hp, rfl⟩ := List.mem_map.mp (pm.mem_iff.mp hv)
    rw [(key p hp).ints]
    exact key p hp
  refine wpAny_bind (wpAny_newList ?_ hlen)
  have oL : (s1.heap.push (seqObj "list" vs.toArray 0)).get? s1.heap.objs.size = some (seqObj "list" vs.toArray 0) := Heap.get?_push_size _ rfl
  refine wpAny_bind (wpAny_holding (wpAny_call_entry slot_list_sort ⟨_, oL, rfl⟩ entry_list_sort (SrtO.list_sort_ord (s := { s1 with heap := s1.heap.push (seqObj "list" vs.toArray 0) }) (swoW fun u => TS.intsOf s1.heap u) oL hlen (fun h2 => ?_) fun out hs' hb => ⟨_, rfl, ?_⟩) (args_list_sort _)))
  · exact srtW_sortable (s := s1) (by show A.units + 2 < cLine; omega) h2 tup _ _ oL fun c o e => ⟨Nat.ne_of_lt (Heap.lt_size e), Heap.get?_push_of_some _ e⟩
  · obtain ⟨p1, p2⟩ := srtW_post (hb.perm.trans pm) hg
    obtain ⟨c, hc⟩ := sortedHeap_at (vs := vs) (out := out.toArray) oL
    refine wpAny_pure ⟨_, rfl, hQ _ s1.heap.objs.size out.toArray c (out.map (gW s1.heap)) (fun b u e => ?_) g1 o1 hz hc (by rw [p2]) p1 ?_⟩
    · have q := k1 b u e
      have hlt := Heap.lt_size q
      show (sortedHeap (s1.heap.push (seqObj "list" vs.toArray 0)) s1.heap.objs.size vs out.toArray).get? b = some u
      rw [sortedHeap_old (Nat.ne_of_lt hlt) (by rw [size_push']; exact Nat.lt_succ_of_lt hlt)]
      exact Heap.get?_push_of_some _ q
    · rw [List.map_map]
      exact List.pairwise_map.mpr hs'
end
section
variable {X : Cx}
/-- sorted(set), tuples of ints of any lengths -/
def rSortTW (K : PySem.W.Frag) (P : Program) (w : World) : List V → Hp → VK → Prop := fun vs H Q => ∃ (a : Addr) (L : List (Addr × List Int)), vs = [V.ref a] ∧ H a = some (SetTO P w a L) ∧ (∀ p ∈ L, SqT K H p.1 (p.2.map V.int)) ∧
  ∀ (M : List (Addr × List Int)) (p : Addr), M.Perm L → (M.map (·.2)).Nodup → SrtW (M.map (·.2)) → H p = none → Q (.ref p) (upd H p (.lst (M.map fun q => V.ref q.1)))
theorem cr_sortTW (hc : X.calm = true) (hu : X.A.units + 64 < cLine) : CallR X (.builtin "sorted") (rSortTW X.K X.prog X.w) := by
  intro pins s σ H vs us Q I r h
  obtain ⟨a, L, rfl, ha, hk, q⟩ := h
  obtain ⟨es, ep, t, R⟩ := SetT0.full (I.hok a _ ha).1 fun p hp => I.isT (hk p hp)
  rw [Vals.ref1 r]
  refine tup_set_sorted R (I.ok.hd hc) (by omega) fun s' p out c M k g o hp hg hout pm so => ?_
  have few : M.length < 64 := by rw [pm.length_eq]; exact R.few
  have hlen : (M.map fun q => V.ref q.1).length ≤ sizeLine := by rw [List.length_map, sizeLine_eq]; omega
  have hn : H p = none := I.hok.fresh hp
  have J : Inv X pins σ (upd H p (.lst (M.map fun q => V.ref q.1))) { s with heap := s'.heap, gens := s'.gens, drawn := s'.drawn, toks := s'.toks } :=
    I.call (ch := []) (Un.laid k hp hn) (I.hok.laid k hp ⟨hlen, out.toList, c, by rw [hout]; exact vals_of_refs M, hg⟩) (by rw [g]; exact I.bare) (fun _ z => nomatch z)
  have e : s' = { s with heap := s'.heap, gens := s'.gens, drawn := s'.drawn, toks := s'.toks } := by
    obtain ⟨h1, h2, h3, h4, h5⟩ := s'
    obtain ⟨k1, k2, k3, k4, k5⟩ := s
    cases o
    rfl
  rw [e]
  exact ⟨.ref p, _, J, rfl, q M p pm ((pm.map (·.2)).nodup_iff.mpr R.nd) so hn⟩
/-- len(set), texts -/
def rLenX (w : World) : List V → Hp → VK → Prop := fun vs H Q => ∃ (a : Addr) (L : List Str), vs = [V.ref a] ∧ H a = some (TxO w a L) ∧ Q (.int L.length) H
theorem cr_lenX : CallR X (.builtin "len") (rLenX X.w) := by
  intro pins s σ H vs us Q I r h
  obtain ⟨a, L, rfl, ha, q⟩ := h
  obtain ⟨ob, es, ep, tb, ho, hx, hd, g, pm, nd, few, hf, hr, hl⟩ : TxSet X.w s.heap a L := (I.hok a _ ha).1
  rw [Vals.ref1 r]
  have hz : es.size = L.length := by rw [← pm.length_eq, List.length_map, Array.length_toList]
  refine call_len_set ho hx hd hf (by unfold scanBound at few; omega) ⟨.int L.length, H, I.tok _, ⟨_, by rw [hz]⟩, q⟩
end
/-- either of two readings -/
theorem CallR.or {X : Cx} {f : Value} {R1 R2 : List V → Hp → VK → Prop} (h1 : CallR X f R1) (h2 : CallR X f R2) : CallR X f (fun vs H Q => R1 vs H Q ∨ R2 vs H Q) := by
  intro pins s σ H vs us Q I r h
  rcases h with h | h
  · exact h1 pins s σ H vs us Q I r h
  · exact h2 pins s σ H vs us Q I r h
end CH

/-! HC: defs called within an except clause: what is handled stands aside, whatever its context. -/
namespace CH
open PySem PySem.Spec PyProof.Rows L2
/-- the handled one is among what is kept -/
def HotP (X : Cx) : Prop := ∃ z : Addr × Obj, X.A.handled = some (.ref z.1) ∧ z ∈ X.pn
structure FnC (P : Program) (w : World) (K : PySem.W.Frag) (mg : Str → Option Value) (base : Heap) (CX : CXT) (n : Nat) (f : Addr) (fd : FuncData) (ps : List Str) (sp : Sp) : Prop where
  cnt : ∀ vs H Q E, sp vs H Q E → vs.length = ps.length
  go : ∀ (A : Around) (out : List Env) (s : Shared) (H : Hp) (as : Args) (us : List Value) (vs : List V) (Q : VK) (E : XK) (z : Addr × Obj),
    L2H.RoomH n A → A.handled = some (.ref z.1) → L2H.PinOk out H s z → Env0 P w K mg base A out s H → BindsTo s fd as (ps.zip us) → Vals vs us → sp vs H Q E →
    codeAny (model P w) A (.call (.ref f) as) (CR CX out P w H s Q E) s
section
variable {CX : CXT} {P : Program} {w : World} {K : PySem.W.Frag} {mg : Str → Option Value} {base : Heap} {n : Nat} {f : Addr} {fd : FuncData} {x qual : Str} {params : Arguments} {body : List Stmt} {scope : Scope} {dvs : List V} {kws : List (Str × V)} {N ps : List Str} {sp : Sp}
theorem funD_c (F : FunD K x qual params body scope dvs kws f fd) (S : FnScope N ps scope) (cnt : ∀ vs H Q E, sp vs H Q E → vs.length = ps.length)
    (hb : ∀ (cdv : Value) (A : Around) (out : List Env) (s : Shared) (H : Hp) (vs : List V) (Q : VK) (E : XK) (z : Addr × Obj), A.handled = some (.ref z.1) → L2H.RoomH n (A.deeper (envOfC qual scope s.heap.objs.size f cdv)) → sp vs H Q E →
      ∃ t, PSs (L2H.cxH CX P w K mg base N qual scope f cdv A out s H E z) body t ∧ t { nx := fun _ H' => Q .non H', rt := Q } (L2.start N vs) H) :
    FnC P w K mg base CX (n + 1) f fd ps sp := by
  obtain ⟨oc, od, dV, kV, doc, pm, an, cdv, ct, osl, rfl, lk, hcd, _, _⟩ := F.ex
  constructor
  · exact cnt
  · intro A out s H as us vs Q E z room hz pin e0 bt rv hsp
    have inK : K.In s.heap := e0.mod.kin.keeps (fun b o e => (e0.bs b o e).1)
    have nl : s.heap.NoLimit := e0.mod.nolimit.keeps (fun b o e => (e0.bs b o e).1)
    refine codeAny_call_function room.depth (inK _ _ lk) rfl S.co S.gen rfl (PySem.W.codeRec_of inK hcd) (bt _ _ _ _ (wpAny_newFunctionEnv_cells S.kind ?_ ?_))
    · intro y hy
      rcases S.par y.1 (List.of_mem_zip (show (y.1, y.2) ∈ ps.zip us from hy)).1 with q | q
      · exact Or.inl q
      · exact Or.inr ⟨q, PySem.W.cellsFrom_some _ _ _ (Or.inl q)⟩
    · intro env he s1 ic
      subst he
      refine ⟨nl.keeps ic.toInCall.keep, codeAny_func ?_⟩
      obtain ⟨t, pt, qt⟩ := hb cdv A out s H vs Q E z hz (room.deeper _) hsp
      have I0 := L2H.inv_startH (CX := CX) (cd := cdv) (E := E) S pin e0 (cnt _ _ _ _ hsp) rv ic
      refine wpAny_mono (pt.run [] s1 _ H _ I0 qt) (fun fl s' hs => ?_) (fun _ _ hs => hs)
      cases fl with
      | next =>
        obtain ⟨σ', H', J, q⟩ := hs
        exact ⟨V.non, H', J.os, J.bare, J.base, J.hok, rfl, q⟩
      | ret u =>
        obtain ⟨v, σ', H', J, rv', q⟩ := hs
        exact ⟨v, H', J.os, J.bare, J.base, J.hok, rv', q⟩
      | brk => obtain ⟨_, _, _, q⟩ := hs; exact q.elim
      | cont => obtain ⟨_, _, _, q⟩ := hs; exact q.elim
end
section
variable {X : Cx} {CX : CXT} {n : Nat} {f : Addr} {fd : FuncData} {ps : List Str} {sp : Sp} {E : L2.St → XK} {x : Str} {q pos : Pos} {e : Expr} {es : List Expr} {t : TA}
theorem pe_callC (F : FnC X.prog X.w X.K X.mg X.base CX n f fd ps sp) (room : L2H.RoomH n X.A) (hot : HotP X) (gl : Gl X x) (hm : X.mg x = some (.ref f)) (kp : PySem.W.keepIn X.K (.ref f) = true) (bn : Binds X.K fd ps []) (px : ∀ σ, PassesAt CX X σ (E σ))
    (pa : PA X (e :: es) t) (db : (x == ("__debug__" : Str)) = false) (st : starEach (e :: es) X.env = (false, eval e X.env) :: starEach es X.env) (st2 : (backTo pos (starEach es X.env)).any (·.1) = false) :
    PE X (.Call (.Name x q) (e :: es) [] pos) (tCallS sp E t) := by
  constructor
  intro pins s σ H Q I h
  refine wpAny_Call_Name_kw (ld_glob I gl hm (PySem.W.callWith_K (h₀ := X.base) I.ok.mod.kin kp (thn (pa.run pos pins s σ H _ I h) ?_) st st2) db)
  rintro us s1 ⟨vs, H1, I1, rv, h1⟩
  refine ⟨I1.kIn, ?_⟩
  obtain ⟨z, hz, zin⟩ := hot
  have p1 := I1.pin z (List.mem_append_left _ zin)
  have pin : L2H.PinOk X.stack H1 s1 z := ⟨p1.1, p1.2.1, fun hm => (List.mem_cons.mp (I1.stkSub z.1 hm)).elim p1.2.2.1 p1.2.2.2.1, p1.2.2.2.2⟩
  have bt := bn s1 us I1.kIn (by rw [List.append_nil, ← rv.length]; exact F.cnt _ _ _ _ h1)
  rw [List.append_nil] at bt
  refine wpAny_call (codeAny_mono (F.go X.A X.stack s1 H1 ⟨us, []⟩ us vs Q (E σ) z room hz pin I1.env0 bt rv h1) (fun r s' hr => ?_))
  match r, hr with
  | .error e, hr => exact px σ pins H1 s1 e s' I1 hr
  | .ok (.ret u), hr => exact I1.after hr
  | .ok .next, hr => exact hr.elim
  | .ok .brk, hr => exact hr.elim
  | .ok .cont, hr => exact hr.elim
end
end CH

/-! OB: objects of the table: how they come, how they change. -/
namespace CH
open PySem L2
section
variable {Z : Sur} {G H : Hp} {io : List Addr} {σ : St} {s : S}
/-- a place of nobody's becomes an object -/
theorem SR.addO {a : Addr} {o : Ob} (r : SR Z G io σ s H) (hg : G a = none) (h0 : Z.H0 a = none) (hk : Z.kp a = none) (hi : a ∉ io) (hs : (H a).isSome = true) (n : ∀ (j : Nat) (ys : List PyData), s.at_ j = some (.own ys) → σ[j]? ≠ some (some (.ref a))) (ho : ObR Z.K Z.cla G H (io ++ [a]) a o) : SR Z G (io ++ [a]) σ { s with ob := s.ob ++ [o] } H where
  sub := r.sub
  old := fun b u h1 h2 => r.old b u h1 fun z => h2 (List.mem_append_left _ z)
  gold := r.gold
  iold := fun b hb => by
    rcases List.mem_append.mp hb with z | z
    · exact r.iold b z
    · rw [List.mem_singleton.mp z]; exact .inr h0
  kept := fun b u h => by
    obtain ⟨h1, h2, h3, h4⟩ := r.kept b u h
    refine ⟨h1, h2, fun z => ?_, h4⟩
    rcases List.mem_append.mp z with z | z
    · exact h3 z
    · rw [List.mem_singleton.mp z, hk] at h; cases h
  slot := fun i v hv => by
    obtain ⟨w, e, q⟩ := r.slot i v hv
    exact ⟨w, e, q.mono (Sub.refl _) (Sub.refl _) (List.prefix_append _ _)⟩
  mine := fun i ys b hv e => by
    obtain ⟨m, q⟩ := r.mine i ys b hv e
    refine ⟨⟨m.g, m.h0, m.kp, fun z => ?_, m.h⟩, q⟩
    rcases List.mem_append.mp z with z | z
    · exact m.io z
    · rw [List.mem_singleton.mp z] at e
      exact n i ys hv e
  ol := by
    show (io ++ [a]).length = (s.ob ++ [o]).length
    rw [List.length_append, List.length_append, r.ol]
    rfl
  ond := by
    rw [List.nodup_append]
    refine ⟨r.ond, by simp, fun x hx y hy z => ?_⟩
    rw [List.mem_singleton.mp hy] at z
    exact hi (z ▸ hx)
  ofr := fun b hb => by
    rcases List.mem_append.mp hb with z | z
    · exact r.ofr b z
    · rw [List.mem_singleton.mp z]; exact ⟨hg, hs⟩
  ob := fun k b u h1 h2 => by
    have h2 : (s.ob ++ [o])[k]? = some u := h2
    by_cases hk' : k < io.length
    · rw [List.getElem?_append_left hk'] at h1
      rw [List.getElem?_append_left (by rw [← r.ol]; exact hk')] at h2
      exact (r.ob k b u h1 h2).mono (Sub.refl _) (Sub.refl _) (List.prefix_append _ _)
    · rw [List.getElem?_append_right (by omega)] at h1
      rw [List.getElem?_append_right (by rw [← r.ol]; omega), ← r.ol] at h2
      have ek : k - io.length = 0 := by
        have := (List.getElem?_eq_some_iff.mp h1).1
        simp at this
        omega
      rw [ek] at h1 h2
      cases h1
      cases h2
      exact ho
  len := r.len
  xx := ⟨r.xx.sl, r.xx.fl⟩
theorem SR.ionone {a : Addr} (r : SR Z G io σ s H) (h : H a = none) : a ∉ io := fun z => by
  have := (r.ofr a z).2
  rw [h] at this
  cases this
theorem SR.noslot {a : Addr} (r : SR Z G io σ s H) (h : H a = none) : ∀ (j : Nat) (ys : List PyData), s.at_ j = some (.own ys) → σ[j]? ≠ some (some (.ref a)) := fun j ys hj e => by
  obtain ⟨m, _⟩ := r.mine j ys a hj e
  obtain ⟨us, hu⟩ := m.h
  rw [h] at hu
  cases hu
/-- a list of nobody's becomes an object -/
theorem SR.objL {a : Addr} {vs : List V} {xs : List PyData} (r : SR Z G io σ s H) (m : Mine Z G H io a) (n : ∀ (j : Nat) (ys : List PyData), s.at_ j = some (.own ys) → σ[j]? ≠ some (some (.ref a))) (h : H a = some (.lst vs)) (hd : DRs Z.K G vs xs) : SR Z G (io ++ [a]) σ { s with ob := s.ob ++ [.lst xs] } H :=
  r.addO m.g m.h0 m.kp m.io (by rw [h]; rfl) n ⟨vs, h, hd⟩
/-- a new instance -/
theorem SR.objI {x dx C : Addr} {c : Str} (r : SR Z G io σ s H) (hx : H x = none) (hdx : H dx = none) (ne : dx ≠ x) (hc : He.ga Z.K c = C) : SR Z G (io ++ [x]) σ { s with ob := s.ob ++ [.ins c []] } (upd (upd H dx (.own x)) x (.ins C dx [])) := by
  have r1 := r.new hdx (.own x)
  have hx1 : upd H dx (.own x) x = none := by rw [upd_ne (Ne.symm ne)]; exact hx
  have r2 := r1.new hx1 (.ins C dx [])
  refine r2.addO (r.gnone hx) (r.h0none hx) (r.knone hx) (r.ionone hx) (by rw [upd_same]; rfl) (r.noslot hx) ?_
  exact ⟨C, dx, [], hc, upd_same, rfl, fun p hp => by simp at hp⟩
/-- an object changes -/
theorem SR.wr {k : Nat} {a : Addr} {u : HO} {o : Ob} (r : SR Z G io σ s H) (hi : io[k]? = some a) (ho : ObR Z.K Z.cla G (upd H a u) io a o) (hx : ∀ l, u ≠ .xd l) : SR Z G io σ { s with ob := s.ob.set k o } (upd H a u) := by
  have ha : a ∈ io := List.mem_of_getElem? hi
  have hk : k < io.length := (List.getElem?_eq_some_iff.mp hi).1
  have hg := (r.ofr a ha).1
  have vb : ∀ w v, (∀ xs, v ≠ .own xs) → VB Z.K G H io w v → VB Z.K G (upd H a u) io w v := fun w v n h => VB.up h n (Ext.refl _ _)
  have ob : ∀ (b : Addr) (o : Ob), b ≠ a → ObR Z.K Z.cla G H io b o → ObR Z.K Z.cla G (upd H a u) io b o := fun b o ne h => by
    cases o with
    | lst xs => obtain ⟨ws, h1, h2⟩ := h; exact ⟨ws, by rw [upd_ne ne]; exact h1, h2⟩
    | dct kvs => obtain ⟨ws, h1, h2⟩ := h; exact ⟨ws, by rw [upd_ne ne]; exact h1, h2⟩
    | mix us => obtain ⟨ws, h1, h2, h3⟩ := h; exact ⟨ws, by rw [upd_ne ne]; exact h1, h2, fun p hp => ⟨vb _ _ (h3 p hp).2 (h3 p hp).1, (h3 p hp).2⟩⟩
    | ins c fs => obtain ⟨C, dx, gs, h0', h1, h2, h3⟩ := h; exact ⟨C, dx, gs, h0', by rw [upd_ne ne]; exact h1, h2, fun p hp => ⟨vb _ _ (h3 p hp).2 (h3 p hp).1, (h3 p hp).2⟩⟩
  exact {
    sub := fun b q hb => by rw [upd_ne (ne_of_none hb hg)]; exact r.sub b q hb
    old := fun b q h1 h2 => by
      have ne : b ≠ a := fun z => h2 (z ▸ ha)
      rw [upd_ne ne]; exact r.old b q h1 h2
    gold := r.gold
    iold := r.iold
    kept := fun b q h => by
      obtain ⟨h1, h2, h3, h4⟩ := r.kept b q h
      have ne : b ≠ a := fun z => h3 (z ▸ ha)
      exact ⟨by rw [upd_ne ne]; exact h1, h2, h3, h4⟩
    slot := fun i v hv => by
      obtain ⟨w, e, q⟩ := r.slot i v hv
      refine ⟨w, e, ?_⟩
      cases v with
      | own xs =>
        obtain ⟨b, vs, rfl, h1, h2⟩ := q
        obtain ⟨m, _⟩ := r.mine i xs b hv e
        have ne : b ≠ a := fun z => m.io (z ▸ ha)
        exact ⟨b, vs, rfl, by rw [upd_ne ne]; exact h1, h2⟩
      | dat d => exact q
      | scr ns => exact q
      | obj n => exact q
      | exn n => exact q
    mine := fun i ys b hv e => by
      obtain ⟨m, q⟩ := r.mine i ys b hv e
      obtain ⟨vs, h1⟩ := m.h
      have ne : b ≠ a := fun z => m.io (z ▸ ha)
      exact ⟨⟨m.g, m.h0, m.kp, m.io, vs, by rw [upd_ne ne]; exact h1⟩, q⟩
    ol := by
      show io.length = (s.ob.set k o).length
      rw [List.length_set]; exact r.ol
    ond := r.ond
    ofr := fun b hb => by
      refine ⟨(r.ofr b hb).1, ?_⟩
      by_cases e : b = a
      · rw [e, upd_same]; rfl
      · rw [upd_ne e]; exact (r.ofr b hb).2
    ob := fun j b q h1 h2 => by
      have h2 : (s.ob.set k o)[j]? = some q := h2
      by_cases e : j = k
      · subst e
        rw [hi] at h1
        cases h1
        rw [List.getElem?_set_self (by rw [← r.ol]; exact hk)] at h2
        cases h2
        exact ho
      · rw [List.getElem?_set_ne (Ne.symm e)] at h2
        have ne : b ≠ a := fun z => by
          subst z
          have hj := (List.getElem?_eq_some_iff.mp h1).1
          exact e ((List.getElem?_inj hj r.ond).mp (h1.trans hi.symm))
        exact ob b q ne (r.ob j b q h1 h2)
    len := r.len
    xx := ⟨r.xx.sl, fun dd f w d h => by
      obtain ⟨h1, h2⟩ := r.xx.fl dd f w d h
      refine ⟨?_, h2⟩
      have ne : dd ≠ a := fun z => by
        subst z
        have hl : k < s.ob.length := by rw [← r.ol]; exact hk
        have := r.ob k dd _ hi (List.getElem?_eq_getElem hl)
        generalize s.ob[k] = o' at this
        cases o' with
        | lst xs => obtain ⟨vs, h3, _⟩ := this; rw [h1] at h3; cases h3
        | dct kvs => obtain ⟨vs, h3, _⟩ := this; rw [h1] at h3; cases h3
        | mix kvs => obtain ⟨vs, h3, _⟩ := this; rw [h1] at h3; cases h3
        | ins c fs => obtain ⟨C, dx, gs, _, h3, _⟩ := this; rw [h1] at h3; cases h3
      rw [upd_ne ne]; exact h1⟩ }
end
end CH

/-! OB2: instances: made, their methods, their fields. -/
namespace CH
open PySem L2
section
variable {X : Cx} {CX : CXT} {k : Nat} {f C : Addr} {fd : FuncData} {ps : List Str} {sp : Sp} {dvs : List V} {ds : List Value} {E : St → XK} {x m : Str} {p pos apos : Pos} {e o : Expr} {es : List Expr} {ta : TE} {t : TA}
def tMethSD (C : Addr) (m : Str) (sp : Sp) (dvs : List V) (E : St → XK) (ta : TE) (t : TA) : TE := fun σ H Q => ta σ H fun x H1 => ∃ a dx fs, x = .ref a ∧ H1 a = some (.ins C dx fs) ∧ fs.lookup m = none ∧
  t σ H1 fun vs H2 => sp (x :: (vs ++ dvs)) H2 Q (E σ)
theorem mcall_late {prog : Program} {w : World} {A : Around} {Ex : Value → Shared → Prop} {s : Shared} {env : Env} {o : Expr} {name : Str} {apos pos : Pos} {args : List Expr} {Q : Value → Shared → Prop}
    (hbase : attributeBase o name env (eval o env) = eval o env)
    (hfew : ((backTo pos (starEach args env)).all (fun x => !x.1) && (backToKw pos (keywordEach [] env)).all (fun x => x.1.isSome)
      && decide (args.length + ([] : List Keyword).length + (if ([] : List Keyword).isEmpty then 0 else 1) < 30)) = true)
    (hline : (apos.endLine == pos.line) = true)
    (h : wpAny (model prog w) A (eval o env) (fun ov s₁ => ∀ pl : Sem Bool, wpAny (model prog w) A (getMethod ov name pl) (fun fx s₂ => wpAny (model prog w) A (callWith pos fx.1 fx.2 (backTo pos (starEach args env)) (backToKw pos (keywordEach [] env))) Q Ex s₂) Ex s₁) Ex s) :
    wpAny (model prog w) A (eval (.Call (.Attribute o name apos) args [] pos) env) Q Ex s := by
  rw [arm_eval_Call, hbase]
  refine wpAny_bind (wpAny_mono h (fun ov s₁ h₁ => ?_) fun _ _ e => e)
  refine wpAny_bind (wpAny_standAt ?_)
  have hform : methodCallForm (args.length + ([] : List Keyword).length) (backTo pos (starEach args env)) (backToKw pos (keywordEach [] env)) = true := hfew
  have hpos : methodCallPos true o env apos pos = pure pos := by unfold methodCallPos; simp [hline]
  unfold methodCall
  rw [hform]
  refine wpAny_bind (wpAny_holding (wpAny_mono (h₁ _) (fun fx s₂ h₂ => ?_) fun _ _ e => e))
  exact wpAny_bind (wpAny_of_eq hpos h₂)
theorem pe_methSD (he : PE X o ta) (c : Cls X.K C) (hm : Meth X.K C m f) (F : FnOk X.prog X.w X.K X.mg X.base CX k f fd ps sp) (hr : Room k X.A) (hb : Binds X.K fd ps ds) (hd : Vals dvs ds) (hx : ∀ σ, PassesAt CX X σ (E σ)) (ha : PA X (e :: es) t)
    (hst : starEach (e :: es) X.env = (false, eval e X.env) :: starEach es X.env) (hpl : (backTo pos (starEach es X.env)).any (·.1) = false)
    (hbase : attributeBase o m X.env (eval o X.env) = eval o X.env)
    (hfew : ((backTo pos (starEach (e :: es) X.env)).all (fun x => !x.1) && (backToKw pos (keywordEach [] X.env)).all (fun x => x.1.isSome)
      && decide ((e :: es).length + ([] : List Keyword).length + (if ([] : List Keyword).isEmpty then 0 else 1) < 30)) = true)
    (hline : (apos.endLine == pos.line) = true) :
    PE X (.Call (.Attribute o m apos) (e :: es) [] pos) (tMethSD C m sp dvs E ta t) := by
  refine ⟨fun pins s σ H Q I h => ?_⟩
  refine mcall_late hbase hfew hline (thn (he.run pins s σ H _ I h) fun u s1 ⟨x, H1, I1, rx, a, dx, fs, ex, ea, l, q⟩ pl => ?_)
  subst ex
  obtain rfl : u = Value.ref a := rx
  refine getmeth_ok I1 ea c hm l ?_
  refine PySem.W.callWith_K (first := [.ref a]) (h₀ := X.base) I.ok.mod.kin hm.kp (thn (ha.run pos pins s1 σ H1 _ I1 q) fun us s2 ⟨vs, H2, I2, r, q2⟩ => ⟨I2.kIn, ?_⟩) hst hpl
  exact run_fnSD (us := .ref a :: us) (vs := .ref a :: vs) F hr hb hd (hx σ) I2 (.cons rfl r) q2
theorem pe_methSD0 (he : PE X o ta) (c : Cls X.K C) (hm : Meth X.K C m f) (F : FnOk X.prog X.w X.K X.mg X.base CX k f fd ps sp) (hr : Room k X.A) (hb : Binds X.K fd ps ds) (hd : Vals dvs ds) (hx : ∀ σ, PassesAt CX X σ (E σ))
    (hbase : attributeBase o m X.env (eval o X.env) = eval o X.env) (hline : (apos.endLine == pos.line) = true) :
    PE X (.Call (.Attribute o m apos) [] [] pos) (tMethSD C m sp dvs E ta tNil) := by
  refine ⟨fun pins s σ H Q I h => ?_⟩
  refine mcall_late hbase rfl hline (thn (he.run pins s σ H _ I h) fun u s1 ⟨x, H1, I1, rx, a, dx, fs, ex, ea, l, q⟩ pl => ?_)
  subst ex
  obtain rfl : u = Value.ref a := rx
  refine getmeth_ok I1 ea c hm l ?_
  exact PySem.W.callWith_K0 (first := [.ref a]) I1.kIn hm.kp (run_fnSD (us := [.ref a]) (vs := [.ref a]) F hr hb hd (hx σ) I1 (.cons rfl .nil) q)
def tMakeSD (C : Addr) (sp : Sp) (dvs : List V) (E : St → XK) (t : TA) : TE := fun σ H Q => t σ H fun vs H1 => ∀ x dx, H1 x = none → H1 dx = none → dx ≠ x →
  sp (.ref x :: (vs ++ dvs)) (upd (upd H1 dx (.own x)) x (.ins C dx [])) (fun v H2 => v = .non ∧ Q (.ref x) H2) (E σ)
theorem run_makeSD {pins : List (Addr × Obj)} {σ : St} {H : Hp} {s : Shared} {Q : VK} {us : List Value} {vs : List V} (M : Mk X.K C f) (F : FnOk X.prog X.w X.K X.mg X.base CX k f fd ps sp) (hr : Room (k + 1) X.A) (hb : Binds X.K fd ps ds) (hd : Vals dvs ds)
    (hx : PassesAt CX X σ (E σ)) (I : Inv X pins σ H s) (r : Vals vs us)
    (h : ∀ x dx, H x = none → H dx = none → dx ≠ x → sp (.ref x :: (vs ++ dvs)) (upd (upd H dx (.own x)) x (.ins C dx [])) (fun v H2 => v = .non ∧ Q (.ref x) H2) (E σ)) :
    wpAny (model X.prog X.w) X.A (call (.ref C) us) (EP X pins σ Q) X.xe s := by
  have hq := h (s.heap.objs.size + 1) s.heap.objs.size (I.hok.fresh (Nat.le_succ _)) (I.hok.fresh (Nat.le_refl _)) (Nat.ne_of_lt (Nat.lt_succ_self _))
  have I2 := Inv.made (C := C) I
  have r2 : Vals (V.ref (s.heap.objs.size + 1) :: (vs ++ dvs)) (Value.ref (s.heap.objs.size + 1) :: (us ++ ds)) := .cons rfl (r.append hd)
  have hl : (Value.ref (s.heap.objs.size + 1) :: us ++ ds).length = ps.length := by
    have e := r2.length
    rw [F.len _ _ _ _ hq] at e
    exact e.symm
  refine wpAny_call (make_map (f := f) I.kIn M.makes M.init (beq_iff_eq.mp M.fn) (codeAny_mono (F.run _ X.stack _ _ ⟨Value.ref (s.heap.objs.size + 1) :: us, []⟩ (Value.ref (s.heap.objs.size + 1) :: (us ++ ds)) _ _ (E σ) (hr.make C us [])
    (I2.env0.make C us []) (hb _ (Value.ref (s.heap.objs.size + 1) :: us) I2.kIn hl) r2 hq) fun r s' hq' => ?_))
  cases r with
  | error e => exact hx pins _ _ e s' I2 hq'
  | ok fl =>
    cases fl with
    | ret u =>
      obtain ⟨v, H', I3, rv, ev, q3⟩ := I2.after hq'
      subst ev
      exact ⟨rv, ⟨V.ref (s.heap.objs.size + 1), H', I3, rfl, q3⟩⟩
    | next => exact False.elim hq'
    | brk => exact False.elim hq'
    | cont => exact False.elim hq'
theorem pe_makeSD0 (M : Mk X.K C f) (F : FnOk X.prog X.w X.K X.mg X.base CX k f fd ps sp) (hr : Room (k + 1) X.A) (hg : Gl X x) (hm : X.mg x = some (.ref C)) (hb : Binds X.K fd ps ds) (hd : Vals dvs ds) (hx : ∀ σ, PassesAt CX X σ (E σ))
    (hdb : (x == ("__debug__" : Str)) = false) : PE X (.Call (.Name x p) [] [] pos) (tMakeSD C sp dvs E tNil) := by
  refine ⟨fun pins s σ H Q I h => ?_⟩
  refine wpAny_Call_Name_kw (ld_glob I hg hm ?_ hdb)
  exact PySem.W.callWith_K0 I.kIn M.kp (run_makeSD (us := []) M F hr hb hd (hx σ) I .nil h)
end
/-! ### the reckoning -/
/-- C(): a new instance, then its __init__ -/
def mNew (c : Str) (id : Nat) : M Val := fun cs s => if 1 ≤ cs.lv then (match cs.low id [.obj s.ob.length] (s.ob ++ [.ins c []]) with
  | .ok v ob => (match v with
    | .dat .none => .ok (.obj s.ob.length) { s with ob := ob }
    | _ => .no)
  | .ex e ob => .ex e { s with ob := ob }
  | .no => .no) else .no
/-- o.m(..) -/
def mMeth (c m : Str) (id : Nat) (f : M Val) (es : List (M Val)) (dfl : List PyData) : M Val := fun cs s => (f cs s).bnd fun v s1 => match v with
  | .obj n => (match s1.ob[n]? with
    | some (.ins c' fs) => if c' = c ∧ fs.lookup m = none then (mArgs es cs s1).bnd fun vs s2 => (match cs.run id (.obj n :: (vs ++ dfl.map .dat)) s2.ob with
      | .ok u ob => .ok u { s2 with ob := ob }
      | .ex e ob => .ex e { s2 with ob := ob }
      | .no => .no) else .no
    | _ => .no)
  | _ => .no
/-- o.f -/
def mFld (c : Str) (f : M Val) (g : Str) : M Val := fun cs s => (f cs s).bnd fun v s1 => match v with
  | .obj n => (match s1.ob[n]? with
    | some (.ins c' fs) => if c' = c then (match fs.lookup g with
      | some u => .ok u s1
      | none => .no) else .no
    | _ => .no)
  | _ => .no
section
variable {Z : Sur} {cs : Cs} {σ : St} {G H : Hp} {io : List Addr} {W : WX} {s : S}
theorem lookup_zip {gs : List (Str × V)} {fs : List (Str × Val)} (h : gs.map (·.1) = fs.map (·.1)) (g : Str) : (fs.lookup g = none → gs.lookup g = none) ∧ ∀ u, fs.lookup g = some u → ∃ w, gs.lookup g = some w ∧ ∃ q ∈ gs.zip fs, q.1.2 = w ∧ q.2.2 = u := by
  induction gs generalizing fs with
  | nil =>
    cases fs with
    | nil => exact ⟨fun _ => rfl, fun u e => by cases e⟩
    | cons f fs => cases h
  | cons p gs ih =>
    cases fs with
    | nil => cases h
    | cons f fs =>
      simp only [List.map_cons, List.cons.injEq] at h
      obtain ⟨h1, h2⟩ := h
      obtain ⟨a, b⟩ := ih h2
      obtain ⟨p1, p2⟩ := p
      obtain ⟨f1, f2⟩ := f
      simp only at h1
      subst h1
      rw [List.lookup_cons, List.lookup_cons]
      cases e : g == p1 with
      | true =>
        refine ⟨fun z => (by cases z), fun u z => ?_⟩
        cases z
        exact ⟨p2, rfl, _, List.mem_cons_self, rfl, rfl⟩
      | false =>
        refine ⟨a, fun u z => ?_⟩
        obtain ⟨w, h1, q, h3, h4⟩ := b u z
        exact ⟨w, h1, q, List.mem_cons_of_mem _ h3, h4⟩
theorem den_fld {c : Str} {f : M Val} {g : Str} {Q : VK} (hC : Cls Z.K (He.ga Z.K c) ∧ NoAttr Z.K (He.ga Z.K c) g) (h : denV Z cs (mFld c f g) W σ H Q) : tFld Z.K (denV Z cs f W) g σ H Q := by
  obtain ⟨G, io, s, r, h⟩ := h
  refine denV.of r (Aft.bnd h) fun v G1 io1 s1 H1 r1 e1 p w t => ?_
  cases v with
  | obj n =>
    simp only at p
    obtain ⟨a, rfl, hi⟩ := t.1
    cases eo : s1.ob[n]? with
    | none => rw [eo] at p; exact p.elim
    | some o =>
      rw [eo] at p
      cases o with
      | lst xs => exact p.elim
      | dct xs => exact p.elim
      | mix xs => exact p.elim
      | ins c' fs =>
        simp only at p
        obtain ⟨C, dx, gs, h0, h1, h2, h3⟩ := r1.ob n a _ hi eo
        by_cases hc : c' = c
        · rw [if_pos hc] at p
          subst hc
          subst h0
          obtain ⟨k1, k2⟩ := hC
          cases el : fs.lookup g with
          | none => rw [el] at p; exact p.elim
          | some u =>
            rw [el] at p
            obtain ⟨w, hw, q, hq, rfl, rfl⟩ := (lookup_zip h2 g).2 u el
            obtain ⟨b1, b2⟩ := h3 q hq
            exact ⟨a, _, dx, gs, _, rfl, h1, k1, k2, hw, p G1 io1 H1 r1 (Ext.refl _ _) _ ⟨b1, fun xs _ z _ => absurd z (b2 xs)⟩⟩
        · rw [if_neg hc] at p
          exact p.elim
  | dat d => exact p.elim
  | own d => exact p.elim
  | scr d => exact p.elim
  | exn d => exact p.elim
theorem den_new {c : Str} {id : Nat} {C : Addr} {Q : VK} (hc : He.ga Z.K c = C) (h : denV Z cs (mNew c id) W σ H Q) : tMakeSD C (spOf Z.K Z.cla 1 (cs.low id)) [] (WE W) tNil σ H Q := by
  obtain ⟨G, io, s, r, h⟩ := h
  intro x dx hx hdx ne
  have r1 := r.objI hx hdx ne hc
  have hio : (io ++ [x])[s.ob.length]? = some x := by
    rw [← r.ol, List.getElem?_append_right (Nat.le_refl _)]
    simp
  have e1 : Ext G io G (io ++ [x]) := ⟨Sub.refl _, List.prefix_append _ _⟩
  refine ⟨G, io ++ [x], [.obj s.ob.length], s.ob ++ [.ins c []], rfl, r1.callIn, ⟨⟨⟨x, rfl, hio⟩, fun _ z => by cases z⟩, trivial⟩, ?_⟩
  have h' : Aft Z σ G io W (pV Z σ Q) (match cs.low id [.obj s.ob.length] (s.ob ++ [.ins c []]) with
    | .ok v ob => (match v with
      | .dat .none => .ok (.obj s.ob.length) { s with ob := ob }
      | _ => .no)
    | .ex e ob => .ex e { s with ob := ob }
    | .no => .no) := by
    unfold mNew at h
    by_cases hl : 1 ≤ cs.lv
    · rw [if_pos hl] at h; exact h
    · rw [if_neg hl] at h; exact h.elim
  cases q : cs.low id [.obj s.ob.length] (s.ob ++ [.ins c []]) with
  | no => rw [q] at h'; exact h'.elim
  | ex e ob =>
    rw [q] at h'
    intro cls d G' io' H' r' e' xr
    exact h' cls d G' io' H' (r1.callOut r' e') (e1.trans e') xr
  | ok v ob =>
    rw [q] at h'
    intro w G' io' H' r' e' t
    cases v with
    | dat d =>
      cases d with
      | none =>
        have ew : w = .non := by
          have := t.1
          cases this
          rfl
        refine ⟨ew, h' G' io' H' (r1.callOut r' e') (e1.trans e') _ ⟨⟨x, rfl, ?_⟩, fun _ _ z => by cases z⟩⟩
        obtain ⟨l, el⟩ := e'.io
        rw [← el, List.getElem?_append_left (by rw [List.length_append, r.ol]; simp)]
        exact hio
      | bool b => exact h'.elim
      | int b => exact h'.elim
      | str b => exact h'.elim
      | list b => exact h'.elim
      | tuple b => exact h'.elim
      | dict b => exact h'.elim
    | own b => exact h'.elim
    | scr b => exact h'.elim
    | obj b => exact h'.elim
    | exn b => exact h'.elim
theorem den_meth {c : Str} {id n : Nat} {C : Addr} {m : Str} {f : M Val} {es : List (M Val)} {dfl : List PyData} {dvs : List V} {Q : VK} (hc : He.ga Z.K c = C) (hd : cVs dfl = some dvs) (hn : 1 + es.length + dvs.length = n) (h : denV Z cs (mMeth c m id f es dfl) W σ H Q) :
    tMethSD C m (spOf Z.K Z.cla n (cs.run id)) dvs (WE W) (denV Z cs f W) (denA Z cs (mArgs es) W) σ H Q := by
  obtain ⟨G, io, s, r, h⟩ := h
  refine denV.of r (Aft.bnd h) fun v G1 io1 s1 H1 r1 e1 p w t => ?_
  cases v with
  | dat d => exact p.elim
  | own d => exact p.elim
  | scr d => exact p.elim
  | exn d => exact p.elim
  | obj k =>
    simp only at p
    obtain ⟨a, rfl, hi⟩ := t.1
    cases eo : s1.ob[k]? with
    | none => rw [eo] at p; exact p.elim
    | some o =>
      rw [eo] at p
      cases o with
      | lst xs => exact p.elim
      | dct xs => exact p.elim
      | mix xs => exact p.elim
      | ins c' fs =>
        simp only at p
        by_cases hh : c' = c ∧ fs.lookup m = none
        · rw [if_pos hh] at p
          obtain ⟨rfl, hl⟩ := hh
          obtain ⟨C', dx, gs, h0, h1, h2, h3⟩ := r1.ob k a _ hi eo
          rw [hc] at h0
          subst h0
          refine ⟨a, dx, gs, rfl, h1, (lookup_zip h2 m).1 hl, ?_⟩
          have h4 := Aft.bnd p
          refine ⟨G1, io1, s1, r1, ?_⟩
          cases ea : mArgs es cs s1 with
          | no => rw [ea] at h4; exact h4.elim
          | ex x s' => rw [ea] at h4; exact h4
          | ok vs s2 =>
            rw [ea] at h4
            intro G2 io2 H2 r2 e2 ws hw
            have h5 := h4 G2 io2 H2 r2 e2
            have hi2 : VBs Z.K G2 H2 io2 (.ref a :: (ws ++ dvs)) (.obj k :: (vs ++ dfl.map .dat)) := by
              refine ⟨⟨⟨a, rfl, ?_⟩, fun _ z => by cases z⟩, VBs.append hw (cVs_vb hd)⟩
              obtain ⟨l, el⟩ := e2.io
              rw [← el, List.getElem?_append_left (List.getElem?_eq_some_iff.mp hi).1]
              exact hi
            refine ⟨G2, io2, .obj k :: (vs ++ dfl.map .dat), s2.ob, ?_, r2.callIn, hi2, ?_⟩
            · rw [List.length_cons, List.length_append, VBs.length hw, mArgs_len ea]; omega
            · cases q : cs.run id (.obj k :: (vs ++ dfl.map .dat)) s2.ob with
              | no => simp only [q] at h5; exact h5.elim
              | ok v ob' =>
                simp only [q] at h5
                intro w G' io' H' r' e' t
                exact h5 G' io' H' (r2.callOut r' e') e' w (VT.callOut r2 r' t)
              | ex x ob' =>
                simp only [q] at h5
                intro cls d G' io' H' r' e' t
                exact h5 cls d G' io' H' (r2.callOut r' e') e' t
        · rw [if_neg hh] at p
          exact p.elim
end
end CH

/-! OB3: a field is set; lists of the table change. -/
namespace CH
open PySem L2
def putV (f : Str) (v : Val) : List (Str × Val) → List (Str × Val)
  | [] => [(f, v)]
  | (g, x) :: r => if g = f then (g, v) :: r else (g, x) :: putV f v r
theorem put_zip (f : Str) (w : V) (v : Val) : ∀ {gs : List (Str × V)} {fs : List (Str × Val)}, gs.map (·.1) = fs.map (·.1) → (putF f w gs).map (·.1) = (putV f v fs).map (·.1) ∧ ∀ q ∈ (putF f w gs).zip (putV f v fs), q ∈ gs.zip fs ∨ (q.1.2 = w ∧ q.2.2 = v)
  | [], [], _ => ⟨rfl, fun q hq => by
    have hq : q ∈ [((f, w), (f, v))] := hq
    rw [List.mem_singleton.mp hq]
    exact .inr ⟨rfl, rfl⟩⟩
  | [], _ :: _, h => by cases h
  | _ :: _, [], h => by cases h
  | (g, x) :: gs, (g', y) :: fs, h => by
    simp only [List.map_cons, List.cons.injEq] at h
    obtain ⟨rfl, h2⟩ := h
    obtain ⟨a, b⟩ := put_zip f w v h2
    unfold putF putV
    by_cases e : g = f
    · rw [if_pos e, if_pos e]
      refine ⟨by simp only [List.map_cons, h2], fun q hq => ?_⟩
      rw [List.zip_cons_cons] at hq
      rcases List.mem_cons.mp hq with z | z
      · rw [z]; exact .inr ⟨rfl, rfl⟩
      · exact .inl (List.mem_cons_of_mem _ z)
    · rw [if_neg e, if_neg e]
      refine ⟨by simp only [List.map_cons, a], fun q hq => ?_⟩
      rw [List.zip_cons_cons] at hq
      rcases List.mem_cons.mp hq with z | z
      · rw [z]; exact .inl List.mem_cons_self
      · rcases b q z with z | z
        · exact .inl (List.mem_cons_of_mem _ z)
        · exact .inr z
/-- a list of nobody's becomes an object -/
def toO (v : Val) (s : S) : Val × S := match v with
  | .own xs => (.obj s.ob.length, { s with ob := s.ob ++ [.lst xs] })
  | v => (v, s)
/-- o.g = e -/
def sFset (c : Str) (fo : M Val) (g : Str) (fv : M Val) : M Fl := fun cs s => (fv cs s).bnd fun v s1 => (fo cs (toO v s1).2).bnd fun x s2 => match x with
  | .obj n => (match s2.ob[n]? with
    | some (.ins c' fs) => if c' = c ∧ fs.length < 1000 then .ok .nx { s2 with ob := s2.ob.set n (.ins c' (putV g (toO v s1).1 fs)) } else .no
    | _ => .no)
  | _ => .no
section
variable {Z : Sur} {cs : Cs} {σ : St} {G H : Hp} {io : List Addr} {W : WX} {s : S} {D : Ends}
theorem toO_ok {w : V} {v : Val} (r : SR Z G io σ s H) (t : VT Z G io σ s H w v) : ∃ io', SR Z G io' σ (toO v s).2 H ∧ io <+: io' ∧ VB Z.K G H io' w (toO v s).1 ∧ ∀ xs, (toO v s).1 ≠ .own xs := by
  cases v with
  | own xs =>
    obtain ⟨⟨a, vs, rfl, hv, hd⟩, q⟩ := t
    obtain ⟨m, n⟩ := q xs a rfl rfl
    refine ⟨io ++ [a], r.objL m n hv hd, List.prefix_append _ _, ⟨a, rfl, ?_⟩, fun _ z => by cases z⟩
    show (io ++ [a])[s.ob.length]? = some a
    rw [← r.ol, List.getElem?_append_right (Nat.le_refl _)]
    simp
  | dat d => exact ⟨io, r, List.prefix_rfl, t.1, fun _ z => by cases z⟩
  | scr d => exact ⟨io, r, List.prefix_rfl, t.1, fun _ z => by cases z⟩
  | obj d => exact ⟨io, r, List.prefix_rfl, t.1, fun _ z => by cases z⟩
  | exn d => exact ⟨io, r, List.prefix_rfl, t.1, fun _ z => by cases z⟩
theorem den_fset {c : Str} {fo fv : M Val} {g : Str} (hC : Cls Z.K (He.ga Z.K c) ∧ NoAttr Z.K (He.ga Z.K c) g) (h : denS Z cs (sFset c fo g fv) W D σ H) : sFld Z.K (denV Z cs fo W) (denV Z cs fv W) g D σ H := by
  obtain ⟨G, io, s, r, h⟩ := h
  refine denV.of r (AftS.val h) fun v G1 io1 s1 H1 r1 e1 p w t => ?_
  obtain ⟨io2, r2, i2, b2, n2⟩ := toO_ok r1 t
  refine denV.of r2 (AftS.val (p.up ⟨Sub.refl _, i2⟩)) fun x G3 io3 s3 H3 r3 e3 p3 wx tx => ?_
  cases x with
  | dat d => exact p3.elim
  | own d => exact p3.elim
  | scr d => exact p3.elim
  | exn d => exact p3.elim
  | obj n =>
    simp only at p3
    obtain ⟨a, rfl, hi⟩ := tx.1
    cases eo : s3.ob[n]? with
    | none => rw [eo] at p3; exact p3.elim
    | some o =>
      rw [eo] at p3
      cases o with
      | lst xs => exact p3.elim
      | dct xs => exact p3.elim
      | mix xs => exact p3.elim
      | ins c' fs =>
        simp only at p3
        by_cases hh : c' = c ∧ fs.length < 1000
        · rw [if_pos hh] at p3
          obtain ⟨C, dx, gs, h0, h1, h2, h3⟩ := r3.ob n a _ hi eo
          obtain ⟨rfl, hlt⟩ := hh
          have h0' := h0
          subst h0'
          obtain ⟨k1, k2⟩ := hC
          have hl : gs.length = fs.length := by
            have := congrArg List.length h2
            simpa using this
          obtain ⟨z1, z2⟩ := put_zip g w (toO v s1).1 h2
          refine ⟨a, _, dx, gs, rfl, h1, k1, k2, by omega, ?_⟩
          refine p3 σ G3 io3 _ (r3.wr hi ⟨_, dx, putF g w gs, h0, upd_same, z1, fun q hq => ?_⟩ fun l z => by cases z) (Ext.refl _ _)
          rcases z2 q hq with z | ⟨q1, q2⟩
          · obtain ⟨b1, b3⟩ := h3 q z
            exact ⟨VB.up b1 b3 (Ext.refl _ _), b3⟩
          · rw [q1, q2]
            exact ⟨VB.up b2 n2 e3, n2⟩
        · rw [if_neg hh] at p3
          exact p3.elim
end
end CH

/-! OB4: a list of the table is walked, as it stands at each turn. -/
namespace CH
open PySem L2
def forLive (n : Nat) (tg : Tg) (body : M Fl) (cs : Cs) : Nat → Nat → S → R Fl
  | 0, _, _ => .no
  | m + 1, i, s => match s.ob[n]? with
    | some (.lst xs) => (match xs[i]? with
      | none => .ok .nx s
      | some d => (match tgPut tg d s with
        | none => .no
        | some s1 => (body cs s1).bnd fun x s2 => match x with
          | .nx => forLive n tg body cs m (i + 1) s2
          | .ct => forLive n tg body cs m (i + 1) s2
          | .bk => .ok .nx s2
          | .rt v => .ok (.rt v) s2))
    | _ => .no
def sForO (f : M Val) (tg : Tg) (body : M Fl) : M Fl := fun cs s => (f cs s).bnd fun v s1 => match v with
  | .obj n => forLive n tg body cs wFuel 0 s1
  | _ => .no
section
variable {Z : Sur} {cs : Cs} {σ : St} {G H : Hp} {io : List Addr} {W : WX} {s : S} {D : Ends}
theorem obl {n : Nat} {a : Addr} {xs : List PyData} (r : SR Z G io σ s H) (hi : io[n]? = some a) (e : s.ob[n]? = some (.lst xs)) : ∃ vs, H a = some (.lst vs) ∧ DRs Z.K G vs xs := r.ob n a _ hi e
theorem den_forO {f : M Val} {tg : Tg} {body : M Fl} (h : denS Z cs (sForO f tg body) W D σ H) : tFor (iSeq Z.K (denV Z cs f W)) (denG Z tg) (denS Z cs body W) D σ H := by
  obtain ⟨G, io, s, r, h⟩ := h
  refine denV.of r (AftS.val h) fun v G1 io1 s1 H1 r1 e1 p w t => ?_
  cases v with
  | dat d => exact p.elim
  | own d => exact p.elim
  | scr d => exact p.elim
  | exn d => exact p.elim
  | obj n =>
    simp only at p
    obtain ⟨a, rfl, hi⟩ := t.1
    have start : ∃ xs, s1.ob[n]? = some (.lst xs) := by
      have p' := p
      unfold wFuel forLive at p'
      cases eo : s1.ob[n]? with
      | none => rw [eo] at p'; exact p'.elim
      | some o =>
        cases o with
        | lst xs => exact ⟨xs, rfl⟩
        | dct xs => rw [eo] at p'; exact p'.elim
        | mix xs => rw [eo] at p'; exact p'.elim
        | ins c xs => rw [eo] at p'; exact p'.elim
    obtain ⟨xs0, ex0⟩ := start
    obtain ⟨vs0, hv0, _⟩ := obl r1 hi ex0
    refine .inl ⟨a, vs0, rfl, SqL.of hv0, ?_⟩
    let Iv : Nat → Nat → St → Hp → Prop := fun i m σ H => ∃ G2 io2 s2, SR Z G2 io2 σ s2 H ∧ Ext G1 io1 G2 io2 ∧ AftS Z G2 io2 W D (forLive n tg body cs m i s2)
    refine ⟨Iv, ⟨wFuel, G1, io1, s1, r1, Ext.refl _ _, p⟩, ?_⟩
    rintro i m σ2 H2 ⟨G2, io2, s2, r2, e2, p2⟩
    have hi2 : io2[n]? = some a := by
      obtain ⟨l, el⟩ := e2.io
      rw [← el, List.getElem?_append_left (List.getElem?_eq_some_iff.mp hi).1]
      exact hi
    cases m with
    | zero => exact p2.elim
    | succ m =>
      unfold forLive at p2
      cases eo : s2.ob[n]? with
      | none => rw [eo] at p2; exact p2.elim
      | some o =>
        cases o with
        | dct xs => rw [eo] at p2; exact p2.elim
        | mix xs => rw [eo] at p2; exact p2.elim
        | ins c xs => rw [eo] at p2; exact p2.elim
        | lst xs =>
          rw [eo] at p2
          simp only at p2
          obtain ⟨vs, hv, hd⟩ := obl r2 hi2 eo
          have hlen := hd.length
          cases ex : xs[i]? with
          | none =>
            rw [ex] at p2
            left
            refine ⟨⟨vs, SqL.of hv, ?_⟩, p2 σ2 G2 io2 H2 r2 (Ext.refl _ _)⟩
            rw [hlen]
            exact List.getElem?_eq_none_iff.mp ex
          | some d =>
            rw [ex] at p2
            simp only at p2
            obtain ⟨v, hvi, dv⟩ := hd.get ex
            right
            refine ⟨⟨vs, v, SqL.of hv, hvi⟩, Iv (i + 1) m, fun σ' H' h' => ⟨m, Nat.lt_succ_self _, h'⟩, fun x H' y => ?_⟩
            obtain ⟨rfl, y2⟩ := y
            have := y2 vs (SqL.of hv)
            rw [hvi] at this
            cases this
            cases eT : tgPut tg d s2 with
            | none => simp only [eT] at p2; exact p2.elim
            | some s3 =>
              simp only [eT] at p2
              refine ⟨G2, io2, s2, d, s3, r2, dv, eT, fun σ4 r4 _ => ?_⟩
              refine ⟨G2, io2, s3, r4, AftS.body p2 (fun _ => rfl) (fun _ _ => rfl) fun s5 σ5 G5 io5 H5 hx r5 e5 => ?_⟩
              refine ⟨G5, io5, s5, r5, e2.trans e5, ?_⟩
              rcases hx with hx | hx
              · rw [hx] at p2
                exact AftS.up p2 e5
              · rw [hx] at p2
                exact AftS.up p2 e5
end
end CH

/-! OB5: comprehensions over a list of the table. -/
namespace CH
open PySem L2
def compLive (n : Nat) (tg : Tg) (own : List Nat) (t : Option (M Bool)) (elt : M Val) (cs : Cs) : Nat → Nat → List PyData → S → R (List PyData)
  | 0, _, _, _ => .no
  | m + 1, i, acc, s => match s.ob[n]? with
    | some (.lst xs) => (match xs[i]? with
      | none => .ok acc s
      | some d => (match tgPut tg d s with
        | none => .no
        | some s1 => match (match t with
            | none => R.ok true s1
            | some f => f cs s1) with
          | .ok true s2 => (match elt cs s2 with
            | .ok v s3 => (match toD v with
              | some y => if acc.length < big then compLive n tg own t elt cs m (i + 1) (acc ++ [y]) (s3.wipe own) else .no
              | none => .no)
            | _ => .no)
          | .ok false s2 => compLive n tg own t elt cs m (i + 1) acc (s2.wipe own)
          | _ => .no))
    | _ => .no
def mCompO (f : M Val) (tg : Tg) (own : List Nat) (t : Option (M Bool)) (elt : M Val) : M Val := fun cs s => (f cs s).bnd fun v s1 => match v with
  | .obj n => if s1.calm own = true ∧ (tgSlots tg).all (fun i => own.contains i) = true then (match compLive n tg own t elt cs wFuel 0 [] (s1.wipe own) with
    | .ok acc s2 => .ok (.own acc) (s2.back s1 own)
    | _ => .no)
    else .no
  | _ => .no
section
variable {Z : Sur} {cs : Cs} {σ : St} {G H : Hp} {io : List Addr} {W : WX} {s : S} {D : Ends}
theorem den_compO {f : M Val} {tg : Tg} {own : List Nat} {t : Option (M Bool)} {elt : M Val} {Q : VK} (hxx : Z.xs = none ∧ Z.xf = none) (h : denV Z cs (mCompO f tg own t elt) W σ H Q) :
    tLc (iSeq Z.K (denV Z cs f W)) (anyG Z.K Z.cla tg) (anyBo Z.K Z.cla cs t) (anyV Z.K Z.cla cs elt) own σ H Q := by
  obtain ⟨G, io, s, r, h⟩ := h
  refine denV.of r (Aft.bnd h) fun v G1 io1 s1 H1 r1 e1 p w tv => ?_
  cases v with
  | dat d => exact p.elim
  | own d => exact p.elim
  | scr d => exact p.elim
  | exn d => exact p.elim
  | obj n =>
    simp only at p
    obtain ⟨a, rfl, hi⟩ := tv.1
    by_cases hc : s1.calm own = true ∧ (tgSlots tg).all (fun i => own.contains i) = true
    rotate_left
    · rw [if_neg hc] at p; exact p.elim
    rw [if_pos hc] at p
    obtain ⟨hc, hsl⟩ := hc
    have hsl : ∀ i ∈ tgSlots tg, i ∈ own := fun i hi => by
      have := List.all_eq_true.mp hsl i hi
      simpa using this
    cases eF : compLive n tg own t elt cs wFuel 0 [] (s1.wipe own) with
    | no => rw [eF] at p; exact p.elim
    | ex x s' => rw [eF] at p; exact p.elim
    | ok accF sF =>
      rw [eF] at p
      have start : ∃ xs, s1.ob[n]? = some (.lst xs) := by
        have p' := eF
        unfold wFuel compLive at p'
        rw [wipe_ob] at p'
        cases eo : s1.ob[n]? with
        | none => rw [eo] at p'; cases p'
        | some o =>
          cases o with
          | lst xs => exact ⟨xs, rfl⟩
          | dct xs => rw [eo] at p'; cases p'
          | mix xs => rw [eo] at p'; cases p'
          | ins c xs => rw [eo] at p'; cases p'
      obtain ⟨xs0, ex0⟩ := start
      obtain ⟨vs0, hv0, _⟩ := obl r1 hi ex0
      refine .inl ⟨a, vs0, rfl, SqL.of hv0, fun D hD => ?_⟩
      have k0 : Z.kp D = none := r1.knone hD
      let Iv : Nat → Nat → Hp → Prop := fun i m H => ∃ G2 io2 s2 vs acc, SR (Z.hold D vs) G2 io2 (L2.wipe σ own) s2 H ∧ Ext G1 io1 G2 io2 ∧ DRs Z.K G2 vs acc ∧ compLive n tg own t elt cs m i acc s2 = .ok accF sF
      refine ⟨Iv, ⟨wFuel, G1, io1, s1.wipe own, [], [], ?_, Ext.refl _ _, .nil, eF⟩, ?_⟩
      · refine ((r1.wiped hxx.1 own).new hD (.lst [])).holds upd_same (r1.gnone hD) (fun z => ?_) (r1.h0none hD) fun i xs hi ei => ?_
        · have := (r1.ofr D z).2; rw [hD] at this; cases this
        · obtain ⟨m, _⟩ := (r1.wiped hxx.1 own).mine i xs D hi ei
          obtain ⟨ws, hw⟩ := m.h
          rw [hD] at hw; cases hw
      · rintro i m H2 ⟨G2, io2, s2, vs, acc, r2, e2, d2, eL⟩
        have hi2 : io2[n]? = some a := by
          obtain ⟨l, el⟩ := e2.io
          rw [← el, List.getElem?_append_left (List.getElem?_eq_some_iff.mp hi).1]
          exact hi
        cases m with
        | zero => cases eL
        | succ m =>
          unfold compLive at eL
          cases eo : s2.ob[n]? with
          | none => rw [eo] at eL; cases eL
          | some o =>
            cases o with
            | dct xs => rw [eo] at eL; cases eL
            | mix xs => rw [eo] at eL; cases eL
            | ins c xs => rw [eo] at eL; cases eL
            | lst xs =>
              rw [eo] at eL
              simp only at eL
              obtain ⟨us, hu, hd⟩ := obl r2 hi2 eo
              have hlen := hd.length
              cases ex : xs[i]? with
              | none =>
                rw [ex] at eL
                left
                cases eL
                refine ⟨⟨us, SqL.of hu, ?_⟩, ?_⟩
                · rw [hlen]; exact List.getElem?_eq_none_iff.mp ex
                · exact p G2 io2 H2 (r2.backs r1 e2 hc k0 hxx.1) e2 _ (VT.backs (G1 := G1) (H1 := H1) (io1 := io1) r2 hc k0 d2)
              | some d =>
                rw [ex] at eL
                simp only at eL
                obtain ⟨v, hvi, dv⟩ := hd.get ex
                right
                refine ⟨⟨us, v, SqL.of hu, hvi⟩, Iv (i + 1) m, fun H' h' => ⟨m, Nat.lt_succ_self _, h'⟩, fun x H' y => ?_⟩
                obtain ⟨rfl, y2⟩ := y
                have := y2 us (SqL.of hu)
                rw [hvi] at this
                cases this
                cases eT : tgPut tg d s2 with
                | none => simp only [eT] at eL; cases eL
                | some s3 =>
                  simp only [eT] at eL
                  refine ⟨Z.hold D vs, rfl, rfl, hxx, G2, io2, s2, d, s3, r2, dv, eT, fun σ2 r4 b4 => ?_⟩
                  have hw : L2.wipe σ2 own = L2.wipe σ own := by
                    have w1 : L2.wipe σ2 own = L2.wipe (L2.wipe σ own) own := wipe_eq b4.len fun j hj => b4.eq j fun z => hj (hsl j z)
                    rw [w1]
                    exact wipe_eq (wipe_length σ own) fun j hj => wipe_in hj
                  refine ⟨hw, ?_⟩
                  have behind : ∀ (b : Bool) (s5 : S) (G5 : Hp) (io5 : List Addr) (H5 : Hp), SR (Z.hold D vs) G5 io5 σ2 s5 H5 → Ext G2 io2 G5 io5 → (match (R.ok b s5 : R Bool) with
                      | .ok true s2 => (match elt cs s2 with
                        | .ok v s3 => (match toD v with
                          | some y => if acc.length < big then compLive n tg own t elt cs m (i + 1) (acc ++ [y]) (s3.wipe own) else .no
                          | none => .no)
                        | _ => .no)
                      | .ok false s2 => compLive n tg own t elt cs m (i + 1) acc (s2.wipe own)
                      | _ => .no) = .ok accF sF → if b = true then anyV Z.K Z.cla cs elt σ2 H5 fun y H4 => ∃ acc, H4 D = some (.lst acc) ∧ acc.length < sizeLine ∧ Iv (i + 1) m (upd H4 D (.lst (acc ++ [y]))) else Iv (i + 1) m H5 := by
                    intro b s5 G5 io5 H5 r5 e25 eq
                    cases b with
                    | false =>
                      rw [if_neg (by decide)]
                      refine ⟨G5, io5, s5.wipe own, vs, acc, ?_, e2.trans e25, DRs.mono e25.g _ _ d2, eq⟩
                      rw [← hw]
                      exact r5.wiped hxx.1 own
                    | true =>
                      rw [if_pos rfl]
                      simp only at eq
                      cases eE : elt cs s5 with
                      | no => simp only [eE] at eq; cases eq
                      | ex x' s' => simp only [eE] at eq; cases eq
                      | ok v s6 =>
                        simp only [eE] at eq
                        cases eD : toD v with
                        | none => simp only [eD] at eq; cases eq
                        | some yd =>
                          simp only [eD] at eq
                          by_cases hb : acc.length < big
                          · rw [if_pos hb] at eq
                            refine ⟨Z.hold D vs, rfl, rfl, hxx, G5, io5, s5, r5, Aft.noX eE fun G6 io6 H6 r6 e6 w t6 => ?_⟩
                            obtain ⟨G7, g7, r7, t7⟩ := VT.toFrz r6 t6
                            obtain ⟨hD6, _⟩ := r7.kept D (.lst vs) upd_same
                            have e26 : Ext G2 io2 G7 io6 := e25.trans (e6.trans ⟨g7, List.prefix_rfl⟩)
                            have dy : DR Z.K G7 w yd := by
                              cases v with
                              | dat d => cases eD; exact t7.1
                              | own xs => cases eD; exact t7.1
                              | scr ns => cases eD
                              | obj n => cases eD
                              | exn n => cases eD
                            refine ⟨vs, hD6, by rw [big_eq, d2.length]; exact hb, G7, io6, s6.wipe own, vs ++ [w], acc ++ [yd], ?_, e2.trans e26, (DRs.mono e26.g _ _ d2).append (.cons dy .nil), eq⟩
                            rw [← hw]
                            exact (r7.wiped hxx.1 own).grows _
                          · rw [if_neg hb] at eq; cases eq
                  cases t with
                  | none => exact behind true s3 G2 io2 _ r4 (Ext.refl _ _) eL
                  | some f =>
                    simp only at eL
                    cases eB : f cs s3 with
                    | no => rw [eB] at eL; cases eL
                    | ex x' s' => rw [eB] at eL; cases eL
                    | ok b s5 =>
                      rw [eB] at eL
                      exact ⟨Z.hold D vs, rfl, rfl, hxx, G2, io2, s3, r4, Aft.noX eB fun G5 io5 H5 r5 e5 => behind b s5 G5 io5 H5 r5 e5 eL⟩
/-- a comprehension, a for, whatever is walked -/
def mCompX (src : Src) (tg : Tg) (own : List Nat) (t : Option (M Bool)) (elt : M Val) : M Val := match src with
  | .objl f => mCompO f tg own t elt
  | src => mComp src tg own t elt
def sForX (src : Src) (tg : Tg) (body : M Fl) : M Fl := match src with
  | .objl f => sForO f tg body
  | src => sFor src tg body
theorem den_compX {src : Src} {tg : Tg} {own : List Nat} {t : Option (M Bool)} {elt : M Val} {Q : VK} (hxx : Z.xs = none ∧ Z.xf = none) (h : denV Z cs (mCompX src tg own t elt) W σ H Q) :
    tLc (tSrc Z cs W src) (anyG Z.K Z.cla tg) (anyBo Z.K Z.cla cs t) (anyV Z.K Z.cla cs elt) own σ H Q := by
  cases src with
  | objl f => exact den_compO hxx h
  | seq f => exact den_comp hxx h
  | range1 f => exact den_comp hxx h
  | range2 f g => exact den_comp hxx h
  | range3 f g k => exact den_comp hxx h
  | enum f => exact den_comp hxx h
  | rev f => exact den_comp hxx h
  | zip f g => exact den_comp hxx h
theorem den_forX {src : Src} {tg : Tg} {body : M Fl} (h : denS Z cs (sForX src tg body) W D σ H) : tFor (tSrc Z cs W src) (denG Z tg) (denS Z cs body W) D σ H := by
  cases src with
  | objl f => exact den_forO h
  | seq f => exact den_for h
  | range1 f => exact den_for h
  | range2 f g => exact den_for h
  | range3 f g k => exact den_for h
  | enum f => exact den_for h
  | rev f => exact den_for h
  | zip f g => exact den_for h
end
end CH

/-! OB6: a list of the table changes. -/
namespace CH
open PySem L2
abbrev KO := List PyData → List Val → Option (PyData × List PyData)
def mObM (k : KO) (f : M Val) (es : List (M Val)) : M Val := fun cs s => (f cs s).bnd fun v s1 => match v with
  | .obj n => (match s1.ob[n]? with
    | some (.lst _) => (mArgs es cs s1).bnd fun vs s2 => (match s2.ob[n]? with
      | some (.lst xs) => (match k xs vs with
        | some (d, ys) => .ok (.dat d) { s2 with ob := s2.ob.set n (.lst ys) }
        | none => .no)
      | _ => .no)
    | _ => .no)
  | _ => .no
def oApp : KO
  | xs, [.dat d] => if xs.length < big then some (.none, xs ++ [d]) else none
  | _, _ => none
def oPop : KO
  | xs, [] => (match xs[xs.length - 1]? with
    | some d => some (d, xs.dropLast)
    | none => none)
  | _, _ => none
def oPop0 : KO
  | d :: xs, [.dat (.int 0)] => some (d, xs)
  | _, _ => none
section
variable {Z : Sur} {cs : Cs} {σ : St} {G H : Hp} {io : List Addr} {W : WX} {s : S}
theorem den_obM {k : KO} {f : M Val} {es : List (M Val)} {Q : VK} {rr : V → List V → Hp → VK → Prop}
    (hk : ∀ xs vs d ys, k xs vs = some (d, ys) → ∀ (G H : Hp) (io : List Addr) (a : Addr) (us ws : List V) (Q : VK), Sub G H → H a = some (.lst us) → DRs Z.K G us xs → VBs Z.K G H io ws vs → (∀ w us', DR Z.K G w d → DRs Z.K G us' ys → Q w (upd H a (.lst us'))) → rr (.ref a) ws H Q)
    (h : denV Z cs (mObM k f es) W σ H Q) : tBM Z.K "list" rr (denV Z cs f W) (denA Z cs (mArgs es) W) σ H Q := by
  obtain ⟨G, io, s, r, h⟩ := h
  refine denV.of r (Aft.bnd h) fun v G1 io1 s1 H1 r1 e1 p w t => ?_
  cases v with
  | dat d => exact p.elim
  | own d => exact p.elim
  | scr d => exact p.elim
  | exn d => exact p.elim
  | obj n =>
    simp only at p
    obtain ⟨a, rfl, hi⟩ := t.1
    cases eo : s1.ob[n]? with
    | none => rw [eo] at p; exact p.elim
    | some o =>
      cases o with
      | dct xs => rw [eo] at p; exact p.elim
      | mix xs => rw [eo] at p; exact p.elim
      | ins c xs => rw [eo] at p; exact p.elim
      | lst xs0 =>
        rw [eo] at p
        simp only at p
        obtain ⟨us0, hu0, _⟩ := obl r1 hi eo
        refine ⟨?_, ?_⟩
        · exact .inl ⟨rfl, us0, SqL.of hu0⟩
        refine ⟨G1, io1, s1, r1, (Aft.bnd p).mono fun vs G2 io2 s2 H2 r2 e2 p2 ws hw => ?_⟩
        have hi2 : io2[n]? = some a := by
          obtain ⟨l, el⟩ := e2.io
          rw [← el, List.getElem?_append_left (List.getElem?_eq_some_iff.mp hi).1]
          exact hi
        cases eo2 : s2.ob[n]? with
        | none => rw [eo2] at p2; exact p2.elim
        | some o2 =>
          cases o2 with
          | dct xs => rw [eo2] at p2; exact p2.elim
          | mix xs => rw [eo2] at p2; exact p2.elim
          | ins c xs => rw [eo2] at p2; exact p2.elim
          | lst xs =>
            rw [eo2] at p2
            simp only at p2
            obtain ⟨us, hu, hd⟩ := obl r2 hi2 eo2
            cases ek : k xs vs with
            | none => rw [ek] at p2; exact p2.elim
            | some q =>
              obtain ⟨d, ys⟩ := q
              rw [ek] at p2
              simp only at p2
              refine hk xs vs d ys ek G2 H2 io2 a us ws Q r2.sub hu hd hw fun w us' dw du => ?_
              exact p2 G2 io2 _ (r2.wr hi2 ⟨us', upd_same, du⟩ fun l z => by cases z) (Ext.refl _ _) w (.dat dw)
theorem k_app : ∀ xs vs d ys, oApp xs vs = some (d, ys) → ∀ (G H : Hp) (io : List Addr) (a : Addr) (us ws : List V) (Q : VK), Sub G H → H a = some (.lst us) → DRs Z.K G us xs → VBs Z.K G H io ws vs → (∀ w us', DR Z.K G w d → DRs Z.K G us' ys → Q w (upd H a (.lst us'))) → rAppend (.ref a) ws H Q := by
  intro xs vs d ys e G H io a us ws Q g hu hd hw q
  unfold oApp at e
  split at e
  · split at e
    · rename_i d' hz
      cases e
      obtain ⟨w, rfl, b⟩ := VBs.ones hw
      exact ⟨a, us, w, rfl, rfl, hu, by rw [big_eq, hd.length]; exact hz, q .non _ .non (hd.append (.cons b .nil))⟩
    · cases e
  · cases e
theorem k_pop : ∀ xs vs d ys, oPop xs vs = some (d, ys) → ∀ (G H : Hp) (io : List Addr) (a : Addr) (us ws : List V) (Q : VK), Sub G H → H a = some (.lst us) → DRs Z.K G us xs → VBs Z.K G H io ws vs → (∀ w us', DR Z.K G w d → DRs Z.K G us' ys → Q w (upd H a (.lst us'))) → rPop (.ref a) ws H Q := by
  intro xs vs d ys e G H io a us ws Q g hu hd hw q
  unfold oPop at e
  split at e
  · split at e
    · rename_i d' hz
      cases e
      obtain ⟨v, hv, dv⟩ := hd.get hz
      cases ws with
      | nil =>
        refine ⟨a, us, v, rfl, rfl, hu, by rw [hd.length]; exact hv, q v _ dv ?_⟩
        rw [List.dropLast_eq_take, List.dropLast_eq_take, hd.length]
        exact hd.take _
      | cons w ws => exact hw.elim
    · cases e
  · cases e
end
end CH

/-! OB7: len(o), str(o), o == x by the class's own defs. -/
namespace CH
open PySem PySem.Spec PyProof.Rows L2
section
variable {X : Cx} {k : Nat} {f C : Addr} {fd : FuncData} {ps : List Str} {sp : Sp}
theorem _root_.L2.Room.in2 {k : Nat} {A : Around} (r : Room (k + 1) A) : Room k A.in1.in1 := by
  refine ⟨r.hd, ?_, ?_⟩
  · have := r.dp
    simp only [Around.in1] at *
    omega
  · have := r.un
    simp only [Around.in1] at *
    omega
def noE : XK := fun _ _ _ => False
theorem run_own {A : Around} {pins : List (Addr × Obj)} {σ : L2.St} {H : Hp} {s : Shared} {Q : VK} {us : List Value} {vs : List V} (F : FnOk X.prog X.w X.K X.mg X.base (L2.CX X.prog X.w) k f fd ps sp) (hr : Room k A) (hfr : A.frames = X.A.frames) (hb : Binds X.K fd ps [])
    (I : Inv X pins σ H s) (r : Vals vs us) (h : sp vs H Q noE) : wpAny (model X.prog X.w) A (call (.ref f) us) (EP X pins σ Q) X.xe s := by
  have e0 : Env0 X.prog X.w X.K X.mg X.base A X.stack s H := by
    have e := I.env0
    exact ⟨by rw [hfr]; exact e.frames, e.mod, e.bs, e.bsz, e.funs, e.frf, e.hok, e.bare⟩
  have hl := F.len _ _ _ _ h
  refine wpAny_call (codeAny_mono (F.run A X.stack s H ⟨us, []⟩ us vs Q noE hr e0 (by
    have := hb s us I.kIn (by rw [List.append_nil, ← r.length]; exact hl)
    rw [List.append_nil] at this
    exact this) r h) fun r s' hq => ?_)
  match r, hq with
  | .error e, hq => exact passAt (W := fun _ _ _ _ => False) takes0 σ pins H s e s' I hq
  | .ok (.ret u), hq => exact I.after hq
  | .ok .next, hq => exact hq.elim
  | .ok .brk, hq => exact hq.elim
  | .ok .cont, hq => exact hq.elim
/-- an instance's own def, called by a built-in: it does not refuse -/
def rOwn (C : Addr) (sp : Sp) (ok : V → Prop) : List V → Hp → VK → Prop := fun xs H Q => ∃ a dx fs, xs = [.ref a] ∧ H a = some (.ins C dx fs) ∧ sp [.ref a] H (fun v H' => ok v ∧ Q v H') noE
def okLen (v : V) : Prop := ∃ i : Int, v = .int i ∧ 0 ≤ i ∧ i < 2 ^ 63
def okStr (v : V) : Prop := ∃ x : Str, v = .str x
def okBl (v : V) : Prop := ∃ b : Bool, v = .bl b
theorem call_lenO (M : Meth X.K C "__len__" f) (F : FnOk X.prog X.w X.K X.mg X.base (L2.CX X.prog X.w) k f fd ps sp) (hr : Room (k + 1) X.A) (hb : Binds X.K fd ps []) : CallR X (.builtin "len") (rOwn C sp okLen) := by
  intro pins s σ H xs us Q I rel want
  obtain ⟨a, dx, fs, rfl, ha, hsp⟩ := want
  obtain ⟨u, rfl, rx⟩ := vals1 rel
  obtain rfl : u = .ref a := rx
  obtain ⟨mA, J, _⟩ := ins_get I.hok ha
  obtain ⟨od, J, _⟩ := J.look
  refine Calls.call_function_entry kind_len plain_len entry_len (args_len1 _) ?_
  unfold Builtin.«len»
  refine wpAny_bind (m := oneArg "len" _) (wpAny_pure ?_)
  refine wpAny_bind (m := callSpecial? (.ref a) (PySem.Str.ofString "__len__")) (PySem.W.special_fn I.kIn J M.at_ (beq_iff_eq.mp M.fn) (wpAny_mono (run_own (A := X.A.in1) F hr.in1 rfl hb I (vs := [.ref a]) (.cons rfl .nil) hsp) (fun v s' hv => ?_) fun _ _ e => e))
  obtain ⟨w, H', I', rw_, ⟨i, rfl, h0, h1⟩, q⟩ := hv
  obtain ⟨t, rfl⟩ := rw_
  refine wpAny_bind (wpAny_holding (wpAny_pure ?_))
  refine wpAny_bind (wpAny_letGo ?_)
  show wpAny _ _ (if i < 0 then _ else _) _ _ _
  rw [if_neg (by omega)]
  show wpAny _ _ (if i ≥ 2 ^ 63 then _ else _) _ _ _
  rw [if_neg (by omega)]
  exact wpAny_bind (wpAny_mkInt (wpAny_pure ⟨_, rfl, .int i, H', I'.tok _, ⟨_, rfl⟩, q⟩))
theorem call_strO (M : Meth X.K C "__str__" f) (F : FnOk X.prog X.w X.K X.mg X.base (L2.CX X.prog X.w) k f fd ps sp) (hr : Room (k + 1) X.A) (hb : Binds X.K fd ps []) : CallR X (.type "str") (rOwn C sp okStr) := by
  intro pins s σ H xs us Q I rel want
  obtain ⟨a, dx, fs, rfl, ha, hsp⟩ := want
  obtain ⟨u, rfl, rx⟩ := vals1 rel
  obtain rfl : u = .ref a := rx
  obtain ⟨mA, J, _⟩ := ins_get I.hok ha
  obtain ⟨od, J, _⟩ := J.look
  have rm : Room k X.A.in1.in1 := hr.in2
  refine PySem.W.kso_call rm.units0 I.kIn J M.at_ M.fn (wpAny_mono (run_own (A := X.A.in1.in1) F rm rfl hb I (vs := [.ref a]) (.cons rfl .nil) hsp) (fun v s' hv => ?_) fun _ _ e => e)
  obtain ⟨w, H', I', rw_, ⟨x, rfl⟩, q⟩ := hv
  obtain ⟨t, rfl⟩ := rw_
  exact ⟨.str x, H', I', ⟨_, rfl⟩, q⟩
/-- what stands to the right of == : its type is no class below the left one's -/
def rOwn2 (K : PySem.W.Frag) (C : Addr) (sp : Sp) : R2 := fun x y H Q => ∃ a dx fs, x = .ref a ∧ H a = some (.ins C dx fs) ∧
  ((∃ b dy gs, y = .ref b ∧ H b = some (.ins C dy gs)) ∨ (∃ z, y = .str z) ∨ (∃ z, y = .int z) ∨ (∃ b zs, y = .ref b ∧ H b = some (.lst zs))) ∧
  sp [x, y] H (fun v H' => okBl v ∧ Q v H') noE
def lowB (K : PySem.W.Frag) (C : Addr) : Bool := PySem.W.notFirst K C (.type "str") && (PySem.W.notFirst K C (.type "int") && PySem.W.notFirst K C (.type "list"))
theorem op_eqO (M : Meth X.K C "__eq__" f) (hn : lowB X.K C = true) (F : FnOk X.prog X.w X.K X.mg X.base (L2.CX X.prog X.w) k f fd ps sp) (hr : Room k X.A) (hb : Binds X.K fd ps []) : OpR X (compareOp .Eq) (rOwn2 X.K C sp) := by
  intro pins s σ H x y v u Q I rx ry want
  obtain ⟨a, dx, fs, rfl, ha, hy, hsp⟩ := want
  cases rx
  obtain ⟨mA, J, _⟩ := ins_get I.hok ha
  obtain ⟨od, J, _⟩ := J.look
  obtain ⟨m, hF⟩ := I.fr
  unfold lowB at hn
  rw [Bool.and_eq_true, Bool.and_eq_true] at hn
  obtain ⟨n1, n2, n3⟩ := hn
  have ht : ∃ tb, PySem.W.Looks (model X.prog X.w) s.heap (typeOf u) tb ∧ PySem.W.notFirst X.K C tb = true := by
    rcases hy with ⟨b, dy, gs, rfl, hb'⟩ | ⟨z, rfl⟩ | ⟨z, rfl⟩ | ⟨b, zs, rfl, hb'⟩
    · cases ry
      obtain ⟨mB, J', _⟩ := ins_get I.hok hb'
      obtain ⟨od', J', _⟩ := J'.look
      exact ⟨.ref C, J'.type, by simp [PySem.W.notFirst]⟩
    · obtain ⟨t, rfl⟩ := ry
      exact ⟨.type "str", .now, n1⟩
    · obtain ⟨t, rfl⟩ := ry
      exact ⟨.type "int", .now, n2⟩
    · cases ry
      obtain ⟨_, its, n, _, _, e⟩ := I.lstM hb'
      exact ⟨.type "list", (PySem.W.Looks.ld (part := none) e).andThen .now, n3⟩
  obtain ⟨tb, l1, l2⟩ := ht
  show wpAny (model X.prog X.w) X.A (richCompare .Eq (.ref a) u) (EP X pins σ Q) X.xe s
  refine PySem.W.cmp_K (op := .Eq) (tb := tb) hr.units0 hF I.ok.mod.kin J l1 l2 M.at_ M.fn (wpAny_mono (run_own (A := X.A) F hr rfl hb I (vs := [.ref a, y]) (.cons rfl (.cons ry .nil)) hsp) (fun v s' hv => ?_) fun _ _ e => e)
  obtain ⟨w, H', I', rw_, ⟨b, rfl⟩, q⟩ := hv
  cases rw_
  exact ⟨.bl b, H', I', rfl, q⟩
theorem low_ok (K : PySem.W.Frag) (C : Addr) : lowB K C = true := by
  unfold lowB PySem.W.notFirst PySem.W.subIn
  simp only [Bool.and_eq_true, Bool.or_eq_true]
  refine ⟨.inr ?_, .inr ?_, .inr ?_⟩ <;> rfl
end
end CH

/-! OB8: lists that hold objects; fresh lists made objects; own len and str. -/
namespace CH
open PySem PySem.Spec PyProof.Rows L2
theorem VBs.zip {K : PySem.W.Frag} {G H : Hp} {io : List Addr} : ∀ {ws : List V} {vs : List Val}, VBs K G H io ws vs → ∀ p ∈ ws.zip vs, VB K G H io p.1 p.2 ∧ ∀ xs, p.2 ≠ .own xs
  | [], [], _, p, hp => by simp at hp
  | w :: ws, v :: vs, h, p, hp => by
    rw [List.zip_cons_cons] at hp
    rcases List.mem_cons.mp hp with z | z
    · rw [z]; exact h.1
    · exact VBs.zip h.2 p z
  | [], _ :: _, h, _, _ => h.elim
  | _ :: _, [], h, _, _ => h.elim
/-- [a, b, ..], some of them objects: an object -/
def mMix (es : List (M Val)) : M Val := fun cs s => (mArgs es cs s).bnd fun vs s1 => .ok (.obj s1.ob.length) { s1 with ob := s1.ob ++ [.mix vs] }
/-- a fresh list becomes an object -/
def mToO (f : M Val) : M Val := fun cs s => (f cs s).bnd fun v s1 => .ok (toO v s1).1 (toO v s1).2
/-- what an object, looked at through and through, is -/
def res1 (ob : List Ob) : Val → Option PyData
  | .dat d => some d
  | .own xs => some (.list xs)
  | .obj n => (match ob[n]? with
    | some (.lst xs) => some (.list xs)
    | _ => none)
  | _ => none
def resA (ob : List Ob) : List Val → Option (List PyData)
  | [] => some []
  | v :: vs => (match res1 ob v, resA ob vs with
    | some d, some ds => some (d :: ds)
    | _, _ => none)
def resD (ob : List Ob) : Val → Option PyData
  | .obj n => (match ob[n]? with
    | some (.mix vs) => (match resA ob vs with
      | some ds => some (.list ds)
      | none => none)
    | _ => res1 ob (.obj n))
  | v => res1 ob v
def eqM (cs : Cs) (ob : List Ob) (neg : Bool) (a b : Val) : Option Bool := match resD ob a, resD ob b with
  | some d, some e => if min d.depth e.depth ≤ rm cs then some (PyData.eqv d e != neg) else none
  | _, _ => none
/-- a == b, a != b, with lists that hold objects -/
def mEqM (neg : Bool) (a b : Opd) : M Val := fun cs s => ev2 a b (fun x y s1 => giv s1 (bV (eqM cs s1.ob neg x y))) cs s
/-- xs[i], a list that holds objects -/
def mIdxM (a b : Opd) : M Val := fun cs s => ev2 a b (fun x y s1 => match x, y with
  | .obj n, .dat (.int i) => (match s1.ob[n]? with
    | some (.mix vs) => giv s1 (atI vs i)
    | _ => .no)
  | _, _ => .no) cs s
def kLen : Val → Bool
  | .dat (.int i) => decide (0 ≤ i ∧ i < 1000000000)
  | _ => false
def kStr : Val → Bool
  | .dat (.str _) => true
  | _ => false
/-- len(o), str(o) by the class's own def -/
def mOwn (c : Str) (id : Nat) (ok : Val → Bool) (f : M Val) : M Val := fun cs s => if 1 ≤ cs.lv then ((f cs s).bnd fun v s1 => match v with
  | .obj n => (match s1.ob[n]? with
    | some (.ins c' _) => if c' = c then (match cs.low id [.obj n] s1.ob with
      | .ok u ob => if ok u = true then .ok u { s1 with ob := ob } else .no
      | _ => .no) else .no
    | _ => .no)
  | _ => .no) else .no
def oClr : KO
  | _, [] => some (.none, [])
  | _, _ => none
section
variable {Z : Sur} {cs : Cs} {σ : L2.St} {G H : Hp} {io : List Addr} {W : WX} {s : S}
theorem SR.objM {p : Addr} {ws : List V} {us : List Val} (r : SR Z G io σ s H) (hp : H p = none) (hb : VBs Z.K G H io ws us) : SR Z G (io ++ [p]) σ { s with ob := s.ob ++ [.mix us] } (upd H p (.lst ws)) := by
  refine (r.new hp (.lst ws)).addO (r.gnone hp) (r.h0none hp) (r.knone hp) (r.ionone hp) (by rw [upd_same]; rfl) (r.noslot hp) ?_
  refine ⟨ws, upd_same, VBs.length hb, fun q hq => ?_⟩
  obtain ⟨h1, h2⟩ := VBs.zip hb q hq
  exact ⟨VB.up h1 h2 ⟨Sub.refl _, List.prefix_append _ _⟩, h2⟩
theorem den_mix {fs : List (M Val)} {Q : VK} (hl : fs.length ≤ big) (h : denV Z cs (mMix fs) W σ H Q) : tLst (denA Z cs (mArgs fs) W) σ H Q := by
  obtain ⟨G, io, s, r, h⟩ := h
  have hl' : fs.length ≤ sizeLine := by rw [sizeLine_eq]; exact hl
  refine ⟨G, io, s, r, ?_⟩
  have h1 := Aft.bnd h
  cases e : mArgs fs cs s with
  | no => rw [e] at h1; exact h1.elim
  | ex x s' => rw [e] at h1; exact h1
  | ok vs s' =>
    rw [e] at h1
    intro G' io' H' r' e' ws hw
    have h2 := h1 G' io' H' r' e'
    refine ⟨by rw [VBs.length hw, mArgs_len e]; exact hl', fun p hp => ?_⟩
    refine h2 _ (io' ++ [p]) _ (r'.objM hp hw) ⟨Sub.refl _, List.prefix_append _ _⟩ _ ⟨⟨p, rfl, ?_⟩, fun _ _ z => by cases z⟩
    rw [← r'.ol, List.getElem?_append_right (Nat.le_refl _)]
    simp
theorem den_toO {f : M Val} {Q : VK} (h : denV Z cs (mToO f) W σ H Q) : denV Z cs f W σ H Q := by
  obtain ⟨G, io, s, r, h⟩ := h
  refine denV.of r (Aft.bnd h) fun v G1 io1 s1 H1 r1 e1 p w t => ?_
  obtain ⟨io2, r2, i2, b2, n2⟩ := toO_ok r1 t
  exact p G1 io2 H1 r2 ⟨Sub.refl _, i2⟩ w ⟨b2, fun xs _ z _ => absurd z (n2 xs)⟩
theorem res1_ok {w : V} {v : Val} {d : PyData} (r : SR Z G io σ s H) (b : VB Z.K G H io w v) (e : res1 s.ob v = some d) : DR Z.K H w d := by
  cases v with
  | dat d' => cases e; exact DR.mono r.sub _ _ b
  | own xs => cases e; obtain ⟨a, vs, rfl, h1, h2⟩ := b; exact .lst h1 (DRs.mono r.sub _ _ h2)
  | scr ns => cases e
  | exn n => cases e
  | obj n =>
    obtain ⟨a, rfl, hi⟩ := b
    have e : (match s.ob[n]? with | some (.lst xs) => some (PyData.list xs) | _ => none) = some d := e
    cases eo : s.ob[n]? with
    | none => rw [eo] at e; cases e
    | some o =>
      rw [eo] at e
      cases o with
      | lst xs => cases e; obtain ⟨vs, h1, h2⟩ := r.ob n a _ hi eo; exact .lst h1 (DRs.mono r.sub _ _ h2)
      | dct xs => cases e
      | ins c xs => cases e
      | mix xs => cases e
theorem resA_ok (r : SR Z G io σ s H) : ∀ {ws : List V} {vs : List Val} {ds : List PyData}, ws.length = vs.length → (∀ p ∈ ws.zip vs, VB Z.K G H io p.1 p.2) → resA s.ob vs = some ds → DRs Z.K H ws ds
  | [], [], ds, _, _, e => by cases e; exact .nil
  | w :: ws, v :: vs, ds, hl, hb, e => by
    unfold resA at e
    cases e1 : res1 s.ob v with
    | none => rw [e1] at e; cases e
    | some d =>
      cases e2 : resA s.ob vs with
      | none => rw [e1, e2] at e; cases e
      | some ds' =>
        rw [e1, e2] at e
        cases e
        exact .cons (res1_ok r (hb (w, v) (by simp)) e1) (resA_ok r (by simpa using hl) (fun p hp => hb p (by rw [List.zip_cons_cons]; exact List.mem_cons_of_mem _ hp)) e2)
  | [], _ :: _, _, hl, _, _ => by simp at hl
  | _ :: _, [], _, hl, _, _ => by simp at hl
theorem resD_ok {w : V} {v : Val} {d : PyData} (r : SR Z G io σ s H) (b : VB Z.K G H io w v) (e : resD s.ob v = some d) : DR Z.K H w d := by
  cases v with
  | dat d' => exact res1_ok r b e
  | own xs => exact res1_ok r b e
  | scr ns => exact res1_ok r b e
  | exn n => exact res1_ok r b e
  | obj n =>
    cases eo : s.ob[n]? with
    | none =>
      unfold resD at e
      simp only [eo] at e
      exact res1_ok r b e
    | some o =>
      unfold resD at e
      simp only [eo] at e
      cases o with
      | lst xs => exact res1_ok r b e
      | dct xs => exact res1_ok r b e
      | ins c xs => exact res1_ok r b e
      | mix us =>
        simp only at e
        obtain ⟨a, rfl, hi⟩ := b
        obtain ⟨ws, h1, h2, h3⟩ := r.ob n a _ hi eo
        cases e2 : resA s.ob us with
        | none => rw [e2] at e; cases e
        | some ds =>
          rw [e2] at e
          cases e
          exact .lst h1 (resA_ok r h2 (fun p hp => (h3 p hp).1) e2)
/-- == of two things that are data as they stand now -/
def rEqM (K : PySem.W.Frag) (m : Nat) (neg : Bool) : R2 := fun x y H Q => ∃ d e, DR K H x d ∧ DR K H y e ∧ min d.depth e.depth ≤ m ∧ Q (.bl (PyData.eqv d e != neg)) H
theorem opv_eqM {X : Cx} {m : Nat} (hu : X.A.units + m < cLine) : OpR X (compareOp .Eq) (rEqM X.K m false) ∧ OpR X (compareOp .NotEq) (rEqM X.K m true) := by
  constructor
  · intro pins s σ H x y v u Q I rx ry ⟨d, e, hx, hy, hz, q⟩
    obtain ⟨as, r1⟩ := Dp.reads I _ x v (DR.dp _ _ hx) rx
    obtain ⟨bs, r2⟩ := Dp.reads I _ y u (DR.dp _ _ hy) ry
    have q : Q (.bl (PyData.eqv d e)) H := by simpa using q
    exact SeqAt.compareEq_reads r1 r2 (DR.lay _ _ hx) (DR.lay _ _ hy) (by omega) ⟨.bl _, H, I, rfl, q⟩
  · intro pins s σ H x y v u Q I rx ry ⟨d, e, hx, hy, hz, q⟩
    obtain ⟨as, r1⟩ := Dp.reads I _ x v (DR.dp _ _ hx) rx
    obtain ⟨bs, r2⟩ := Dp.reads I _ y u (DR.dp _ _ hy) ry
    have q : Q (.bl (!PyData.eqv d e)) H := by
      have : (PyData.eqv d e != true) = !PyData.eqv d e := by cases PyData.eqv d e <;> rfl
      rw [this] at q; exact q
    exact SeqAt.compareNe_reads r1 r2 (DR.lay _ _ hx) (DR.lay _ _ hy) (by omega) ⟨.bl _, H, I, rfl, q⟩
theorem den_eqM {neg : Bool} {a b : Opd} {Q : VK} (h : denV Z cs (mEqM neg a b) W σ H Q) : tOpd Z cs W a σ H fun x H1 => tOpd Z cs W b σ H1 fun y H2 => rEqM Z.K (rm cs) neg x y H2 Q := by
  obtain ⟨G, io, s, r, h⟩ := h
  have h2 := opd2 r h
  refine tOpd.mono (fun w H1 q => ?_) h2
  refine tOpd.mono (fun w' H2 q => ?_) q
  obtain ⟨v, v', G2, io2, s2, r2, e2, b1, b2, p⟩ := q
  cases e : eqM cs s2.ob neg v v' with
  | none => rw [e] at p; exact p.elim
  | some k =>
    rw [e] at p
    unfold eqM at e
    cases e1 : resD s2.ob v with
    | none => rw [e1] at e; cases e
    | some d =>
      cases e3 : resD s2.ob v' with
      | none => rw [e1, e3] at e; cases e
      | some d' =>
        rw [e1, e3] at e
        simp only at e
        by_cases hz : min d.depth d'.depth ≤ rm cs
        · rw [if_pos hz] at e
          cases e
          exact ⟨d, d', resD_ok r2 b1 e1, resD_ok r2 b2 e3, hz, p G2 io2 H2 r2 (Ext.refl _ _) _ (.dat (.bl _))⟩
        · rw [if_neg hz] at e; cases e
theorem k_clr : ∀ xs vs d ys, oClr xs vs = some (d, ys) → ∀ (G H : Hp) (io : List Addr) (a : Addr) (us ws : List V) (Q : VK), Sub G H → H a = some (.lst us) → DRs Z.K G us xs → VBs Z.K G H io ws vs → (∀ w us', DR Z.K G w d → DRs Z.K G us' ys → Q w (upd H a (.lst us'))) → rClear (.ref a) ws H Q := by
  intro xs vs d ys e G H io a us ws Q g hu hd hw q
  cases vs with
  | nil =>
    cases e
    cases ws with
    | nil => exact ⟨a, us, rfl, rfl, hu, q .non _ .non .nil⟩
    | cons w ws => exact hw.elim
  | cons v vs => cases e
theorem den_ownO {c : Str} {id : Nat} {ok : Val → Bool} {f : M Val} {C : Addr} {okV : V → Prop} {Q : VK} (hc : He.ga Z.K c = C) (lk : ∀ {G H : Hp} {io : List Addr} {w : V} {u : Val}, VB Z.K G H io w u → ok u = true → okV w)
    (h : denV Z cs (mOwn c id ok f) W σ H Q) : denV Z cs f W σ H fun w H1 => rOwn C (spOf Z.K Z.cla 1 (cs.low id)) okV [w] H1 Q := by
  obtain ⟨G, io, s, r, h⟩ := h
  unfold mOwn at h
  by_cases hl : 1 ≤ cs.lv
  rotate_left
  · rw [if_neg hl] at h; exact h.elim
  rw [if_pos hl] at h
  refine denV.of r (Aft.bnd h) fun v G1 io1 s1 H1 r1 e1 p w t => ?_
  cases v with
  | dat d => exact p.elim
  | own d => exact p.elim
  | scr d => exact p.elim
  | exn d => exact p.elim
  | obj n =>
    simp only at p
    obtain ⟨a, rfl, hi⟩ := t.1
    cases eo : s1.ob[n]? with
    | none => rw [eo] at p; exact p.elim
    | some o =>
      rw [eo] at p
      cases o with
      | lst xs => exact p.elim
      | dct xs => exact p.elim
      | mix xs => exact p.elim
      | ins c' fs =>
        simp only at p
        by_cases hh : c' = c
        · rw [if_pos hh] at p
          subst hh
          obtain ⟨C', dx, gs, h0, h1, h2, h3⟩ := r1.ob n a _ hi eo
          rw [hc] at h0
          subst h0
          refine ⟨a, dx, gs, rfl, h1, G1, io1, [.obj n], s1.ob, rfl, r1.callIn, ⟨⟨⟨a, rfl, hi⟩, fun _ z => by cases z⟩, trivial⟩, ?_⟩
          cases q : cs.low id [.obj n] s1.ob with
          | no => rw [q] at p; exact p.elim
          | ex e ob => rw [q] at p; exact p.elim
          | ok u ob =>
            rw [q] at p
            simp only at p
            by_cases ho : ok u = true
            · rw [if_pos ho] at p
              intro w' G' io' H' r' e' t'
              exact ⟨lk t'.1 ho, p G' io' H' (r1.callOut r' e') e' w' (VT.callOut r1 r' t')⟩
            · rw [if_neg ho] at p; exact p.elim
        · rw [if_neg hh] at p; exact p.elim
theorem lk_len {G H : Hp} {io : List Addr} {w : V} {u : Val} (b : VB Z.K G H io w u) (h : kLen u = true) : okLen w := by
  cases u with
  | dat d =>
    cases d with
    | int i =>
      cases DR.int_ b
      have h : 0 ≤ i ∧ i < 1000000000 := of_decide_eq_true h
      exact ⟨i, rfl, h.1, by omega⟩
    | none => cases h
    | bool d => cases h
    | str d => cases h
    | list d => cases h
    | tuple d => cases h
    | dict d => cases h
  | own d => cases h
  | scr d => cases h
  | obj d => cases h
  | exn d => cases h
theorem lk_str {G H : Hp} {io : List Addr} {w : V} {u : Val} (b : VB Z.K G H io w u) (h : kStr u = true) : okStr w := by
  cases u with
  | dat d =>
    cases d with
    | str x => obtain ⟨rfl, _⟩ := DR.str_ b; exact ⟨x, rfl⟩
    | none => cases h
    | bool d => cases h
    | int d => cases h
    | list d => cases h
    | tuple d => cases h
    | dict d => cases h
  | own d => cases h
  | scr d => cases h
  | obj d => cases h
  | exn d => cases h
theorem den_idxM {a b : Opd} {Q : VK} (h : denV Z cs (mIdxM a b) W σ H Q) : tOp (fun x y H Q => ∃ (a : Addr) (ws : List V) (i : Int) (w : V), x = .ref a ∧ y = .int i ∧ H a = some (.lst ws) ∧ atI ws i = some w ∧ Q w H) (tOpd Z cs W a) (tOpd Z cs W b) σ H Q := by
  obtain ⟨G, io, s, r, h⟩ := h
  have h2 := opd2 r h
  refine tOpd.mono (fun w H1 q => ?_) h2
  refine tOpd.mono (fun w' H2 q => ?_) q
  obtain ⟨v, v', G2, io2, s2, r2, e2, b1, b2, p⟩ := q
  cases v with
  | dat d => exact p.elim
  | own d => exact p.elim
  | scr d => exact p.elim
  | exn d => exact p.elim
  | obj n =>
    cases v' with
    | own d => exact p.elim
    | scr d => exact p.elim
    | exn d => exact p.elim
    | obj d => exact p.elim
    | dat d =>
      cases d with
      | none => exact p.elim
      | bool d => exact p.elim
      | str d => exact p.elim
      | list d => exact p.elim
      | tuple d => exact p.elim
      | dict d => exact p.elim
      | int i =>
        simp only at p
        cases DR.int_ b2
        obtain ⟨a, rfl, hi⟩ := b1
        cases eo : s2.ob[n]? with
        | none => rw [eo] at p; exact p.elim
        | some o =>
          rw [eo] at p
          cases o with
          | lst xs => exact p.elim
          | dct xs => exact p.elim
          | ins c xs => exact p.elim
          | mix us =>
            simp only at p
            obtain ⟨ws, h1, h2, h3⟩ := r2.ob n a _ hi eo
            cases ea : atI us i with
            | none => rw [ea] at p; exact p.elim
            | some u =>
              rw [ea] at p
              have hz : atI (ws.zip us) i = some ((atI (ws.zip us) i).getD (.non, u)) ∧ ((atI (ws.zip us) i).getD (.non, u)).2 = u ∧ atI ws i = some ((atI (ws.zip us) i).getD (.non, u)).1 := by
                have e1 : (ws.zip us).map (·.2) = us := by rw [List.map_snd_zip]; omega
                have e3 : (ws.zip us).map (·.1) = ws := by rw [List.map_fst_zip]; omega
                have q1 : (atI (ws.zip us) i).map (·.2) = some u := by rw [← atI_map, e1]; exact ea
                have q3 : (atI (ws.zip us) i).map (·.1) = atI ws i := by rw [← atI_map, e3]
                cases ez : atI (ws.zip us) i with
                | none => rw [ez] at q1; cases q1
                | some q =>
                  rw [ez] at q1 q3
                  exact ⟨rfl, Option.some.inj q1, q3.symm⟩
              obtain ⟨z1, z2, z3⟩ := hz
              obtain ⟨b3, b4⟩ := h3 _ (atI_mem z1)
              rw [z2] at b3 b4
              exact ⟨a, ws, i, _, rfl, rfl, h1, z3, p G2 io2 H2 r2 (Ext.refl _ _) _ ⟨b3, fun xs _ z _ => absurd z (b4 xs)⟩⟩
theorem ixM {X : Cx} : IxR X (fun x y H Q => ∃ (a : Addr) (ws : List V) (i : Int) (w : V), x = .ref a ∧ y = .int i ∧ H a = some (.lst ws) ∧ atI ws i = some w ∧ Q w H) := by
  intro value slice pins s σ H x y v u Q I rx ry hh hs
  obtain ⟨a, ws, i, w, rfl, rfl, h1, h2, q⟩ := hh
  exact ix_list value slice pins s σ H _ _ v u Q I rx ry ⟨a, ws, i, w, rfl, rfl, SqL.of h1, h2, q⟩ hs
end
end CH

/-! OB9: sorted(xs, key=f), f a def that tells texts. -/
namespace CH
open PySem PySem.Spec PyProof.Rows L2
section
variable {X : Cx} {pins : List (Addr × Obj)} {σ : L2.St} {H : Hp} {s : Shared} {h' : Heap}
/-- an untracked record of ours becomes a tracked object -/
theorem adopt {t' : Nat} {a : Addr} {o : HO} (I : Inv X pins σ H s) (k : ∀ b u, b ≠ a → s.heap.get? b = some u → h'.get? b = some u) (hn : H a = none) (hL : a ≠ X.env.locals) (h1 : a ∈ X.ex ∨ X.s_0.heap.objs.size ≤ a)
    (h2 : ∀ x c, X.env.cells.lookup x = some c → c ≠ a) (h3 : ∀ p ∈ X.pn ++ pins, p.1 ≠ a) (new : ObjOk X.prog X.w (upd H a o) h' a o) : Inv X pins σ (upd H a o) { s with heap := h', toks := t' } := by
  have nit : ∀ b u, H b = some u → b ≠ a := fun b u e z => by rw [z, hn] at e; cases e
  refine I.step (g' := s.gens) (d' := s.drawn) (ch := [a]) (fun b hb => ?_) (fun b o _ _ hc e _ => k b o (fun z => hc (by simp [z])) e) (fun b o _ _ hc e _ => ⟨o.slots, k b o (fun z => hc (by simp [z])) e⟩)
    (fun b o hc e n => by rw [upd_ne (fun z => hc (by simp [z]))]; exact n)
    (fun b o hc e => ⟨o, k b o (fun z => hc (by simp [z])) e⟩) (fun b xs e => by rw [upd_ne (nit b _ e)]; exact e) (fun b o u e => by rw [upd_ne (nit b _ e)]; exact e) (fun b ps e => ⟨#[], by rw [upd_ne (nit b _ e), e]; simp⟩) (fun m hm => ?_) (fun b u e => ?_) I.bare
  · have e : b = a := by simpa using hb
    subst e
    exact ⟨h1, hL, h2, h3⟩
  · obtain ⟨o, es, ep, ho, r⟩ := hm
    exact ⟨o, es, ep, k _ o (Ne.symm hL) ho, r⟩
  · by_cases hb : b = a
    · subst hb; rw [upd_same] at e; cases e; exact new
    · rw [upd_ne hb] at e
      refine (I.hok b u e).stay (fun c v hc q => k c v ?_ q) (fun c q => by rw [upd_ne (nit c _ q)]; exact q) fun c xs q => by rw [upd_ne (nit c _ q)]; exact q
      rcases hc with z | z
      · rw [z]; exact hb
      · exact nit c _ z
end
section
variable {X : Cx} {k : Nat} {f : Addr} {fd : FuncData} {ps : List Str} {sp : Sp}
theorem run_own0 {A : Around} {pins : List (Addr × Obj)} {σ : L2.St} {H : Hp} {s : Shared} {Q : VK} {us : List Value} {vs : List V} (F : FnOk X.prog X.w X.K X.mg X.base (L2.CX X.prog X.w) k f fd ps sp) (hr : Room k A) (hfr : A.frames = X.A.frames) (hb : Binds X.K fd ps [])
    (I : Inv X pins σ H s) (r : Vals vs us) (h : sp vs H Q noE) : wpAny (model X.prog X.w) A (call (.ref f) us) (EP X pins σ Q) (fun _ _ => False) s := by
  have e0 : Env0 X.prog X.w X.K X.mg X.base A X.stack s H := by
    have e := I.env0
    exact ⟨by rw [hfr]; exact e.frames, e.mod, e.bs, e.bsz, e.funs, e.frf, e.hok, e.bare⟩
  have hl := F.len _ _ _ _ h
  refine wpAny_call (codeAny_mono (F.run A X.stack s H ⟨us, []⟩ us vs Q noE hr e0 (by
    have := hb s us I.kIn (by rw [List.append_nil, ← r.length]; exact hl)
    rw [List.append_nil] at this
    exact this) r h) fun r s' hq => ?_)
  match r, hq with
  | .error e, hq => obtain ⟨_, _, _, _, _, _, _, _, _, _, _, _, z⟩ := hq; exact z.elim
  | .ok (.ret u), hq => exact I.after hq
  | .ok .next, hq => exact hq.elim
  | .ok .brk, hq => exact hq.elim
  | .ok .cont, hq => exact hq.elim
/-- out is ys, sorted by the keys -/
def SortsK (ks : List Str) (ys out : List V) : Prop := ∃ ps : List (Str × V), ps.Perm (ks.zip ys) ∧ out = ps.map (·.2) ∧ ps.Pairwise (fun p q => ¬ q.1.cps.toList < p.1.cps.toList)
/-- a place of the sort's own -/
structure Mine0 (X : Cx) (H : Hp) (a : Addr) : Prop where
  h : H a = none
  l : a ≠ X.env.locals
  f : a ∉ X.fs
  s : X.s_0.heap.objs.size ≤ a
  c : ∀ x c, X.env.cells.lookup x = some c → c ≠ a
  p : ∀ p ∈ X.pn, p.1 ≠ a
theorem strs_snoc {x : Str} {t : Tok} : ∀ {vs : List Value} {xs : List Str}, StrsAre vs xs → StrsAre (vs ++ [.str x t]) (xs ++ [x])
  | _, _, .nil => .cons x t .nil
  | _, _, .cons y u h => .cons y u (strs_snoc h)
theorem strs_len9 : ∀ {vs : List Value} {xs : List Str}, StrsAre vs xs → vs.length = xs.length
  | _, _, .nil => rfl
  | _, _, .cons _ _ h => congrArg (· + 1) (strs_len9 h)
theorem strs_at_ : ∀ {vs : List Value} {xs : List Str} {i : Nat} {v : Value}, StrsAre vs xs → vs[i]? = some v → ∃ x t, xs[i]? = some x ∧ v = .str x t
  | _, _, i, _, .nil, e => by simp at e
  | _, _, 0, _, .cons y u h, e => by simp at e; exact ⟨y, u, rfl, e.symm⟩
  | _, _, i + 1, _, .cons y u h, e => by
    obtain ⟨x, t, h1, h2⟩ := strs_at_ (i := i) h (by simpa using e)
    exact ⟨x, t, by simpa using h1, h2⟩
/-- what the runs leave, by keys and values -/
theorem out_keys {keys : Array Value} {its : List Value} {ys : List V} {ks : List Str} (hk : StrsAre keys.toList ks) (rel : Vals ys its) (hl : ks.length = ys.length) {arr : Array Keyed} (hp : arr.Perm (keys.zip its.toArray)) (hs : SortedToK strKind arr arr.size) :
    ∃ out, SortsK ks ys out ∧ Vals out (arr.map (·.2)).toList := by
  -- triples: key, value of the abstract heap, value
  have hll := strs_len9 hk
  have hrl := rel.length
  have hks : keys.size = ks.length := by rw [← hll]; simp
  have hzl : (keys.zip its.toArray).toList = keys.toList.zip its := by simp
  have h1 : arr.toList.Perm (keys.toList.zip its) := by rw [← hzl]; exact Array.perm_iff_toList_perm.mp hp
  -- each pair of the runs stands at some place
  let g : Str × V × Value × Value → Keyed := fun t => (t.2.2.1, t.2.2.2)
  let ts : List (Str × V × Value × Value) := ks.zip (ys.zip (keys.toList.zip its))
  have hg : ts.map g = keys.toList.zip its := by
    show (ks.zip (ys.zip (keys.toList.zip its))).map (fun t => (t.2.2.1, t.2.2.2)) = _
    have e1 : (ks.zip (ys.zip (keys.toList.zip its))).map (fun t => (t.2.2.1, t.2.2.2)) = ((ks.zip (ys.zip (keys.toList.zip its))).map (·.2)).map fun t => (t.2.1, t.2.2) := by rw [List.map_map]; rfl
    rw [e1, List.map_snd_zip (by simp; omega)]
    have e2 : (ys.zip (keys.toList.zip its)).map (fun t => (t.2.1, t.2.2)) = (ys.zip (keys.toList.zip its)).map (·.2) := rfl
    rw [e2, List.map_snd_zip (by simp; omega)]
  have lift : ∀ (l : List Keyed) (m : List (Str × V × Value × Value)), l.Perm (m.map g) → ∃ l' : List (Str × V × Value × Value), l'.Perm m ∧ l'.map g = l := by
    intro l m h
    generalize hm : m.map g = r at h
    induction h generalizing m with
    | nil => exact ⟨[], by simpa using hm, rfl⟩
    | cons x h ih =>
      cases m with
      | nil => cases hm
      | cons y m =>
        simp only [List.map_cons, List.cons.injEq] at hm
        obtain ⟨l', p1, p2⟩ := ih m hm.2
        exact ⟨y :: l', p1.cons y, by rw [List.map_cons, p2, hm.1]⟩
    | swap x y l =>
      cases m with
      | nil => cases hm
      | cons u m =>
        cases m with
        | nil => simp at hm
        | cons v m =>
          simp only [List.map_cons, List.cons.injEq] at hm
          exact ⟨v :: u :: m, List.Perm.swap _ _ _, by simp [hm.1, hm.2.1, hm.2.2]⟩
    | trans h1 h2 ih1 ih2 =>
      obtain ⟨l', p1, p2⟩ := ih2 m hm
      obtain ⟨l'', q1, q2⟩ := ih1 l' p2
      exact ⟨l'', q1.trans p1, q2⟩
  obtain ⟨ts', p1, p2⟩ := lift arr.toList ts (by rw [hg]; exact h1)
  -- what each triple says
  have say : ∀ t ∈ ts, (∃ u, t.2.2.1 = .str t.1 u) ∧ RelV t.2.1 t.2.2.2 := by
    intro t ht
    obtain ⟨i, hi⟩ := List.getElem?_of_mem ht
    have hi : (ks.zip (ys.zip (keys.toList.zip its)))[i]? = some t := hi
    simp only [List.getElem?_zip_eq_some] at hi
    obtain ⟨a1, a2, a3, a4⟩ := hi
    obtain ⟨x, u, b1, b2⟩ := strs_at_ hk a3
    rw [a1] at b1
    cases b1
    refine ⟨⟨u, b2⟩, ?_⟩
    obtain ⟨w, c1, c2⟩ := rel.get a2
    rw [a4] at c1
    cases c1
    exact c2
  refine ⟨ts'.map (·.2.1), ⟨ts'.map fun t => (t.1, t.2.1), ?_, by rw [List.map_map]; rfl, ?_⟩, ?_⟩
  · have q := p1.map fun t => (t.1, t.2.1)
    have e : ts.map (fun t => (t.1, t.2.1)) = ks.zip ys := by
      show (ks.zip (ys.zip (keys.toList.zip its))).map (fun t => (t.1, t.2.1)) = _
      have e0 : ∀ (as : List Str) (bs : List (V × Value × Value)), (as.zip bs).map (fun t => (t.1, t.2.1)) = as.zip (bs.map (·.1)) := by
        intro as
        induction as with
        | nil => intro bs; rfl
        | cons a as ih =>
          intro bs
          cases bs with
          | nil => rfl
          | cons b bs => simp only [List.zip_cons_cons, List.map_cons, ih]
      rw [e0, List.map_fst_zip (by simp; omega)]
    rw [e] at q
    exact q
  · rw [List.pairwise_map]
    have key : ts'.Pairwise fun p q => ¬ q.1.cps.toList < p.1.cps.toList := by
      rw [List.pairwise_iff_getElem]
      intro i j hi hj hij
      have hla : arr.toList.length = ts'.length := by rw [← p2, List.length_map]
      have hsz : arr.size = ts'.length := by rw [← hla]; simp
      have hk2 := hs i j (Nat.le_of_lt hij) (by omega)
      have at_ : ∀ (i : Nat) (hi : i < ts'.length), KK strKind arr i = (ts'[i]).1.cps.toList := fun i hi => by
        obtain ⟨⟨u, e⟩, _⟩ := say _ (p1.mem_iff.mp (List.getElem_mem hi))
        have ha : arr[i]'(by omega) = g ts'[i] := by
          have : arr.toList[i]? = some (g ts'[i]) := by rw [← p2, List.getElem?_map, List.getElem?_eq_getElem hi]; rfl
          rw [Array.getElem?_toList] at this
          rw [Array.getElem?_eq_getElem (by omega)] at this
          exact Option.some.inj this
        refine KK_str (by omega) (t := u) (q := ts'[i].2.2.2) ?_
        rw [ha]
        show (ts'[i].2.2.1, ts'[i].2.2.2) = _
        rw [e]
      rw [at_ i hi, at_ j hj] at hk2
      have hk2 : decide ((ts'[j]).1.cps.toList < (ts'[i]).1.cps.toList) = false := hk2
      exact of_decide_eq_false hk2
    exact key
  · have e : (arr.map (·.2)).toList = ts'.map (·.2.2.2) := by
      rw [Array.toList_map, ← p2, List.map_map]
      rfl
    rw [e]
    have all : ∀ t ∈ ts', RelV t.2.1 t.2.2.2 := fun t ht => (say t (p1.mem_iff.mp ht)).2
    clear e p1 p2
    induction ts' with
    | nil => exact .nil
    | cons t ts' ih => exact .cons (all t List.mem_cons_self) (ih fun q hq => all q (List.mem_cons_of_mem _ hq))
set_option maxHeartbeats 2000000 in
theorem key_tail {A : Around} {pins : List (Addr × Obj)} {σ : L2.St} {H : Hp} {s : Shared} {E : Value → Shared → Prop} {P : PySem.Fin → Shared → Prop} {a kS : Addr} {e e1 : Nat} {keys : Array Value} {st : SortSt} {its : List Value} {ys : List V} {ks : List Str}
    (I : Inv X ((kS, seqObj "list" keys e) :: (a, seqObj "list" #[] e1) :: pins) σ H s) (mK : Mine0 X H kS) (mA : Mine0 X H a) (hka : kS ≠ a) (hpk : ∀ p ∈ pins, p.1 ≠ kS) (hpa : ∀ p ∈ pins, p.1 ≠ a)
    (hk : StrsAre keys.toList ks) (hlen : ks.length = ys.length) (h64 : ys.length < 64) (rel : Vals ys its) (hp : (arrOf st).Perm (keys.zip its.toArray)) (hs : SortedToK strKind (arrOf st) (arrOf st).size) (hfl : failedOf st = none)
    (h : ∀ out s', SortsK ks ys out → Inv X pins σ (upd H a (.lst out)) s' → P (.done (.ret .none)) s') : wpAny (model X.prog X.w) A (PyProof.Rows.ksk_tail a false e1 (.ref kS) st) P E s := by
  obtain ⟨nk, _⟩ := I.pin (kS, seqObj "list" keys e) (List.mem_append_right _ List.mem_cons_self)
  obtain ⟨na, _⟩ := I.pin (a, seqObj "list" #[] e1) (List.mem_append_right _ (List.mem_cons_of_mem _ List.mem_cons_self))
  have hll := strs_len9 hk
  have hrl := rel.length
  have hsz : keys.size = ys.length := by rw [← hlen, ← hll]; simp
  have hsz2 : (arrOf st).size = ys.length := by rw [hp.size_eq, Array.size_zip, hsz, List.size_toArray, hrl, Nat.min_self]
  have s1 := Heap.SameBut.update s.heap kS (Obj.mapSeq fun _ => (#[] : Array Value))
  have na1 : (s.heap.update kS (Obj.mapSeq fun _ => (#[] : Array Value))).get? a = some (seqObj "list" #[] e1) := (s1.2 a hka.symm).trans na
  have s2 := Heap.SameBut.update (s.heap.update kS (Obj.mapSeq fun _ => (#[] : Array Value))) a (Obj.mapSeq fun _ => (arrOf st).map (·.2))
  obtain ⟨c2, hc2⟩ : ∃ c2, ((s.heap.update kS (Obj.mapSeq fun _ => (#[] : Array Value))).update a (Obj.mapSeq fun _ => (arrOf st).map (·.2))).get? a = some (seqObj "list" ((arrOf st).map (·.2)) c2) :=
    ⟨_, get?_update_seq na1 fun _ => (arrOf st).map (·.2)⟩
  obtain ⟨out, so, ro⟩ := out_keys hk rel hlen hp hs
  have I0 : Inv X pins σ H s := I.pins_of fun p hp => I.pin p (List.mem_append_right _ (List.mem_cons_of_mem _ (List.mem_cons_of_mem _ hp)))
  have I1 : ∀ tk, Inv X pins σ H { s with heap := s.heap.update kS (Obj.mapSeq fun _ => (#[] : Array Value)), toks := tk } := fun tk => I0.turned (t' := tk) (fun b o hb e => (s1.2 b hb).trans e) mK.h mK.l (.inr mK.s) mK.c fun p hp => by
    rcases List.mem_append.mp hp with z | z
    · exact mK.p p z
    · exact hpk p z
  have hol : out.length ≤ sizeLine := by
    obtain ⟨ps, q1, q2, _⟩ := so
    have := q1.length_eq
    rw [q2, List.length_map, this, List.length_zip, hlen, Nat.min_self, sizeLine_eq]
    omega
  unfold PyProof.Rows.ksk_tail
  try dsimp only
  refine wpAny_bind (listUpdate_at nk rfl ?_ (by rw [hsz, sizeLine_eq]; omega) (Nat.zero_le _))
  refine wpAny_bind (wpAny_letGo ?_)
  refine wpAny_bind (seqEpoch_at na1 rfl ?_)
  refine wpAny_bind (listUpdate_at na1 rfl ?_ (Nat.zero_le _) (by
    show ((arrOf st).map (·.2)).size ≤ sizeLine + 1
    rw [Array.size_map, hsz2, sizeLine_eq]
    omega))
  rw [hfl]
  simp only [bne_self_eq_false, Bool.false_eq_true, if_false]
  refine wpAny_pure (h out _ so ?_)
  refine adopt (s := { s with heap := s.heap.update kS (Obj.mapSeq fun _ => (#[] : Array Value)), toks := s.toks }) (t' := _) (I1 s.toks) (fun b o hb e => (s2.2 b hb).trans e) mA.h mA.l (.inr mA.s) mA.c (fun p hp => ?_) ?_
  · rcases List.mem_append.mp hp with z | z
    · exact mA.p p z
    · exact hpa p z
  · exact ⟨hol, ((arrOf st).map (·.2)).toList, c2, ro, by rw [Array.toArray_toList]; exact hc2⟩
set_option maxHeartbeats 2000000 in
theorem key_end {A : Around} {pins : List (Addr × Obj)} {σ : L2.St} {H : Hp} {s : Shared} {E : Value → Shared → Prop} {P : PySem.Fin → Shared → Prop} {a kS : Addr} {e e1 : Nat} {keys : Array Value} {its : List Value} {ys : List V} {ks : List Str}
    (I : Inv X ((kS, seqObj "list" keys e) :: (a, seqObj "list" #[] e1) :: pins) σ H s) (mK : Mine0 X H kS) (mA : Mine0 X H a) (hka : kS ≠ a) (hpk : ∀ p ∈ pins, p.1 ≠ kS) (hpa : ∀ p ∈ pins, p.1 ≠ a)
    (hk : StrsAre keys.toList ks) (hlen : ks.length = ys.length) (h64 : ys.length < 64) (rel : Vals ys its)
    (h : ∀ out s', SortsK ks ys out → Inv X pins σ (upd H a (.lst out)) s' → P (.done (.ret .none)) s') : wpAny (model X.prog X.w) A (PyProof.Rows.ksk_end a false its.toArray e1 (.ref kS) keys) P E s := by
  have hll := strs_len9 hk
  have hrl := rel.length
  have hsz : keys.size = ys.length := by rw [← hlen, ← hll]; simp
  have hzs : (keys.zip its.toArray).size = ys.length := by rw [Array.size_zip, hsz, List.size_toArray, hrl, Nat.min_self]
  have hkeys : KeysOf strKind (keys.zip its.toArray) := by
    intro p hp
    have hzl : (keys.zip its.toArray).toList = keys.toList.zip its := by simp
    rw [hzl] at hp
    have := (List.of_mem_zip (show (p.1, p.2) ∈ keys.toList.zip its from hp)).1
    obtain ⟨x, t, e⟩ := hk.all _ this
    exact ⟨x.cps.toList, by rw [e]⟩
  unfold PyProof.Rows.ksk_end
  try dsimp only
  simp only [Bool.false_eq_true, if_false]
  by_cases h2 : its.toArray.size < 2
  · rw [if_pos h2, if_pos h2]
    refine wpAny_bind (wpAny_pure ?_)
    rw [StateT.run_pure]
    refine wpAny_bind (wpAny_pure ?_)
    try dsimp only
    refine key_tail (st := SortSt.mk' general' (keys.zip its.toArray) #[] 7 none) I mK mA hka hpk hpa hk hlen h64 rel (Array.Perm.refl _) ?_ rfl h
    intro i j hij hj
    have hj2 : j < (keys.zip its.toArray).size := hj
    rw [hzs] at hj2
    rw [List.size_toArray] at h2
    have : i = j := by omega
    subst this
    exact strKind.kle_refl _
  · rw [if_neg h2, if_neg h2]
    rw [List.size_toArray] at h2
    have kind : keyKind' keys = pure oneType' := by
      obtain ⟨kl⟩ := keys
      match kl, hk, hsz with
      | v₁ :: v₂ :: vs, hk, _ => exact keyKind_strs hk
      | [_], _, hz => simp at hz; omega
      | [], _, hz => simp at hz; omega
    rw [kind]
    refine wpAny_bind (wpAny_pure ?_)
    refine wpAny_bind (wpAny_mono (wpS_sortRunsAny (κ := strKind) (a₀ := keys.zip its.toArray) (st := SortSt.mk' oneType' (keys.zip its.toArray) #[] 7 none)
      (Q := fun _ st' => (arrOf st').Perm (keys.zip its.toArray) ∧ failedOf st' = none ∧ SortedToK strKind (arrOf st') (keys.zip its.toArray).size)
      strKind_oneLt hkeys ⟨Array.Perm.refl _, rfl, rfl⟩ rfl (by rw [hzs]; omega) fun st' a1 a2 a3 => ⟨a1, a2, a3⟩) ?_ fun _ _ e => e)
    rintro ⟨⟨⟩, st'⟩ s' ⟨rfl, hp, hf, hs⟩
    try dsimp only
    exact key_tail I mK mA hka hpk hpa hk hlen h64 rel hp (by rw [hp.size_eq]; exact hs) hf h
set_option maxHeartbeats 2000000 in
theorem key_rest {A : Around} {pins : List (Addr × Obj)} {σ : L2.St} {H : Hp} {s : Shared} {E : Value → Shared → Prop} {P : PySem.Fin → Shared → Prop} {a kS : Addr} {e1 : Nat} {its : List Value} {ys : List V} {ks : List Str} {PH : Hp → Prop}
    (F : FnOk X.prog X.w X.K X.mg X.base (L2.CX X.prog X.w) k f fd ps sp) (hr : Room k A) (hfr : A.frames = X.A.frames) (hb : Binds X.K fd ps [])
    (I : Inv X ((kS, seqObj "list" #[] 0) :: (a, seqObj "list" #[] e1) :: pins) σ H s) (mK : Mine0 X H kS) (mA : Mine0 X H a) (hka : kS ≠ a) (hpk : ∀ p ∈ pins, p.1 ≠ kS) (hpa : ∀ p ∈ pins, p.1 ≠ a)
    (hlen : ks.length = ys.length) (h64 : ys.length < 64) (rel : Vals ys its) (hP : PH H)
    (turn : ∀ H', PH H' → ∀ (i : Nat) y x, ys[i]? = some y → ks[i]? = some x → sp [y] H' (fun v H'' => v = .str x ∧ PH H'') noE)
    (h : ∀ H' out s', PH H' → H' a = none → SortsK ks ys out → Inv X pins σ (upd H' a (.lst out)) s' → P (.done (.ret .none)) s') : wpAny (model X.prog X.w) A (PyProof.Rows.ksk_rest a (.ref f) false its.toArray e1 (.ref kS)) P E s := by
  have hrl := rel.length
  unfold PyProof.Rows.ksk_rest
  refine wpAny_bind (wpAny_rule ?_)
  first
    | rw [List.forIn_toArray]
    | (rw [← Array.forIn_toList]; simp only [List.toList_toArray])
    | rw [← Array.forIn_toList]
  refine wpAny_bind (PyProof.Rows.ksk_fold (fun i s' => ∃ H' kA e, Inv X ((kS, seqObj "list" kA e) :: (a, seqObj "list" #[] e1) :: pins) σ H' s' ∧ PH H' ∧ StrsAre kA.toList (ks.take i)) its 0 s
    ⟨H, #[], 0, I, hP, by simpa using StrsAre.nil⟩ ?step ?done)
  case step =>
    rintro j u s' hx ⟨H', kA, e, I', hP', hk⟩
    simp only [Nat.zero_add] at hk ⊢
    have hj : j < its.length := (List.getElem?_eq_some_iff.mp hx).1
    obtain ⟨x, hxj⟩ : ∃ x, ks[j]? = some x := ⟨_, List.getElem?_eq_getElem (by omega)⟩
    obtain ⟨y, hyj⟩ : ∃ y, ys[j]? = some y := ⟨_, List.getElem?_eq_getElem (by omega)⟩
    obtain ⟨u', hu', ry⟩ := rel.get hyj
    rw [hx] at hu'
    cases hu'
    have hkl := strs_len9 hk
    have hz : kA.size ≤ its.length := by
      have h1 : kA.size = (ks.take j).length := by rw [← hkl]; simp
      rw [h1, List.length_take]
      omega
    refine wpAny_bind (wpAny_attempt (wpAny_mono (run_own0 (A := A) F hr hfr hb I' (vs := [y]) (us := [u]) (.cons ry .nil) (turn H' hP' j y x hyj hxj)) (fun v s'' he => ?_) fun _ _ hF => hF.elim))
    obtain ⟨w, H2, I2, rw_, ⟨ew, hP2⟩⟩ := he
    subst ew
    obtain ⟨t2, rfl⟩ := rw_
    try dsimp only
    obtain ⟨nk, nH, nL, nF, _⟩ := I2.pin (kS, seqObj "list" kA e) (List.mem_append_right _ List.mem_cons_self)
    obtain ⟨na, nHa, nLa, nFa, _⟩ := I2.pin (a, seqObj "list" #[] e1) (List.mem_append_right _ (List.mem_cons_of_mem _ List.mem_cons_self))
    have s1 := Heap.SameBut.update s''.heap kS (Obj.mapSeq (·.push (.str x t2)))
    obtain ⟨c2, hc2⟩ : ∃ c2, (s''.heap.update kS (Obj.mapSeq (·.push (.str x t2)))).get? kS = some (seqObj "list" (kA.push (.str x t2)) c2) := ⟨_, get?_update_seq nk (·.push (.str x t2))⟩
    have ek : ks.take (j + 1) = ks.take j ++ [x] := by rw [List.take_add_one, hxj]; simp
    have ea : (kA.push (Value.str x t2)).toList = kA.toList ++ [Value.str x t2] := by simp
    refine wpAny_bind (listUpdate_at nk rfl ?_ (by rw [sizeLine_eq]; omega) (Nat.le_trans (Nat.le_of_eq (Array.size_push ..)) (by rw [sizeLine_eq]; omega)))
    refine wpAny_pure ⟨rfl, H2, kA.push (.str x t2), c2, ?_, hP2, by rw [ea, ek]; exact strs_snoc hk⟩
    have I3 : Inv X ((a, seqObj "list" #[] e1) :: pins) σ H2 s'' := I2.pins_of fun p hp => I2.pin p (List.mem_append_right _ (List.mem_cons_of_mem _ hp))
    have I4 : Inv X ((a, seqObj "list" #[] e1) :: pins) σ H2 { s'' with heap := s''.heap.update kS (Obj.mapSeq (·.push (.str x t2))) } := I3.turned (t' := s''.toks) (fun b o hb e => (s1.2 b hb).trans e) nH nL (.inr mK.s) mK.c fun p hp => by
      rcases List.mem_append.mp hp with z | z
      · exact mK.p p z
      · rcases List.mem_cons.mp z with z | z
        · rw [z]; exact hka.symm
        · exact hpk p z
    refine I4.pins_of fun p hp => ?_
    rcases List.mem_cons.mp hp with z | z
    · rw [z]
      exact ⟨hc2, nH, nL, nF, fun v z => by cases z⟩
    · exact I4.pin p (List.mem_append_right _ z)
  case done =>
    rintro s' ⟨H', kA, e, I', hP', hk⟩
    have hk' : StrsAre kA.toList ks := by
      have e3 : ks.take (0 + its.length) = ks := List.take_of_length_le (by omega)
      rw [e3] at hk
      exact hk
    obtain ⟨nk, nH, nL, nF, _⟩ := I'.pin (kS, seqObj "list" kA e) (List.mem_append_right _ List.mem_cons_self)
    obtain ⟨na, nHa, nLa, nFa, _⟩ := I'.pin (a, seqObj "list" #[] e1) (List.mem_append_right _ (List.mem_cons_of_mem _ List.mem_cons_self))
    try dsimp only
    refine wpAny_bind (listItems_at nk rfl ?_)
    exact key_end I' ⟨nH, nL, nF, mK.s, mK.c, mK.p⟩ ⟨nHa, nLa, nFa, mA.s, mA.c, mA.p⟩ hka hpk hpa hk' hlen h64 rel fun out s' so J => h H' out s' hP' nHa so J
/-- sorted(xs, key=f): the keys are told one by one, then the list of xs by them -/
def rSortK (K : PySem.W.Frag) (f : Addr) (sp : Sp) : List V → List V → Hp → VK → Prop := fun vs zs H Q => ∃ (l : Addr) (ys : List V) (ks : List Str) (PH : Hp → Prop), vs = [.ref l] ∧ zs = [.ref f] ∧ SqL K H l ys ∧ ks.length = ys.length ∧ ys.length < 64 ∧ PH H ∧
  (∀ H', PH H' → ∀ (i : Nat) y x, ys[i]? = some y → ks[i]? = some x → sp [y] H' (fun v H'' => v = .str x ∧ PH H'') noE) ∧ ∀ H' p out, PH H' → H' p = none → SortsK ks ys out → Q (.ref p) (upd H' p (.lst out))
set_option maxHeartbeats 4000000 in
theorem cr_sortKey (F : FnOk X.prog X.w X.K X.mg X.base (L2.CX X.prog X.w) k f fd ps sp) (hr : Room (k + 1) X.A) (hb : Binds X.K fd ps []) : CallRK X (.builtin "sorted") [Str.ofString "key"] (rSortK X.K f sp) := by
  intro pins s σ H vs zs us ws Q I r rz h
  obtain ⟨l, ys, ks, PH, rfl, rfl, hsl, hlen, h64, hP, turn, fin⟩ := h
  obtain rfl := Vals.ref1 r
  obtain ⟨w1, rfl, e1⟩ := vals1 rz
  obtain rfl : w1 = Value.ref f := e1
  obtain ⟨its, rel, hl, hz⟩ := I.list hsl
  have hrl := rel.length
  have hsize : X.s_0.heap.objs.size ≤ s.heap.objs.size := I.sz
  have hlt := I.lt
  show wpAny (model X.prog X.w) X.A (call (.builtin "sorted") [.ref l] [(Str.ofString "key", .ref f)]) (EP X pins σ Q) X.xe s
  refine call_function_entry_kw kind_sorted plain_sorted entry_sorted (ksk_s1 _ _) ?_
  unfold Builtin.«sorted»
  refine wpAny_bind (m := checkCount "sorted" 1 1 _) (wpAny_pure ?_)
  refine wpAny_bind (collect_list hl.isList ?_ (by rw [sizeLine_eq]; omega))
  refine wpAny_bind (wpAny_newList ?_ (by rw [sizeLine_eq]; omega))
  have hsz : ((s.heap.push (seqObj "list" #[] 0)).update s.heap.objs.size (Obj.mapSeq (· ++ its.toArray))).objs.size = s.heap.objs.size + 1 := by
    rw [Heap.size_update, size_push']
  have hoL : (((s.heap.push (seqObj "list" #[] 0)).update s.heap.objs.size (Obj.mapSeq (· ++ its.toArray))).push (seqObj "list" its.toArray 0)).get? (s.heap.objs.size + 1) = some (seqObj "list" its.toArray 0) := by
    rw [← hsz]; exact Heap.get?_push_size _ rfl
  have keep : ∀ b o, s.heap.get? b = some o → (((s.heap.push (seqObj "list" #[] 0)).update s.heap.objs.size (Obj.mapSeq (· ++ its.toArray))).push (seqObj "list" its.toArray 0)).get? b = some o := fun b o q => by
    have hlt : b < s.heap.objs.size := Heap.lt_size q
    rw [Heap.get?_push_ne _ _ _ (by rw [hsz]; exact Nat.ne_of_lt (Nat.lt_succ_of_lt hlt)), Heap.get?_update_ne _ _ _ _ (Nat.ne_of_lt hlt), Heap.get?_push_ne _ _ _ (Nat.ne_of_lt hlt)]
    exact q
  show wpAny _ _ _ _ _ { s with heap := ((s.heap.push (seqObj "list" #[] 0)).update s.heap.objs.size (Obj.mapSeq (· ++ its.toArray))).push (seqObj "list" its.toArray 0) }
  rw [hsz]
  refine wpAny_bind (wpAny_holding (wpAny_call_entry_kw slot_list_sort ⟨_, hoL, rfl⟩ entry_list_sort ?body (ksk_l1 _ _)))
  case body =>
    show wpAny (model X.prog X.w) X.A.in1.in1 (Builtin.«list.sort» ⟨[.ref (s.heap.objs.size + 1)], [(Str.ofString "key", .ref f)]⟩) _ _ _
    rw [ksk_t1]
    have hsz2 : (((s.heap.push (seqObj "list" #[] 0)).update s.heap.objs.size (Obj.mapSeq (· ++ its.toArray))).push (seqObj "list" its.toArray 0)).objs.size = s.heap.objs.size + 2 := by
      rw [size_push', hsz]
    generalize ((s.heap.push (seqObj "list" #[] 0)).update s.heap.objs.size (Obj.mapSeq (· ++ its.toArray))).push (seqObj "list" its.toArray 0) = h2 at hoL keep hsz2
    obtain ⟨e1, ho1⟩ : ∃ e1, (h2.update (s.heap.objs.size + 1) (Obj.mapSeq fun _ => (#[] : Array Value))).get? (s.heap.objs.size + 1) = some (seqObj "list" #[] e1) := ⟨_, get?_update_seq hoL fun _ => #[]⟩
    have hkS : ((h2.update (s.heap.objs.size + 1) (Obj.mapSeq fun _ => (#[] : Array Value))).push (seqObj "tuple" its.toArray 0)).objs.size = s.heap.objs.size + 3 := by rw [size_push', Heap.size_update, hsz2]
    unfold ksk_tree
    refine wpAny_bind (listItems_at hoL rfl ?_)
    refine wpAny_bind (listUpdate_at hoL rfl ?_ (by rw [List.size_toArray, sizeLine_eq]; omega) (Nat.zero_le _))
    refine wpAny_bind (seqEpoch_at ho1 rfl ?_)
    refine wpAny_bind (wpAny_newTuple ?_ (by show its.length ≤ _; rw [sizeLine_eq]; omega))
    refine wpAny_bind (wpAny_newList ?_ (Nat.zero_le _))
    refine wpAny_holding ?_
    have keep4 : ∀ b o, s.heap.get? b = some o → (((h2.update (s.heap.objs.size + 1) (Obj.mapSeq fun _ => (#[] : Array Value))).push (seqObj "tuple" its.toArray 0)).push (seqObj "list" #[] 0)).get? b = some o := fun b o q => by
      have hlt : b < s.heap.objs.size := Heap.lt_size q
      refine Heap.get?_push_of_some _ (Heap.get?_push_of_some _ ?_)
      rw [Heap.get?_update_ne _ _ _ _ (Nat.ne_of_lt (Nat.lt_succ_of_lt hlt))]
      exact keep b o q
    have hoA : (((h2.update (s.heap.objs.size + 1) (Obj.mapSeq fun _ => (#[] : Array Value))).push (seqObj "tuple" its.toArray 0)).push (seqObj "list" #[] 0)).get? (s.heap.objs.size + 1) = some (seqObj "list" #[] e1) := Heap.get?_push_of_some _ (Heap.get?_push_of_some _ ho1)
    have hoK : (((h2.update (s.heap.objs.size + 1) (Obj.mapSeq fun _ => (#[] : Array Value))).push (seqObj "tuple" its.toArray 0)).push (seqObj "list" #[] 0)).get? (s.heap.objs.size + 3) = some (seqObj "list" #[] 0) := by
      rw [← hkS]; exact Heap.get?_push_size _ rfl
    rw [hkS]
    have mine : ∀ b, s.heap.objs.size ≤ b → Mine0 X H b := fun b hb => ⟨I.hok.fresh hb, Nat.ne_of_gt (Nat.lt_of_lt_of_le hlt hb), I.nofs hb, Nat.le_trans hsize hb, fun x c e z => by
      obtain ⟨v, o, ho, _⟩ := I.cell x c e
      have h1 := Heap.lt_size ho
      rw [z] at h1
      exact Nat.lt_irrefl _ (Nat.lt_of_lt_of_le h1 hb), fun p hp z => by
      have h1 := Heap.lt_size (I.pin p (List.mem_append_left _ hp)).1
      rw [z] at h1
      exact Nat.lt_irrefl _ (Nat.lt_of_lt_of_le h1 hb)⟩
    have le1 : s.heap.objs.size ≤ s.heap.objs.size + 1 := Nat.le_add_right _ _
    have le3 : s.heap.objs.size ≤ s.heap.objs.size + 3 := Nat.le_add_right _ _
    have I4 : Inv X ((s.heap.objs.size + 3, seqObj "list" #[] 0) :: (s.heap.objs.size + 1, seqObj "list" #[] e1) :: pins) σ H { s with heap := ((h2.update (s.heap.objs.size + 1) (Obj.mapSeq fun _ => (#[] : Array Value))).push (seqObj "tuple" its.toArray 0)).push (seqObj "list" #[] 0) } := by
      have I3 := I.kept (t' := s.toks) keep4
      refine I3.pins_of fun p hp => ?_
      rcases List.mem_cons.mp hp with z | z
      · rw [z]
        have m := mine (s.heap.objs.size + 3) le3
        exact ⟨hoK, m.h, m.l, m.f, fun v z => by cases z⟩
      · rcases List.mem_cons.mp z with z | z
        · rw [z]
          have m := mine (s.heap.objs.size + 1) le1
          exact ⟨hoA, m.h, m.l, m.f, fun v z => by cases z⟩
        · exact I3.pin p (List.mem_append_right _ z)
    have pn : ∀ p ∈ pins, p.1 < s.heap.objs.size := fun p hp => Heap.lt_size (I.pin p (List.mem_append_right _ hp)).1
    refine key_rest (PH := PH) (P := _) F hr.in2 rfl hb I4 (mine _ le3) (mine _ le1) (Nat.ne_of_gt (Nat.add_lt_add_left (by decide) _)) (fun p hp => Nat.ne_of_lt (Nat.lt_of_lt_of_le (pn p hp) le3)) (fun p hp => Nat.ne_of_lt (Nat.lt_of_lt_of_le (pn p hp) le1)) hlen h64 rel hP turn fun H' out s' hP' hn' so J => ⟨_, rfl, ?_⟩
    exact wpAny_pure ⟨_, rfl, .ref (s.heap.objs.size + 1), _, J, rfl, fin H' _ out hP' hn' so⟩
end
end CH

/-! OB10: sorted by a key, own ==, isinstance of own classes, in the reckoning. -/
namespace CH
open PySem PySem.Spec PyProof.Rows L2
/-- the keys that a def tells of the items, which changes nothing -/
noncomputable def keysOf (cs : Cs) (id : Nat) (ob : List Ob) : List PyData → Option (List Str)
  | [] => some []
  | d :: ds => (match cs.low id [.dat d] ob with
    | .ok (.dat (.str x)) ob' => @ite _ (ob' = ob) (Classical.propDecidable _) (match keysOf cs id ob ds with
      | some ks => some (x :: ks)
      | none => none) none
    | _ => none)
def ltS (x y : Str) : Bool := decide (x.cps.toList < y.cps.toList)
def insK {α : Type} (p : Str × α) : List (Str × α) → List (Str × α)
  | [] => [p]
  | q :: r => if ltS q.1 p.1 = true then q :: insK p r else p :: q :: r
def sortK {α : Type} : List (Str × α) → List (Str × α)
  | [] => []
  | p :: r => insK p (sortK r)
/-- sorted(a, key=f) -/
noncomputable def mSortK (id : Nat) (a : Opd) : M Val := fun cs s => if 1 ≤ cs.lv then ev1 a (fun x s1 => match asL x with
  | some ds => (match keysOf cs id s1.ob ds with
    | some ks => @ite _ (ks.Nodup ∧ ks.length < 64) (Classical.propDecidable _) (.ok (.own ((sortK (ks.zip ds)).map (·.2))) s1) .no
    | none => .no)
  | none => .no) cs s else .no
/-- isinstance(a, C), C an own class -/
def isO (c : Str) (ob : List Ob) : Val → Option Bool
  | .obj n => (match ob[n]? with
    | some (.ins c' _) => if c' = c then some true else none
    | some (.lst _) => some false
    | _ => none)
  | .dat (.str _) => some false
  | .dat (.int _) => some false
  | .dat (.list _) => some false
  | .own _ => some false
  | _ => none
def mIsO (c : Str) (a : Opd) : M Val := fun cs s => ev1 a (fun x s1 => giv s1 (bV (isO c s1.ob x))) cs s
def okR (c : Str) (ob : List Ob) : Val → Bool
  | .obj n => (match ob[n]? with
    | some (.ins c' _) => decide (c' = c)
    | _ => false)
  | .dat (.str _) => true
  | .dat (.int _) => true
  | .dat (.list _) => true
  | _ => false
/-- a == b, a an instance, by the class's own __eq__ -/
def mEqO (c : Str) (id : Nat) (a b : Opd) : M Val := fun cs s => ev2 a b (fun x y s1 => match x with
  | .obj n => (match s1.ob[n]? with
    | some (.ins c' _) => if c' = c ∧ okR c s1.ob y = true then (match cs.run id [.obj n, y] s1.ob with
      | .ok (.dat (.bool k)) ob => .ok (.dat (.bool k)) { s1 with ob := ob }
      | _ => .no) else .no
    | _ => .no)
  | _ => .no) cs s
theorem lt_not {x y : Str} : ltS x y = false ↔ ¬ x.cps.toList < y.cps.toList := by
  unfold ltS
  rw [decide_eq_false_iff_not]
theorem lt_antisymm {x y : Str} (h1 : ¬ x.cps.toList < y.cps.toList) (h2 : ¬ y.cps.toList < x.cps.toList) : x = y := by
  have := List.le_antisymm (List.not_lt.mp h2) (List.not_lt.mp h1)
  obtain ⟨x⟩ := x
  obtain ⟨y⟩ := y
  simp only at this
  rw [Array.ext' this]
section
variable {α : Type}
def RK (p q : Str × α) : Prop := ¬ q.1.cps.toList < p.1.cps.toList
theorem insK_perm (p : Str × α) : ∀ l : List (Str × α), (insK p l).Perm (p :: l)
  | [] => List.Perm.refl _
  | q :: r => by
    unfold insK
    split
    · exact ((insK_perm p r).cons q).trans (List.Perm.swap _ _ _)
    · exact List.Perm.refl _
theorem sortK_perm : ∀ l : List (Str × α), (sortK l).Perm l
  | [] => List.Perm.refl _
  | p :: r => (insK_perm p _).trans ((sortK_perm r).cons p)
theorem lt_trans_not {x y z : Str} (h1 : ¬ y.cps.toList < x.cps.toList) (h2 : ¬ z.cps.toList < y.cps.toList) : ¬ z.cps.toList < x.cps.toList := fun h => by
  have a := List.not_lt.mp h1
  have b := List.not_lt.mp h2
  have c : x.cps.toList ≤ z.cps.toList := List.le_trans a b
  exact (List.not_lt.mpr c) h
theorem insK_sorted (p : Str × α) : ∀ l : List (Str × α), l.Pairwise RK → (insK p l).Pairwise RK
  | [], _ => List.pairwise_singleton _ _
  | q :: r, h => by
    rw [List.pairwise_cons] at h
    unfold insK
    split
    · rename_i hlt
      rw [List.pairwise_cons]
      refine ⟨fun z hz => ?_, insK_sorted p r h.2⟩
      rcases List.mem_cons.mp ((insK_perm p r).mem_iff.mp hz) with e | e
      · rw [e]
        intro z
        have hlt : q.1.cps.toList < p.1.cps.toList := of_decide_eq_true hlt
        exact absurd hlt (List.lt_asymm z)
      · exact h.1 z e
    · rename_i hlt
      have hlt : ¬ q.1.cps.toList < p.1.cps.toList := fun z => hlt (decide_eq_true z)
      rw [List.pairwise_cons, List.pairwise_cons]
      refine ⟨fun z hz => ?_, h⟩
      rcases List.mem_cons.mp hz with e | e
      · rw [e]; exact hlt
      · exact lt_trans_not hlt (h.1 z e)
theorem sortK_sorted : ∀ l : List (Str × α), (sortK l).Pairwise RK
  | [] => List.Pairwise.nil
  | p :: r => insK_sorted p _ (sortK_sorted r)
/-- there is one such list, where no key comes twice -/
theorem sorted_one : ∀ {l m : List (Str × α)}, l.Perm m → l.Pairwise RK → m.Pairwise RK → (m.map (·.1)).Nodup → l = m
  | [], m, h, _, _, _ => (List.Perm.eq_nil h.symm).symm
  | x :: l, [], h, _, _, _ => absurd h.length_eq (by simp)
  | x :: l, y :: m, h, hl, hm, hn => by
    rw [List.pairwise_cons] at hl hm
    have e : x = y := by
      rcases List.mem_cons.mp (h.mem_iff.mp (List.mem_cons_self (a := x) (l := l))) with z | z
      · exact z
      · rcases List.mem_cons.mp (h.mem_iff.mpr (List.mem_cons_self (a := y) (l := m))) with q | q
        · exact q.symm
        · have h1 := hl.1 y q
          have h2 := hm.1 x z
          have ek : x.1 = y.1 := lt_antisymm h2 h1
          rw [List.map_cons, List.nodup_cons] at hn
          exact absurd (ek ▸ List.mem_map.mpr ⟨x, z, rfl⟩) hn.1
    subst e
    rw [sorted_one (List.Perm.cons_inv h) hl.2 hm.2 (by rw [List.map_cons, List.nodup_cons] at hn; exact hn.2)]
end
theorem keysOf_ok {cs : Cs} {id : Nat} {ob : List Ob} : ∀ {ds : List PyData} {ks : List Str}, keysOf cs id ob ds = some ks → ks.length = ds.length ∧ ∀ (i : Nat) d x, ds[i]? = some d → ks[i]? = some x → cs.low id [.dat d] ob = .ok (.dat (.str x)) ob
  | [], ks, h => by cases h; exact ⟨rfl, fun i d x h => by simp at h⟩
  | d :: ds, ks, h => by
    unfold keysOf at h
    split at h
    · rename_i x ob' e
      split at h
      · rename_i eo
        subst eo
        split at h
        · rename_i ks' e2
          cases h
          obtain ⟨h1, h2⟩ := keysOf_ok e2
          refine ⟨congrArg (· + 1) h1, fun i d' x' hd hx => ?_⟩
          cases i with
          | zero =>
            simp at hd hx
            subst hd hx
            exact e
          | succ i => exact h2 i d' x' (by simpa using hd) (by simpa using hx)
        · cases h
      · cases h
    · cases h
theorem keysOf_map {cs : Cs} {id : Nat} {ob : List Ob} {β : Type} (g : β → PyData) (f : β → Str) : ∀ (l : List β), (∀ b ∈ l, cs.low id [.dat (g b)] ob = .ok (.dat (.str (f b))) ob) → keysOf cs id ob (l.map g) = some (l.map f)
  | [], _ => rfl
  | b :: l, h => by
    rw [List.map_cons]
    unfold keysOf
    rw [h b List.mem_cons_self]
    simp only
    rw [keysOf_map g f l fun x hx => h x (List.mem_cons_of_mem _ hx)]
    simp
section
variable {Z : Sur} {cs : Cs} {σ : L2.St} {G H : Hp} {io : List Addr} {W : WX} {s : S}
theorem sorts_drs {K : PySem.W.Frag} {ks : List Str} {ys out : List V} {ds : List PyData} (hd : DRs K G ys ds) (hl : ks.length = ys.length) (hn : ks.Nodup) (so : SortsK ks ys out) : DRs K G out ((sortK (ks.zip ds)).map (·.2)) := by
  obtain ⟨ps, p1, rfl, p3⟩ := so
  have hdl := hd.length
  let g : Str × V × PyData → Str × V := fun t => (t.1, t.2.1)
  let ts : List (Str × V × PyData) := ks.zip (ys.zip ds)
  have e0 : ∀ {β γ : Type} (as : List Str) (bs : List (β × γ)), (as.zip bs).map (fun t => (t.1, t.2.1)) = as.zip (bs.map (·.1)) := by
    intro β γ as
    induction as with
    | nil => intro bs; rfl
    | cons a as ih =>
      intro bs
      cases bs with
      | nil => rfl
      | cons b bs => simp only [List.zip_cons_cons, List.map_cons, ih]
  have e1 : ∀ {β γ : Type} (as : List Str) (bs : List (β × γ)), (as.zip bs).map (fun t => (t.1, t.2.2)) = as.zip (bs.map (·.2)) := by
    intro β γ as
    induction as with
    | nil => intro bs; rfl
    | cons a as ih =>
      intro bs
      cases bs with
      | nil => rfl
      | cons b bs => simp only [List.zip_cons_cons, List.map_cons, ih]
  have hg : ts.map g = ks.zip ys := by
    show (ks.zip (ys.zip ds)).map (fun t => (t.1, t.2.1)) = _
    rw [e0, List.map_fst_zip (by omega)]
  have lift : ∀ (l : List (Str × V)) (m : List (Str × V × PyData)), l.Perm (m.map g) → ∃ l' : List (Str × V × PyData), l'.Perm m ∧ l'.map g = l := by
    intro l m h
    generalize hm : m.map g = r at h
    induction h generalizing m with
    | nil => exact ⟨[], by simpa using hm, rfl⟩
    | cons x h ih =>
      cases m with
      | nil => cases hm
      | cons y m =>
        simp only [List.map_cons, List.cons.injEq] at hm
        obtain ⟨l', p1, p2⟩ := ih m hm.2
        exact ⟨y :: l', p1.cons y, by rw [List.map_cons, p2, hm.1]⟩
    | swap x y l =>
      cases m with
      | nil => cases hm
      | cons u m =>
        cases m with
        | nil => simp at hm
        | cons v m =>
          simp only [List.map_cons, List.cons.injEq] at hm
          exact ⟨v :: u :: m, List.Perm.swap _ _ _, by simp [hm.1, hm.2.1, hm.2.2]⟩
    | trans h1 h2 ih1 ih2 =>
      obtain ⟨l', p1, p2⟩ := ih2 m hm
      obtain ⟨l'', q1, q2⟩ := ih1 l' p2
      exact ⟨l'', q1.trans p1, q2⟩
  obtain ⟨ts', q1, q2⟩ := lift ps ts (by rw [hg]; exact p1)
  have say : ∀ t ∈ ts, DR K G t.2.1 t.2.2 := by
    intro t ht
    obtain ⟨i, hi⟩ := List.getElem?_of_mem ht
    have hi : (ks.zip (ys.zip ds))[i]? = some t := hi
    simp only [List.getElem?_zip_eq_some] at hi
    obtain ⟨a1, a2, a3⟩ := hi
    obtain ⟨v, b1, b2⟩ := hd.get a3
    rw [a2] at b1
    cases b1
    exact b2
  have hu : ts'.map (fun t => (t.1, t.2.2)) = sortK (ks.zip ds) := by
    refine sorted_one ?_ ?_ (sortK_sorted _) ?_
    · refine (q1.map _).trans ?_
      show ((ks.zip (ys.zip ds)).map fun t => (t.1, t.2.2)).Perm _
      rw [e1, List.map_snd_zip (by omega)]
      exact (sortK_perm _).symm
    · rw [List.pairwise_map]
      rw [← q2, List.pairwise_map] at p3
      exact p3
    · have := (sortK_perm (ks.zip ds)).map (·.1)
      refine (this.nodup_iff).mpr ?_
      rw [List.map_fst_zip (by omega)]
      exact hn
  have eo : ps.map (·.2) = ts'.map (·.2.1) := by rw [← q2, List.map_map]; rfl
  have ed : (sortK (ks.zip ds)).map (·.2) = ts'.map (·.2.2) := by rw [← hu, List.map_map]; rfl
  rw [eo, ed]
  have all : ∀ t ∈ ts', DR K G t.2.1 t.2.2 := fun t ht => say t (q1.mem_iff.mp ht)
  clear eo ed hu q1 q2
  induction ts' with
  | nil => exact .nil
  | cons t ts' ih => exact .cons (all t List.mem_cons_self) (ih fun q hq => all q (List.mem_cons_of_mem _ hq))
theorem den_sortK {id : Nat} {a : Opd} {f : Addr} {Q : VK} (h : denV Z cs (mSortK id a) W σ H Q) : tOpd Z cs W a σ H fun w H1 => rSortK Z.K f (spOf Z.K Z.cla 1 (cs.low id)) [w] [.ref f] H1 Q := by
  obtain ⟨G, io, s, r, h⟩ := h
  unfold mSortK at h
  by_cases hl : 1 ≤ cs.lv
  rotate_left
  · rw [if_neg hl] at h; exact h.elim
  rw [if_pos hl] at h
  refine tOpd.mono (fun w H1 q => ?_) (opd1 r h)
  obtain ⟨v, G1, io1, s1, r1, e1, b, p⟩ := q
  cases ea : asL v with
  | none => rw [ea] at p; exact p.elim
  | some ds =>
    rw [ea] at p
    simp only at p
    cases ek : keysOf cs id s1.ob ds with
    | none => rw [ek] at p; exact p.elim
    | some ks =>
      rw [ek] at p
      simp only at p
      by_cases hh : ks.Nodup ∧ ks.length < 64
      rotate_left
      · rw [if_neg hh] at p; exact p.elim
      rw [if_pos hh] at p
      obtain ⟨a1, v1, rfl, h1, d1⟩ := b.asL ea r1.sub
      obtain ⟨kl, kk⟩ := keysOf_ok ek
      have dl := d1.length
      refine ⟨a1, v1, ks, fun H' => ∃ G2 io2, SR Z G2 io2 σ s1 H' ∧ Ext G1 io1 G2 io2, rfl, rfl, SqL.of h1, by omega, by omega, ⟨G1, io1, r1, Ext.refl _ _⟩, ?_, ?_⟩
      · rintro H' ⟨G2, io2, r2, e2⟩ i y x hy hx
        obtain ⟨d, hd⟩ : ∃ d, ds[i]? = some d := by
          have : i < v1.length := (List.getElem?_eq_some_iff.mp hy).1
          exact ⟨_, List.getElem?_eq_getElem (by omega)⟩
        obtain ⟨y', hy', dy⟩ := d1.get hd
        rw [hy] at hy'
        cases hy'
        refine ⟨G2, io2, [.dat d], s1.ob, rfl, r2.callIn, ⟨⟨DR.mono e2.g _ _ dy, fun _ z => by cases z⟩, trivial⟩, ?_⟩
        rw [kk i d x hd hx]
        intro w' G' io' H'' r' e' t'
        refine ⟨(DR.str_ t'.1).1, G', io', r2.callOut r' e', e2.trans e'⟩
      · rintro H' pp out ⟨G2, io2, r2, e2⟩ hp so
        have hd := sorts_drs (DRs.mono e2.g _ _ d1) (by omega) hh.1 so
        exact p G2 io2 _ (r2.new hp (.lst out)) e2 _ (VT.newL r2 hp hd)
theorem den_eqO {c : Str} {id : Nat} {a b : Opd} {C : Addr} {Q : VK} (hc : He.ga Z.K c = C) (h : denV Z cs (mEqO c id a b) W σ H Q) : tOp (rOwn2 Z.K C (spOf Z.K Z.cla 2 (cs.run id))) (tOpd Z cs W a) (tOpd Z cs W b) σ H Q := by
  obtain ⟨G, io, s, r, h⟩ := h
  refine tOpd.mono (fun w H1 q => ?_) (opd2 r h)
  refine tOpd.mono (fun w' H2 q => ?_) q
  obtain ⟨v, v', G2, io2, s2, r2, e2, b1, b2, p⟩ := q
  cases v with
  | dat d => exact p.elim
  | own d => exact p.elim
  | scr d => exact p.elim
  | exn d => exact p.elim
  | obj n =>
    simp only at p
    obtain ⟨a0, rfl, hi⟩ := b1
    cases eo : s2.ob[n]? with
    | none => rw [eo] at p; exact p.elim
    | some o =>
      rw [eo] at p
      cases o with
      | lst xs => exact p.elim
      | dct xs => exact p.elim
      | mix xs => exact p.elim
      | ins c' fs =>
        simp only at p
        by_cases hh : c' = c ∧ okR c s2.ob v' = true
        rotate_left
        · rw [if_neg hh] at p; exact p.elim
        rw [if_pos hh] at p
        obtain ⟨rfl, hok⟩ := hh
        obtain ⟨C', dx, gs, h0, h1, h2, h3⟩ := r2.ob n a0 _ hi eo
        rw [hc] at h0
        subst h0
        have noOwn : ∀ xs, v' ≠ .own xs := fun xs z => by rw [z] at hok; cases hok
        refine ⟨a0, dx, gs, rfl, h1, ?_, G2, io2, [.obj n, v'], s2.ob, rfl, r2.callIn, ⟨⟨⟨a0, rfl, hi⟩, fun _ z => by cases z⟩, ⟨b2, noOwn⟩, trivial⟩, ?_⟩
        · cases v' with
          | own d => exact absurd rfl (noOwn d)
          | scr d => cases hok
          | exn d => cases hok
          | obj m =>
            obtain ⟨a1, rfl, hj⟩ := b2
            have hok : (match s2.ob[m]? with | some (.ins c1 _) => decide (c1 = c') | _ => false) = true := hok
            cases eo2 : s2.ob[m]? with
            | none => rw [eo2] at hok; cases hok
            | some o2 =>
              rw [eo2] at hok
              cases o2 with
              | lst xs => cases hok
              | dct xs => cases hok
              | mix xs => cases hok
              | ins c1 fs1 =>
                have ec : c1 = c' := of_decide_eq_true hok
                subst ec
                obtain ⟨C1, dx1, gs1, k0, k1, _, _⟩ := r2.ob m a1 _ hj eo2
                rw [hc] at k0
                subst k0
                exact .inl ⟨a1, dx1, gs1, rfl, k1⟩
          | dat d =>
            cases d with
            | str x => exact .inr (.inl ⟨x, (DR.str_ b2).1⟩)
            | int x => exact .inr (.inr (.inl ⟨x, DR.int_ b2⟩))
            | list ds =>
              have b2 : DR Z.K G2 w' (.list ds) := b2
              cases b2 with
              | lst g1 g2 => exact .inr (.inr (.inr ⟨_, _, rfl, r2.sub _ _ g1⟩))
            | none => cases hok
            | bool d => cases hok
            | tuple d => cases hok
            | dict d => cases hok
        · cases q : cs.run id [.obj n, v'] s2.ob with
          | no => rw [q] at p; exact p.elim
          | ex e ob => rw [q] at p; exact p.elim
          | ok u ob =>
            rw [q] at p
            intro w1 G' io' H' r' e' t'
            cases u with
            | own d => exact p.elim
            | scr d => exact p.elim
            | exn d => exact p.elim
            | obj d => exact p.elim
            | dat d =>
              cases d with
              | bool kk => exact ⟨⟨kk, DR.bl_ t'.1⟩, p G' io' H' (r2.callOut r' e') e' w1 (VT.callOut r2 r' t')⟩
              | none => exact p.elim
              | int d => exact p.elim
              | str d => exact p.elim
              | list d => exact p.elim
              | tuple d => exact p.elim
              | dict d => exact p.elim
/-- what the written part says of a class whose instances isinstance is asked of -/
structure IsoOk (K : PySem.W.Frag) (C : Addr) : Prop where
  cl : (PySem.W.clsIn K C).isSome = true
  ty : PySem.W.typeIn K (.ref C) = some (.type "type")
  ca : PySem.W.findIn K (.ref C) "__class__" = some (some (.builtin "object.__class__"))
  mr : PySem.W.mroIn K C (.type "object") = some true
theorem kit_no {K : PySem.W.Frag} {C : Addr} (h : IsoOk K C) {T : String} (hT : PySem.W.subIn K (.type T) (.ref C) = some false) : PySem.W.kitOne K (.type T) (.ref C) = some false := by
  unfold PySem.W.kitOne PySem.W.kitCls
  rw [if_neg (by simp)]
  simp only [h.cl, h.ty]
  rw [if_pos (by simp)]
  exact hT
theorem den_isO {c : Str} {a : Opd} {C : Addr} {Q : VK} (hc : He.ga Z.K c = C) (hC : Cls Z.K C) (hI : IsoOk Z.K C) (hn : PySem.W.specialIn Z.K (.builtin "object.__class__") "__get__" = some (some (.builtin "getset_descriptor.__get__"))) (ht : PySem.W.takesIn Z.K (.builtin "object.__class__") = some true)
    (h : denV Z cs (mIsO c a) W σ H Q) : tOpd Z cs W a σ H fun w H1 => rIsi Z.K [w, .ref C] H1 Q := by
  obtain ⟨G, io, s, r, h⟩ := h
  refine tOpd.mono (fun w H1 q => ?_) (opd1 r h)
  obtain ⟨v, G1, io1, s1, r1, e1, b, p⟩ := q
  cases ei : isO c s1.ob v with
  | none => rw [ei] at p; exact p.elim
  | some k =>
    rw [ei] at p
    have fin : Q (.bl k) H1 := p G1 io1 H1 r1 (Ext.refl _ _) _ (.dat (.bl k))
    have no : ∀ {T : String}, PySem.W.subIn Z.K (.type T) (.ref C) = some false → k = false → TyX Z.K H1 w (.type T) → rIsi Z.K [w, .ref C] H1 Q := fun hT hk ty => ⟨w, .ref C, _, _, false, rfl, .own C, ty, kit_no hI hT, hk ▸ fin⟩
    cases v with
    | scr d => cases ei
    | exn d => cases ei
    | own xs =>
      cases ei
      obtain ⟨a1, vs, rfl, h1, _⟩ := b
      exact no (T := "list") rfl rfl (.base (.lst h1))
    | dat d =>
      cases d with
      | str x => cases ei; cases (DR.str_ b).1; exact no (T := "str") rfl rfl (.base (.str x))
      | int x => cases ei; cases DR.int_ b; exact no (T := "int") rfl rfl (.base (.int x))
      | list ds =>
        cases ei
        have b : DR Z.K G1 w (.list ds) := b
        cases b with
        | lst g1 g2 => exact no (T := "list") rfl rfl (.base (.lst (r1.sub _ _ g1)))
      | none => cases ei
      | bool d => cases ei
      | tuple d => cases ei
      | dict d => cases ei
    | obj n =>
      obtain ⟨a1, rfl, hi⟩ := b
      have ei : (match s1.ob[n]? with | some (.ins c' _) => if c' = c then some true else none | some (.lst _) => some false | _ => none) = some k := ei
      cases eo : s1.ob[n]? with
      | none => rw [eo] at ei; cases ei
      | some o =>
        rw [eo] at ei
        clear p
        cases o with
        | dct xs => cases ei
        | mix xs => cases ei
        | lst xs =>
          cases ei
          obtain ⟨vs, h1, _⟩ := r1.ob n a1 _ hi eo
          exact no (T := "list") rfl rfl (.base (.lst h1))
        | ins c' fs =>
          have ei2 : (if c' = c then some true else none) = some k := ei
          clear ei
          by_cases ec : c' = c
          · rw [if_pos ec] at ei2
            have ek := Option.some.inj ei2
            subst ek
            subst ec
            obtain ⟨C', dx, gs, h0, h1, _, _⟩ := r1.ob n a1 _ hi eo
            rw [hc] at h0
            subst h0
            exact ⟨.ref a1, .ref C, .ref C, .ref C, true, rfl, .own C, .base (.ins h1 hC hI.ca hn ht hI.mr), by unfold PySem.W.kitOne; rw [if_pos (by simp)], fin⟩
          · rw [if_neg ec] at ei2
            cases ei2
end
/-! ### xs[1::-1], two items or more -/
def vRev1 (a : Val) : Option Val := match asL a with
  | some (x0 :: x1 :: _) => some (.own [x1, x0])
  | _ => none
def tRev1 (K : PySem.W.Frag) (te : TE) : TE := fun σ H Q => te σ H fun x H1 => ∃ a x0 x1 xs, x = .ref a ∧ SqL K H1 a (x0 :: x1 :: xs) ∧ ∀ p, H1 p = none → Q (.ref p) (upd H1 p (.lst [x1, x0]))
theorem pick1 (v0 v1 : Value) (vs : List Value) : slicePick (v0 :: v1 :: vs).toArray (some 1) none (some (-1)) = #[v1, v0] := by
  unfold slicePick
  have hb : sliceBounds (some 1) none (some (-1)) (v0 :: v1 :: vs).toArray.size = (1, -1, -1) := by
    simp [sliceBounds]
    omega
  rw [hb]
  show ((sliceRange 1 (-1) (-1)).filterMap ((v0 :: v1 :: vs).toArray[·]?)).toArray = _
  have hr : sliceRange 1 (-1) (-1) = [1, 0] := by decide
  rw [hr]
  simp
section
variable {X : Cx}
theorem pe_rev1 {e : Expr} {te : TE} {k k0 : Nat} {p0 p1 p2 p3 pos : Pos} (he : PE X e te) : PE X (.Subscript e (.Slice (some (.Constant (.int 1) k0 p0)) none (some (.UnaryOp .USub (.Constant (.int 1) k p1) p2)) p3) pos) (tRev1 X.K te) := by
  constructor
  intro pins s σ H Q I h
  have st : PO X (some (.UnaryOp .USub (.Constant (.int 1) k p1) p2)) (tPart (tUn (rU fun i => .int (-i)) (tC (.int 1)))) := po_some (pe_un un_neg pe_int)
  have lo : PO X (some (.Constant (.int 1) k0 p0)) (tPart (tC (.int 1))) := po_some pe_int
  refine Subscript_ (thn (he.run pins s σ H _ I h) ?_)
  rintro v s1 ⟨x, H1, I1, r1, q1⟩
  refine wpAny_Slice (thn (lo.run pins s1 σ H1 (fun o G => o = some 1 ∧ G = H1) I1 ⟨1, rfl, rfl, rfl⟩) ?_)
  rintro vl s2 ⟨l, H2, I2, pl, rfl, rfl⟩
  refine thn (po_none.run pins s2 σ H2 (fun o G => o = none ∧ G = H2) I2 ⟨rfl, rfl⟩) ?_
  rintro vu s3 ⟨u, H3, I3, pu, rfl, rfl⟩
  refine thn (st.run pins s3 σ H3 (fun o G => o = some (-1) ∧ G = H3) I3 ⟨1, rfl, -1, rfl, rfl, rfl⟩) ?_
  rintro vs s4 ⟨o, H4, I4, ps, rfl, rfl⟩
  have I5 : Inv X pins σ H4 { s4 with heap := s4.heap.push { cls := .type "slice", data := .fields #[vl, vu, vs] } } := I4.kept (t' := s4.toks) fun b ob q => Heap.get?_push_of_some _ q
  obtain ⟨a, x0, x1, xs, rfl, hx, q⟩ := q1
  cases r1
  obtain ⟨its, r, ht, hz⟩ := I5.list hx
  have hlen := Vals.length r
  cases r with
  | cons r0 r =>
    cases r with
    | cons r1 r' =>
      show wpAny (model X.prog X.w) X.A (subscriptTail e _ (.ref a) (.ref s4.heap.objs.size)) (EP X pins σ Q) X.xe _
      refine tail_any (ops := [.ref a, .ref s4.heap.objs.size]) ht.isList.typeIs (PySem.slot_list_getitem.lookup) (wpAny_getItem_list_slice ht.isList (Heap.IsSliceOf.new _ vl vu vs) pl pu ps (by decide) ?_ (by rw [List.size_toArray]; omega)) (by with_unfolding_all rfl)
      rw [pick1]
      exact ⟨.ref _, _, I5.laid (t' := s4.toks) (o := .lst [x1, x0]) (fun b ob q => Heap.get?_push_of_some _ q) (Nat.le_refl _) ⟨by rw [sizeLine_eq]; simp, _, 0, .cons r1 (.cons r0 .nil), Heap.get?_push_size _ rfl⟩, rfl, q _ (I5.hok.fresh (Nat.le_refl _))⟩
end
section
variable {Z : Sur} {cs : Cs} {σ : L2.St} {H : Hp} {W : WX}
theorem den_rev1 {a : Opd} {Q : VK} (h : denV Z cs (mUn (fun _ => vRev1) a) W σ H Q) : tRev1 Z.K (tOpd Z cs W a) σ H Q := by
  obtain ⟨G, io, s, r, h⟩ := h
  refine tOpd.mono (fun w H1 q => ?_) (opd1 r h)
  obtain ⟨v, G1, io1, s1, r1, e1, b, p⟩ := q
  have p : Aft Z σ G1 io1 W (pV Z σ Q) (giv s1 (vRev1 v)) := p
  unfold vRev1 at p
  cases ea : asL v with
  | none => rw [ea] at p; exact p.elim
  | some ds =>
    rw [ea] at p
    match ds, ea, p with
    | [], _, p => exact p.elim
    | [_], _, p => exact p.elim
    | d0 :: d1 :: ds, ea, p =>
      obtain ⟨a1, v1, rfl, h1, dd⟩ := b.asL ea r1.sub
      cases dd with
      | cons q0 dd =>
        cases dd with
        | cons q1 dd =>
          exact ⟨a1, _, _, _, rfl, SqL.of h1, fun pp hp => p G1 io1 _ (r1.new hp (.lst _)) (Ext.refl _ _) _ (VT.newL r1 hp (.cons q1 (.cons q0 .nil)))⟩
end
end CH

/-! CH7: from the text's expressions to combinators, and that this is right. -/
namespace CH
open PySem L2

/-- a def that is called by its name: its number, its parameters, its defaults -/
structure Fnd where
  id : Nat
  np : Nat
  dfl : List PyData
  kw : Option (Nat × Str)
/-- the text's surroundings: slots by name, the scope, defs, the module's constants, built-in names that stand -/
structure Ctx where
  N : List Str
  sc : Scope
  fn : List (Str × Fnd)
  fh : List (Str × Fnd)
  gc : List (Str × PyData)
  fr : List Str
  top : Bool
  hot : Bool
  cl : List (Str × Nat)
  hx : Option (Str × Nat)
  /-- classes that can be made, their __init__; methods; fields -/
  oc : List (Str × Nat)
  ms : List (Str × (Str × Fnd))
  at_ : List (Str × Str)
  /-- names that hold list objects; instances, and their classes -/
  ol : List Str
  oi : List (Str × Str)

def findIx (x : Str) : List Str → Nat → Option Nat
  | [], _ => none
  | y :: r, k => if y = x then some k else findIx x r (k + 1)
theorem findIx_ok {x : Str} : ∀ {l : List Str} {k i : Nat}, findIx x l k = some i → k ≤ i ∧ l[i - k]? = some x
  | [], _, _, h => by cases h
  | y :: r, k, i, h => by
    unfold findIx at h
    split at h
    · rename_i e
      cases h
      exact ⟨Nat.le_refl _, by simp [e]⟩
    · obtain ⟨h1, h2⟩ := findIx_ok h
      refine ⟨by omega, ?_⟩
      have : i - k = (i - (k + 1)) + 1 := by omega
      rw [this]
      simpa using h2
theorem findIx_get {x : Str} {l : List Str} {i : Nat} (h : findIx x l 0 = some i) : l[i]? = some x := by
  have := (findIx_ok h).2
  simpa using this
def isVis : Option NameKind → Bool
  | some .local => true
  | some .cell => true
  | some .free => true
  | _ => false
def isLoc : Option NameKind → Bool
  | some .local => true
  | some .cell => true
  | _ => false
def isGlo : Option NameKind → Bool
  | some .globalImplicit => true
  | _ => false
def dbg (x : Str) : Bool := x == ("__debug__" : Str) || x == ("__classdict__" : Str) || x == ("__name__" : Str)
def Ctx.slot (c : Ctx) (x : Str) : Option Nat := if isVis (c.sc.names.lookup x) && !dbg x then findIx x c.N 0 else none
/-- a name that a target stores -/
def Ctx.store (c : Ctx) (x : Str) : Option Nat := if isLoc (c.sc.names.lookup x) then findIx x c.N 0 else none
def Ctx.glo (c : Ctx) (x : Str) : Bool := isGlo (c.sc.names.lookup x) && !dbg x
def Ctx.free (c : Ctx) (x : Str) : Bool := c.glo x && c.fr.contains x

abbrev Rc := Ctx → (Expr → M Val) × (Expr → M Bool)
def compC : Const → M Val
  | .none => mCon .none
  | .bool b => mCon (.bool b)
  | .int i => mCon (.int i)
  | .str x => if PyData.strOk x then mCon (.str x) else mNo
  | _ => mNo
def opd (c : Ctx) (f : Expr → M Val) (e : Expr) : Opd := match e with
  | .Name x _ => (match c.slot x with
    | some i => .pk i
    | none => .ev (f e))
  | _ => .ev (f e)
def andV : List (M Val) → M Val
  | [] => mNo
  | [f] => f
  | f :: g :: r => mAnd f (andV (g :: r))
def orV : List (M Val) → M Val
  | [] => mNo
  | [f] => f
  | f :: g :: r => mOr f (orV (g :: r))
def andB : List (M Bool) → M Bool
  | [] => mNo
  | [f] => f
  | f :: g :: r => bAnd f (andB (g :: r))
def orB : List (M Bool) → M Bool
  | [] => mNo
  | [f] => f
  | f :: g :: r => bOr f (orB (g :: r))
def tyOf (x : Str) : Option Ty := if x = "int" then some .int else if x = "bool" then some .bool else if x = "str" then some .str else if x = "tuple" then some .tuple else if x = "list" then some .list else none
def noStar : Expr → Bool
  | .Starred _ _ => false
  | _ => true
def vToL (a : Val) : Option Val := match a with
  | .dat (.tuple ds) => some (.own ds)
  | _ => (match asL a with
    | some ds => some (.own ds)
    | none => none)
def vToT (a : Val) : Option Val := match a with
  | .dat (.tuple ds) => some (.dat (.tuple ds))
  | _ => (match asL a with
    | some ds => some (.dat (.tuple ds))
    | none => none)
def txtsOf : List PyData → Option (List Str)
  | [] => some []
  | .str x :: r => (txtsOf r).map (x :: ·)
  | _ => none
def intsD : List PyData → Option (List Int)
  | [] => some []
  | .int i :: r => (intsD r).map (i :: ·)
  | _ => none
def rowsOf : List PyData → Option (List (List Int))
  | [] => some []
  | .tuple ds :: r => (match intsD ds, rowsOf r with
    | some ns, some ks => some (ns :: ks)
    | _, _ => none)
  | _ => none
def tupI (ns : List Int) : PyData := .tuple (ns.map .int)
/-- rows of ints, each once -/
def dedW : List (List Int) → List (List Int)
  | [] => []
  | k :: r => if k ∈ dedW r then dedW r else k :: dedW r
/-- sorted(set(xs)), texts or tuples of ints -/
def vSS (a : Val) : Option Val := match asL a with
  | some ds => (match txtsOf ds with
    | some xs => if xs.length < 4000 then some (.own ((srtS xs).map .str)) else none
    | none => (match rowsOf ds with
      | some ks => if ks.length < 64 then some (.own ((isrtW (dedW ks)).map tupI)) else none
      | none => none))
  | none => none
/-- z.join(xs) -/
def vJoin (z : Str) (a : Val) : Option Val := match asL a with
  | some ds => (match txtsOf ds with
    | some xs => if (xs.map (·.length)).sum + xs.length * z.length ≤ big then some (.dat (.str (Txt.join z xs))) else none
    | none => none)
  | none => none
/-- len(set(xs)), texts -/
def vLS (a : Val) : Option Val := match asL a with
  | some ds => (match txtsOf ds with
    | some xs => if xs.length < 4000 then some (.dat (.int (dedS xs).length)) else none
    | none => none)
  | none => none
/-- max(i, j) -/
def vMax2 : Val → Val → Option Val
  | .dat (.int i), .dat (.int j) => some (.dat (.int (if j > i then j else i)))
  | _, _ => none
/-- sorted(xs), tuples of ints; b: backwards -/
def vSW (b : Bool) (a : Val) : Option Val := match asL a with
  | some ds => (match rowsOf ds with
    | some ks => some (.own ((if b = true then (isrtW ks).reverse else isrtW ks).map tupI))
    | none => none)
  | none => none
def maxI : List Int → Int
  | [] => 0
  | [a] => a
  | a :: r => if maxI r ≤ a then a else maxI r
def vMax (a : Val) : Option Val := match asL a with
  | some ds => (match intsD ds with
    | some (n :: ns) => some (.dat (.int (maxI (n :: ns))))
    | _ => none)
  | none => none
/-- the last parameter by its name -/
noncomputable def compCallK (c : Ctx) (f : Expr → M Val) (x : Str) (args : List Expr) (k : Str) (e : Expr) : M Val :=
  match c.fn.lookup x with
  | some d => if c.glo x && args.all noStar && decide (args.length + 1 = d.np) && decide (0 < args.length) && decide (d.kw = some (args.length, k)) then mCall d.id (args.map f ++ [f e]) [] else mNo
  | none => (match args, e with
    | [a], .Constant (.bool true) _ _ => if x = "sorted" && c.free x && noStar a && decide (k = "reverse") then mUn (fun _ => vSW true) (opd c f a) else mNo
    | [a], .Name g _ => if x = "sorted" && c.free x && noStar a && decide (k = "key") && c.glo g then (match c.fn.lookup g with
      | some d => if d.np = 1 ∧ d.dfl = [] then mSortK d.id (opd c f a) else mNo
      | none => mNo) else mNo
    | _, _ => mNo)
/-- calls by name, no keywords -/
def compCall (c : Ctx) (f : Expr → M Val) (x : Str) (args : List Expr) : M Val :=
  match c.fn.lookup x with
  | some d => if c.glo x && args.all noStar && decide (d.np ≤ args.length + d.dfl.length) && decide (args.length ≤ d.np) then mCall d.id (args.map f) (d.dfl.drop (args.length + d.dfl.length - d.np)) else mNo
  | none => if c.free x && args.all noStar then (match args with
      | [a] => if x = "len" then (match a with
        | .Call (.Name y _) [b] [] _ => if y = "set" && c.free y && noStar b then mUn (fun _ => vLS) (opd c f b) else mUn (fun _ => vLen) (opd c f a)
        | _ => mUn (fun _ => vLen) (opd c f a)) else if x = "list" then mUn (fun _ => vToL) (opd c f a) else if x = "tuple" then mUn (fun _ => vToT) (opd c f a) else if x = "sorted" then (match a with
        | .Call (.Name y _) [b] [] _ => if y = "set" && c.free y && noStar b then mUn (fun _ => vSS) (opd c f b) else mUn (fun _ => vSW false) (opd c f a)
        | _ => mUn (fun _ => vSW false) (opd c f a)) else if x = "max" then mUn (fun _ => vMax) (opd c f a) else mNo
      | [a, .Name t _] => if x = "isinstance" && c.free t then (match tyOf t with
          | some ty => mUn (fun _ v => bV (isa ty v)) (opd c f a)
          | none => mNo) else mNo
      | [a, b] => if x = "max" then mBin (fun _ => vMax2) (opd c f a) (opd c f b) else mNo
      | _ => mNo) else mNo
/-- isinstance(a, t) -/
def compIsa (c : Ctx) (f : Expr → M Val) (x : Str) (args : List Expr) : M Val := match args with
  | [a, .Name t _] => if x = "isinstance" && c.free x && noStar a && c.free t then (match tyOf t with
      | some ty => mUn (fun _ v => bV (isa ty v)) (opd c f a)
      | none => mNo) else mNo
  | _ => mNo
/-- in an except clause: defs that do not raise; isinstance(e, C), e its name -/
def compHot (c : Ctx) (f : Expr → M Val) (x : Str) (args : List Expr) : M Val := match c.fh.lookup x with
  | some d => if c.glo x && args.all noStar && decide (args.length = d.np) && decide (0 < args.length) then mCallN d.id (args.map f) else mNo
  | none => (match args, c.hx with
    | [.Name n _, .Name t _], some (m, i) => if x = "isinstance" && c.free x && decide (n = m) && decide (c.slot n = some i) then
        (match c.cl.lookup t with
        | some k => if c.glo t then mIsE i (some k) else mNo
        | none => if t = "ValueError" && c.free t then mIsE i none else mNo) else compIsa c f x args
    | _, _ => compIsa c f x args)
def compAtt (c : Ctx) (fe : Expr → M Val) (n : Str) (pn : Pos) (f : Str) : M Val := match c.hx with
  | some (m, i) => if c.hot && decide (n = m) && decide (c.slot n = some i) then mFldE i f else mNo
  | none => if c.hot then mNo else (match c.at_.lookup f with
    | some k => mFld k (fe (.Name n pn)) f
    | none => mNo)
/-- a list object: a field, a name that is told to hold one -/
def objE (c : Ctx) : Expr → Bool
  | .Attribute (.Name _ _) f _ => !c.hot && (c.at_.lookup f).isSome
  | .Name x _ => !c.hot && c.ol.contains x
  | .Subscript (.Name x _) _ _ => !c.hot && c.ol.contains x
  | _ => false
/-- an instance, and its class -/
def insE (c : Ctx) : Expr → Option Str
  | .Name x _ => c.oi.lookup x
  | .Call (.Name x _) [] [] _ => if (c.oc.lookup x).isSome then some x else none
  | _ => none
/-- nothing but super() is read in another way ahead of a point -/
def plainO : Expr → Bool
  | .Call (.Name x _) [] [] _ => decide (x ≠ "super")
  | _ => true
def isCallO : Expr → Bool
  | .Call f a k p => plainO (.Call f a k p)
  | _ => false
/-- a list object, or a fresh list made one -/
def fO (c : Ctx) (f : Expr → M Val) (o : Expr) : M Val := if objE c o then f o else mToO (f o)
/-- o.m(..), a method of the text -/
def compMeth (c : Ctx) (f : Expr → M Val) (o : Expr) (m : Str) (args : List Expr) (apos pos : Pos) : M Val := match c.ms.lookup m with
  | some (k, d) => if !c.hot && (plainO o && ((apos.endLine == pos.line) && (args.all noStar && (decide (args.length < 20) && (decide (d.np ≤ 1 + args.length + d.dfl.length) && decide (1 + args.length ≤ d.np)))))) then mMeth k m d.id (f o) (args.map f) (d.dfl.drop (1 + args.length + d.dfl.length - d.np)) else mNo
  | none => if !c.hot && ((objE c o || isCallO o) && (apos.endLine == pos.line)) then (match args with
    | [] => if m = "pop" then mObM oPop (fO c f o) [] else if m = "clear" then mObM oClr (fO c f o) [] else mNo
    | [a] => if noStar a && decide (m = "append") then mObM oApp (fO c f o) [f a] else mNo
    | _ => mNo) else mNo
/-- o.m(a, k=e) -/
def compMethK (c : Ctx) (f : Expr → M Val) (o : Expr) (m : Str) (a : Expr) (k : Str) (e : Expr) (apos pos : Pos) : M Val := match c.ms.lookup m with
  | some (q, d) => if !c.hot && (plainO o && ((apos.endLine == pos.line) && (noStar a && (decide (d.np = 3) && decide (d.kw = some (2, k)))))) then mMeth q m d.id (f o) [f a, f e] [] else mNo
  | none => mNo
/-- C() -/
def compNew (c : Ctx) (f : Expr → M Val) (x : Str) (args : List Expr) : M Val := match c.oc.lookup x, args with
  | some id, [] => if c.glo x then mNew x id else mNo
  | some _, _ :: _ => mNo
  | none, args => compCall c f x args
/-- a class's own def without arguments -/
def ownM (c : Ctx) (k m : Str) (n : Nat) : Option Nat := match c.ms.lookup m with
  | some (k', d) => if k' = k ∧ d.np = n ∧ d.dfl = [] then some d.id else none
  | none => none
/-- len(o), str(o), o an instance -/
def compOwn (c : Ctx) (f : Expr → M Val) (x : Str) (args : List Expr) : M Val := match args with
  | [a] => (match insE c a with
    | some k => if x = "len" then (if c.free x && noStar a then (match ownM c k "__len__" 1 with
        | some id => mOwn k id kLen (f a)
        | none => mNo) else mNo) else if x = "str" then (if c.free x && noStar a then (match ownM c k "__str__" 1 with
        | some id => mOwn k id kStr (f a)
        | none => mNo) else mNo) else compNew c f x args
    | none => compNew c f x args)
  | [a, .Name t tp] => if x = "isinstance" && c.free x && noStar a && c.glo t && (c.oc.lookup t).isSome then mIsO t (opd c f a) else compNew c f x [a, .Name t tp]
  | args => compNew c f x args
def isOl (c : Ctx) : Expr → Bool
  | .Name x _ => !c.hot && c.ol.contains x
  | _ => false
/-- a op b -/
def compCmp (c : Ctx) (f : Expr → M Val) (a : Expr) (op : CmpOp) (b : Expr) : M Val :=
  if isOl c b && op == .Eq then mEqM false (opd c f a) (opd c f b) else if isOl c b && op == .NotEq then mEqM true (opd c f a) (opd c f b) else
  if !c.hot && op == .Eq && (insE c a).isSome then (match insE c a with
    | some k => (match ownM c k "__eq__" 2 with
      | some id => mEqO k id (opd c f a) (opd c f b)
      | none => mNo)
    | none => mNo) else mBin (fun cs x y => bV (vCmp cs op x y)) (opd c f a) (opd c f b)
def isTup : Expr → Bool
  | .Tuple _ _ _ => true
  | _ => false
/-- what is walked, to a target -/
def compSrc (c : Ctx) (f : Expr → M Val) (tg it : Expr) : Option Src := match it with
  | .Call (.Name x _) args [] _ => if c.free x && args.all noStar then (match args with
      | [a] => if x = "range" then some (.range1 (f a)) else if x = "enumerate" then (if isTup tg then some (.enum (f a)) else none) else if x = "reversed" then some (.rev (f a)) else some (.seq (f it))
      | [a, b] => if x = "range" then some (.range2 (f a) (f b)) else if x = "zip" then (if isTup tg then some (.zip (f a) (f b)) else none) else some (.seq (f it))
      | [a, b, c'] => if x = "range" then some (.range3 (f a) (f b) (f c')) else some (.seq (f it))
      | _ => none) else some (.seq (f it))
  | .Set _ _ _ => none
  | _ => if objE c it then some (.objl (f it)) else some (.seq (f it))
def compTg (c : Ctx) : Nat → Expr → Option Tg
  | 0, _ => none
  | n + 1, e => match e with
    | .Name x _ => (c.store x).map .nm
    | .Tuple es _ _ => if es.all noStar then (es.mapM (compTg c n)).map .tup else none
    | _ => none
def ownOf (N : List Str) (sc : Scope) : List (Str × Nat) := sc.names.filterMap fun (x, k) => if isLoc (some k) then (findIx x N 0).map fun i => (x, i) else none
def Ctx.blk (c : Ctx) (sc : Scope) : Ctx := { c with sc := sc, top := false }
def compLC (rec : Rc) (c : Ctx) (elt tg it : Expr) (ifs : List Expr) (sc : Scope) : M Val :=
  if c.top && !c.hot && blkC c.N c.sc sc (ownOf c.N sc) then
    match compSrc c (rec c).1 tg it, compTg (c.blk sc) 8 tg, ifs with
    | some src, some t, [] => mCompX src t ((ownOf c.N sc).map (·.2)) none ((rec (c.blk sc)).1 elt)
    | some src, some t, [i] => mCompX src t ((ownOf c.N sc).map (·.2)) (some ((rec (c.blk sc)).2 i)) ((rec (c.blk sc)).1 elt)
    | _, _, _ => mNo
  else mNo
def isRev : Expr → Bool
  | .UnaryOp .USub (.Constant (.int 1) _ _) _ => true
  | _ => false
noncomputable def compE (rec : Rc) (c : Ctx) (e : Expr) : M Val := match e with
  | .Constant k _ _ => compC k
  | .Name x _ => (match c.slot x with
    | some i => mVar i
    | none => if c.glo x then (match c.gc.lookup x with
      | some d => mCon d
      | none => mNo) else mNo)
  | .Tuple es _ _ => if es.all noStar && decide (es.length ≤ big) then mTup (es.map (rec c).1) else mNo
  | .List es _ => if es.all noStar && decide (es.length ≤ big) then (if es.any (isOl c) then mMix (es.map (rec c).1) else mLst (es.map (rec c).1)) else mNo
  | .BinOp a op b _ => mBin (fun _ => vBin op) (opd c (rec c).1 a) (opd c (rec c).1 b)
  | .UnaryOp op a _ => (match op with
    | .Not => mUn (fun _ v => bV ((vTru v).map (!·))) (opd c (rec c).1 a)
    | .USub => mUn (fun _ => vNeg) (opd c (rec c).1 a)
    | _ => mNo)
  | .IfExp t a b _ => mIf ((rec c).2 t) ((rec c).1 a) ((rec c).1 b)
  | .BoolOp op es _ => (match op with
    | .And => andV (es.map (rec c).1)
    | .Or => orV (es.map (rec c).1))
  | .Compare a ops bs _ => (match ops, bs with
    | [op], [b] => if behindInMarks op b then mNo else compCmp c (rec c).1 a op b
    | [op, op'], [b, d] => if lastMarks [op, op'] [b, d] then mNo else mChain op op' (opd c (rec c).1 a) (opd c (rec c).1 b) (opd c (rec c).1 d)
    | _, _ => mNo)
  | .Subscript a i _ => (match i with
    | .Slice lo hi none _ => mSl (opd c (rec c).1 a) (lo.map (rec c).1) (hi.map (rec c).1)
    | .Slice none none (some st) _ => if isRev st then mUn (fun _ => vRev) (opd c (rec c).1 a) else mNo
    | .Slice (some (.Constant (.int 1) _ _)) none (some st) _ => if isRev st then mUn (fun _ => vRev1) (opd c (rec c).1 a) else mNo
    | .Slice _ _ _ _ => mNo
    | i => if isOl c a then mIdxM (opd c (rec c).1 a) (opd c (rec c).1 i) else mBin (fun _ => vIdx) (opd c (rec c).1 a) (opd c (rec c).1 i))
  | .Call (.Attribute (.Constant (.str z) _ _) m apos) [a] [] pos => if m = "join" && (apos.endLine == pos.line) && noStar a && PyData.strOk z then mUn (fun _ => vJoin z) (opd c (rec c).1 a) else mNo
  | .Call (.Attribute o m apos) args [] pos => compMeth c (rec c).1 o m args apos pos
  | .Call (.Attribute o m apos) [a] [⟨some k, e, _⟩] pos => compMethK c (rec c).1 o m a k e apos pos
  | .Call (.Name x _) args [] _ => if c.hot then compHot c (rec c).1 x args else compOwn c (rec c).1 x args
  | .Call (.Name x _) args [⟨some k, e, _⟩] _ => if c.hot then mNo else compCallK c (rec c).1 x args k e
  | .Attribute (.Name n pn) f _ => compAtt c (rec c).1 n pn f
  | .ListComp elt [⟨tg, it, ifs, a⟩] sc _ => if a = 0 then compLC rec c elt tg it ifs sc else mNo
  | _ => mNo
noncomputable def testE (rec : Rc) (c : Ctx) (e : Expr) : M Bool := match e with
  | .UnaryOp .Not x _ => bNot ((rec c).2 x)
  | .BoolOp op es _ => (match op with
    | .And => andB (es.map (rec c).2)
    | .Or => orB (es.map (rec c).2))
  | .Compare _ _ _ _ => bVal (compE rec c e)
  | .IfExp _ _ _ _ => mNo
  | e => bTru (opd c (compE rec c) e)
noncomputable def compT : Nat → Rc
  | 0, _ => (fun _ => mNo, fun _ => mNo)
  | n + 1, c => (compE (compT n) c, testE (compT n) c)

/-! ### it is right -/
/-- a def that can be called -/
structure CallOk (X : Cx) (Z : Sur) (cs : Cs) (x : Str) (d : Fnd) : Prop where
  ok : ∃ k f fd ps, FnOk X.prog X.w X.K X.mg X.base (L2.CX X.prog X.w) k f fd ps (spOf Z.K Z.cla d.np (cs.run d.id)) ∧ Room k X.A ∧ X.mg x = some (.ref f) ∧ PySem.W.keepIn X.K (.ref f) = true ∧
    (∀ m, d.np ≤ m + d.dfl.length → m ≤ d.np → ∃ ds dvs, cVs (d.dfl.drop (m + d.dfl.length - d.np)) = some dvs ∧ m + dvs.length = d.np ∧ Vals dvs ds ∧ Binds X.K fd ps ds) ∧
    ∀ n q, d.kw = some (n, q) → KBn X.K fd ps n [q] (· ++ ·) (· ++ ·)
/-- what the written part says of an own class over ValueError -/
structure ExK (K : PySem.W.Frag) (C : Addr) : Prop where
  kp : PySem.W.keepIn K (.ref C) = true
  sb : PySem.W.subIn K (.ref C) (.type "BaseException") = some true
  ty : PySem.W.typeIn K (.ref C) = some (.type "type")
  cl : (PySem.W.clsIn K C).isSome = true
  hd : PySem.W.hasDictIn K C = true
  ga : PySem.W.findIn K (.ref C) "__getattribute__" = some (some (.builtin "BaseException.__getattribute__"))
  gg : PySem.W.findIn K (.ref C) "__getattr__" = some none
  ca : PySem.W.findIn K (.ref C) "__class__" = some (some (.builtin "object.__class__"))
  mr : PySem.W.mroIn K C (.type "object") = some true
structure KxOk (K : PySem.W.Frag) (cla : Nat → Option Addr) : Prop where
  kx : ∀ n C, cla n = some C → ExK K C
  kf : ∀ n C f, cla n = some C → fldOf n = some f → PySem.W.findIn K (.ref C) f = some none ∧ OexC K C
  k0 : ∀ n C, cla n = some C → fldOf n = none → PySem.W.excIn K C He.veBase "ValueError.__new__" = true
  kr : ∀ n C m D, cla n = some C → cla m = some D → PySem.W.exmOne K (.ref C) (.ref D) = some (subc n m) ∧ PySem.W.kitOne K (.ref C) (.ref D) = some (subc n m)
  kv : ∀ n C, cla n = some C → PySem.W.kitOne K (.ref C) (.type "ValueError") = some true
  hn : PySem.W.specialIn K (.builtin "object.__class__") "__get__" = some (some (.builtin "getset_descriptor.__get__"))
  ht : PySem.W.takesIn K (.builtin "object.__class__") = some true
/-- the class can be called: its __init__ keeps spIni -/
def MkOk (X : Cx) (C : Addr) (f : Str) : Prop := ∃ fI fd, PySem.W.findIn X.K (.ref C) "__init__" = some (some (.ref fI)) ∧ PySem.W.typeIn X.K (.ref fI) = some (.type "function") ∧ FnOk X.prog X.w X.K X.mg X.base (L2.CX X.prog X.w) 1 fI fd ["self", f] (spIni X.K C f) ∧ Room 2 X.A ∧ Binds X.K fd ["self", f] []
/-- an except clause's suite: the exception in hand -/
def HotOk (c : Ctx) (X : Cx) (Z : Sur) (cs : Cs) : Prop := ∃ X0 p ob qs cls d e, X = Cx.suite X0 p ((p, ob) :: qs) ∧ Zc cls d ob ∧ (∃ fs, ob.data = .fields fs) ∧ cs.xn = some e ∧ XH Z e cls d Z.xf ∧ ∀ n i, c.hx = some (n, i) → Z.xs = some (i, p)
/-- a def that can be called in an except clause -/
structure CallH (X : Cx) (Z : Sur) (cs : Cs) (x : Str) (d : Fnd) : Prop where
  ok : ∃ k f fd ps, FnC X.prog X.w X.K X.mg X.base (L2.CX X.prog X.w) k f fd ps (spOf Z.K Z.cla d.np fun a o => noXC (cs.run d.id a o)) ∧ L2H.RoomH k X.A ∧ X.mg x = some (.ref f) ∧ PySem.W.keepIn X.K (.ref f) = true ∧ Binds X.K fd ps []
/-- a class that can be made -/
def NewOk (X : Cx) (Z : Sur) (cs : Cs) (x : Str) (id : Nat) : Prop := X.mg x = some (.ref (He.ga X.K x)) ∧ ∃ k f fd ps, Mk X.K (He.ga X.K x) f ∧ FnOk X.prog X.w X.K X.mg X.base (L2.CX X.prog X.w) k f fd ps (spOf Z.K Z.cla 1 (cs.low id)) ∧ Room (k + 1) X.A ∧ Binds X.K fd ps []
/-- a method -/
def MethOk (X : Cx) (Z : Sur) (cs : Cs) (m x : Str) (d : Fnd) : Prop := Cls X.K (He.ga X.K x) ∧ ∃ k f fd ps, Meth X.K (He.ga X.K x) m f ∧ FnOk X.prog X.w X.K X.mg X.base (L2.CX X.prog X.w) k f fd ps (spOf Z.K Z.cla d.np (cs.run d.id)) ∧ Room k X.A ∧
    (∀ m, d.np ≤ m + d.dfl.length → m ≤ d.np → ∃ ds dvs, cVs (d.dfl.drop (m + d.dfl.length - d.np)) = some dvs ∧ m + dvs.length = d.np ∧ Vals dvs ds ∧ Binds X.K fd ps ds) ∧ PySem.W.keepIn X.K (.ref f) = true ∧
    ∀ n q, d.kw = some (n, q) → KBn X.K fd ps n [q] (· ++ ·) (· ++ ·)
/-- a def one level below -/
def CallLo (X : Cx) (Z : Sur) (cs : Cs) (x : Str) (d : Fnd) : Prop := ∃ k f fd ps, FnOk X.prog X.w X.K X.mg X.base (L2.CX X.prog X.w) k f fd ps (spOf Z.K Z.cla d.np (cs.low d.id)) ∧ Room (k + 1) X.A ∧ X.mg x = some (.ref f) ∧ (d.dfl = [] → Binds X.K fd ps [])
/-- a method one level below -/
def MethLo (X : Cx) (Z : Sur) (cs : Cs) (m x : Str) (d : Fnd) : Prop := ∃ k f fd ps, Meth X.K (He.ga X.K x) m f ∧ FnOk X.prog X.w X.K X.mg X.base (L2.CX X.prog X.w) k f fd ps (spOf Z.K Z.cla d.np (cs.low d.id)) ∧ Room (k + 1) X.A ∧ (d.dfl = [] → Binds X.K fd ps [])
/-- the context fits the text's surroundings -/
structure Good (c : Ctx) (X : Cx) (Z : Sur) (cs : Cs) : Prop where
  hK : X.K = Z.K
  hN : X.N = c.N
  nd : c.N.Nodup
  vis : ∀ x, isVis (c.sc.names.lookup x) = true → Vis X.env.scope x
  loc : ∀ x, isLoc (c.sc.names.lookup x) = true → Loc X.env.scope x ∧ (X.fn x = true ∨ X.env.scope.names.lookup x = some .local)
  gl : ∀ x, isGlo (c.sc.names.lookup x) = true → Gl X x
  calm : c.hot = false → X.calm = true
  units : X.A.units + rm cs < cLine
  fns : c.hot = false → ∀ x d, c.fn.lookup x = some d → CallOk X Z cs x d
  gcs : ∀ x d, c.gc.lookup x = some d → ∃ v u, X.mg x = some u ∧ RelV v u ∧ ∀ G, DR Z.K G v d
  frs : ∀ x, c.fr.contains x = true → X.mg x = none
  scp : c.top = true → X.env.scope = c.sc ∧ X.env.scope.kind = .function
  xs : c.hot = false → Z.xs = none ∧ Z.xf = none
  stk : c.top = true → X.stack = X.env :: X.outer ∧ X.env.frame = some X.env.locals
  kxo : KxOk X.K Z.cla
  cls : ∀ x n, c.cl.lookup x = some n → ∃ C, Z.cla n = some C ∧ X.mg x = some (.ref C)
  mkf : c.hot = false → 2 ≤ cs.lv → ∀ n C f, Z.cla n = some C → fldOf n = some f → MkOk X C f
  hot : c.hot = true → c.hx ≠ none → HotOk c X Z cs
  fhs : ∀ x d, c.fh.lookup x = some d → CallH X Z cs x d
  htp : c.hot = true → HotP X
  ocs : c.hot = false → 1 ≤ cs.lv → ∀ x id, c.oc.lookup x = some id → NewOk X Z cs x id
  mts : c.hot = false → ∀ m k d, c.ms.lookup m = some (k, d) → MethOk X Z cs m k d
  mlo : c.hot = false → 1 ≤ cs.lv → ∀ m k d, c.ms.lookup m = some (k, d) → MethLo X Z cs m k d
  flo : c.hot = false → 1 ≤ cs.lv → ∀ x d, c.fn.lookup x = some d → CallLo X Z cs x d
  iso : ∀ x id, c.oc.lookup x = some id → X.mg x = some (.ref (He.ga X.K x)) ∧ Cls X.K (He.ga X.K x) ∧ IsoOk X.K (He.ga X.K x)
  ats : ∀ f k, c.at_.lookup f = some k → Cls X.K (He.ga X.K k) ∧ NoAttr X.K (He.ga X.K k) f
structure RcOk (rec : Rc) (c : Ctx) : Prop where
  e : ∀ X Z cs W, Good c X Z cs → Takes X W → ∀ e, PE X e (denV Z cs ((rec c).1 e) W)
  t : ∀ X Z cs W, Good c X Z cs → Takes X W → ∀ e, PT X e (denB Z cs ((rec c).2 e) W)

section
variable {c : Ctx} {X : Cx} {Z : Sur} {cs : Cs} {W : WX}
theorem dbg_no {x : Str} (h : dbg x = false) : (x == ("__debug__" : Str)) = false ∧ (x == ("__classdict__" : Str)) = false ∧ x ≠ "__name__" := by
  unfold dbg at h
  rw [Bool.or_eq_false_iff, Bool.or_eq_false_iff] at h
  exact ⟨h.1.1, h.1.2, fun z => by rw [z] at h; simp at h⟩
theorem slot_pe (g : Good c X Z cs) {x : Str} {i : Nat} {pos : Pos} (h : c.slot x = some i) : PE X (.Name x pos) (tVar i) := by
  unfold Ctx.slot at h
  split at h
  · rename_i hh
    rw [Bool.and_eq_true] at hh
    obtain ⟨d1, d2, _⟩ := dbg_no (x := x) (by simpa using hh.2)
    exact pe_var (by rw [g.hN]; exact findIx_get h) (g.vis x hh.1) d1 d2
  · cases h
theorem opd_pe (g : Good c X Z cs) {f : Expr → M Val} (hf : ∀ e, PE X e (denV Z cs (f e) W)) (e : Expr) : PE X e (tOpd Z cs W (opd c f e)) := by
  unfold opd
  split
  · rename_i x pos
    split
    · rename_i i h
      exact slot_pe g h
    · exact hf _
  · exact hf _
theorem star_cons {e : Expr} {es : List Expr} {env : Env} (h : noStar e = true) : starEach (e :: es) env = (false, eval e env) :: starEach es env := by
  cases e <;> first | rfl | cases h
theorem star_any {es : List Expr} {env : Env} {pos : Pos} (h : es.all noStar = true) : (backTo pos (starEach es env)).any (·.1) = false := by
  induction es with
  | nil => rfl
  | cons e es ih =>
    rw [List.all_cons, Bool.and_eq_true] at h
    rw [star_cons h.1]
    show (false || (backTo pos (starEach es env)).any (·.1)) = false
    rw [ih h.2]
    rfl
theorem args_pa {f : Expr → M Val} (hf : ∀ e, PE X e (denV Z cs (f e) W)) : ∀ {es : List Expr}, es.all noStar = true → PA X es (denA Z cs (mArgs (es.map f)) W)
  | [], _ => PA.imp pa_nil fun σ H Q h => den_args_nil h
  | e :: es, h => by
    rw [List.all_cons, Bool.and_eq_true] at h
    exact PA.imp (pa_cons (hf e) (args_pa hf h.2) (star_cons h.1)) fun σ H Q q => den_args_cons q
theorem const_pe (k : Const) (j : Nat) (pos : Pos) : PE X (.Constant k j pos) (denV Z cs (compC k) W) := by
  cases k with
  | none => exact PE.imp pe_non fun σ H Q h => den_con (fun _ => .non) h
  | bool b => exact PE.imp pe_bl fun σ H Q h => den_con (fun _ => .bl b) h
  | int i => exact PE.imp pe_int fun σ H Q h => den_con (fun _ => .int i) h
  | str x =>
    show PE X _ (denV Z cs (if PyData.strOk x = true then mCon (.str x) else mNo) W)
    by_cases o : PyData.strOk x = true
    · rw [if_pos o]
      exact PE.imp pe_str fun σ H Q h => den_con (fun _ => .str x o) h
    · rw [if_neg o]
      exact PE.never fun σ H Q => no_denV
  | float _ => exact PE.never fun σ H Q => no_denV
  | complex _ _ => exact PE.never fun σ H Q => no_denV
  | bytes _ => exact PE.never fun σ H Q => no_denV
  | ellipsis => exact PE.never fun σ H Q => no_denV
theorem no_pe {e : Expr} : PE X e (denV Z cs mNo W) := PE.never fun σ H Q => no_denV
theorem no_pt {e : Expr} : PT X e (denB Z cs mNo W) := PT.never fun σ H Q => no_denB
theorem andV_pe {f : Expr → M Val} (g : Good c X Z cs) (hf : ∀ e, PE X e (denV Z cs (f e) W)) {pos : Pos} : ∀ (es : List Expr), PE X (.BoolOp .And es pos) (denV Z cs (andV (es.map f)) W)
  | [] => no_pe
  | [e] => pe_one (hf e)
  | e :: e' :: es => PE.imp (pe_andT (hf e) (andV_pe g hf (e' :: es))) fun σ H Q h => by rw [g.hK]; exact den_and h
theorem orV_pe {f : Expr → M Val} (g : Good c X Z cs) (hf : ∀ e, PE X e (denV Z cs (f e) W)) {pos : Pos} : ∀ (es : List Expr), PE X (.BoolOp .Or es pos) (denV Z cs (orV (es.map f)) W)
  | [] => no_pe
  | [e] => pe_one (hf e)
  | e :: e' :: es => PE.imp (pe_orT (hf e) (orV_pe g hf (e' :: es))) fun σ H Q h => by rw [g.hK]; exact den_or h
theorem PW.imp {e : Expr} {t t' : TT} (h : PW X e t) (f : ∀ σ H Q, t' σ H Q → t σ H Q) : PW X e t' := ⟨fun wh pins s σ H Q I q => h.run wh pins s σ H Q I (f σ H Q q)⟩
theorem andB_pw {f : Expr → M Bool} (hf : ∀ e, PT X e (denB Z cs (f e) W)) {pos : Pos} : ∀ (es : List Expr), PW X (.BoolOp .And es pos) (denB Z cs (andB (es.map f)) W)
  | [] => ⟨fun wh pins s σ H Q I h => absurd h no_denB⟩
  | [e] => pw_and1 (hf e)
  | e :: e' :: es => PW.imp (pw_and (hf e) (andB_pw hf (e' :: es))) fun σ H Q h => den_bAnd h
theorem orB_pw {f : Expr → M Bool} (hf : ∀ e, PT X e (denB Z cs (f e) W)) {pos : Pos} : ∀ (es : List Expr), PW X (.BoolOp .Or es pos) (denB Z cs (orB (es.map f)) W)
  | [] => ⟨fun wh pins s σ H Q I h => absurd h no_denB⟩
  | [e] => pw_or1 (hf e)
  | e :: e' :: es => PW.imp (pw_or (hf e) (orB_pw hf (e' :: es))) fun σ H Q h => den_bOr h
theorem un_neg_v : UnR X (unaryOp .USub) (rU1 Z vNeg) := by
  intro pins s σ H x v Q I rx ⟨a, r, G, io, hx, e, q⟩
  unfold vNeg at e
  split at e
  · cases e
    cases DR.int_ hx
    exact un_neg pins s σ H _ v Q I rx ⟨_, rfl, q.dat (.int _)⟩
  · cases e
theorem tolv (hK : X.K = Z.K) : CallR X (.type "list") (rC1 Z vToL) := by
  intro pins s σ H xs us Q I rv ⟨x, ex, a, r, G, io, hx, e, q⟩
  subst ex
  have g := q.sub
  unfold vToL at e
  split at e
  · cases e
    obtain ⟨a1, v1, rfl, t1, d1⟩ := DR.tup_ hx
    exact call_list_of pins s σ H _ us Q I rv ⟨a1, v1, rfl, .inr (by rw [hK]; exact g.sqT t1), q.newL d1⟩
  · split at e
    · rename_i ds ed
      cases e
      obtain ⟨a1, v1, rfl, h1, d1⟩ := hx.asL ed g
      exact call_list_of pins s σ H _ us Q I rv ⟨a1, v1, rfl, .inl (SqL.of h1), q.newL d1⟩
    · cases e
theorem totv (hK : X.K = Z.K) : CallR X (.type "tuple") (rC1 Z vToT) := by
  intro pins s σ H xs us Q I rv ⟨x, ex, a, r, G, io, hx, e, q⟩
  subst ex
  have g := q.sub
  unfold vToT at e
  split at e
  · cases e
    obtain ⟨a1, v1, rfl, t1, d1⟩ := DR.tup_ hx
    exact call_tuple_of pins s σ H _ us Q I rv ⟨a1, v1, rfl, .inr ⟨by rw [hK]; exact g.sqT t1, q.dat (.tup t1 d1)⟩⟩
  · split at e
    · rename_i ds ed
      cases e
      obtain ⟨a1, v1, rfl, h1, d1⟩ := hx.asL ed g
      exact call_tuple_of pins s σ H _ us Q I rv ⟨a1, v1, rfl, .inl ⟨SqL.of h1, q.newT d1⟩⟩
    · cases e
theorem txts_vs {K : PySem.W.Frag} {G : Hp} : ∀ {ds : List PyData} {xs : List Str} {vs : List V}, txtsOf ds = some xs → DRs K G vs ds → vs = xs.map V.str ∧ ∀ x ∈ xs, PyData.strOk x = true
  | [], xs, vs, e, h => by
    cases e
    cases h
    exact ⟨rfl, fun _ z => by cases z⟩
  | d :: ds, xs, vs, e, h => by
    cases h with
    | cons h1 h2 =>
      cases d with
      | str x =>
        cases q : txtsOf ds with
        | none =>
          have e : (txtsOf ds).map (x :: ·) = some xs := e
          rw [q] at e
          cases e
        | some ys =>
          have e : (txtsOf ds).map (x :: ·) = some xs := e
          rw [q] at e
          cases e
          obtain ⟨r1, r2⟩ := txts_vs q h2
          cases h1 with
          | str _ ok =>
            refine ⟨by rw [r1]; rfl, fun y hy => ?_⟩
            rcases List.mem_cons.mp hy with z | z
            · rw [z]; exact ok
            · exact r2 y z
      | none => cases e
      | bool _ => cases e
      | int _ => cases e
      | list _ => cases e
      | tuple _ => cases e
      | dict _ => cases e
theorem txts_dr {K : PySem.W.Frag} {G : Hp} : ∀ {xs : List Str}, (∀ x ∈ xs, PyData.strOk x = true) → DRs K G (xs.map V.str) (xs.map PyData.str)
  | [], _ => .nil
  | x :: xs, h => .cons (.str x (h x List.mem_cons_self)) (txts_dr fun y hy => h y (List.mem_cons_of_mem _ hy))
theorem Rs.newL2 {Q : VK} {G H : Hp} {io : List Addr} {vs : List V} {ds : List PyData} (h : Rs Z Q G io H (.own ds)) (hd : DRs Z.K G vs ds) : ∀ a o p, H a = none → upd H a o p = none → Q (.ref p) (upd (upd H a o) p (.lst vs)) := by
  obtain ⟨σ, s, r, q⟩ := h
  intro a o p ha hp
  have r2 := r.new ha o
  exact q _ io _ (r2.new hp (.lst vs)) (Ext.refl _ _) _ (VT.newL r2 hp hd)
theorem ints_vs {K : PySem.W.Frag} {G : Hp} : ∀ {ds : List PyData} {ns : List Int} {vs : List V}, intsD ds = some ns → DRs K G vs ds → vs = ns.map V.int ∧ ds = ns.map PyData.int
  | [], ns, vs, e, h => by
    cases e
    cases h
    exact ⟨rfl, rfl⟩
  | d :: ds, ns, vs, e, h => by
    cases h with
    | cons h1 h2 =>
      cases d with
      | int i =>
        cases q : intsD ds with
        | none =>
          have e : (intsD ds).map (i :: ·) = some ns := e
          rw [q] at e
          cases e
        | some ys =>
          have e : (intsD ds).map (i :: ·) = some ns := e
          rw [q] at e
          cases e
          obtain ⟨r1, r2⟩ := ints_vs q h2
          cases h1
          exact ⟨by rw [r1]; rfl, by rw [r2]; rfl⟩
      | none => cases e
      | bool _ => cases e
      | str _ => cases e
      | list _ => cases e
      | tuple _ => cases e
      | dict _ => cases e
theorem ints_dr {K : PySem.W.Frag} {G : Hp} : ∀ ns : List Int, DRs K G (ns.map V.int) (ns.map PyData.int)
  | [] => .nil
  | n :: ns => .cons (.int n) (ints_dr ns)
theorem rows_vs {K : PySem.W.Frag} {G : Hp} : ∀ {ds : List PyData} {ks : List (List Int)} {vs : List V}, rowsOf ds = some ks → DRs K G vs ds → ∃ ps : List (Addr × List Int), vs = ps.map (fun p => V.ref p.1) ∧ ps.map (·.2) = ks ∧ ∀ p ∈ ps, SqT K G p.1 (p.2.map V.int)
  | [], ks, vs, e, h => by
    cases e
    cases h
    exact ⟨[], rfl, rfl, fun _ z => by cases z⟩
  | d :: ds, ks, vs, e, h => by
    cases h with
    | cons h1 h2 =>
      cases d with
      | tuple xs =>
        cases q1 : intsD xs with
        | none => simp only [rowsOf, q1] at e; cases e
        | some ns =>
          cases q2 : rowsOf ds with
          | none => simp only [rowsOf, q1, q2] at e; cases e
          | some ys =>
            simp only [rowsOf, q1, q2] at e
            cases e
            obtain ⟨ps, rfl, rfl, r3⟩ := rows_vs q2 h2
            obtain ⟨a1, v1, rfl, t1, d1⟩ := DR.tup_ h1
            obtain ⟨rfl, _⟩ := ints_vs q1 d1
            refine ⟨(a1, ns) :: ps, rfl, rfl, fun p hp => ?_⟩
            rcases List.mem_cons.mp hp with z | z
            · rw [z]; exact t1
            · exact r3 p z
      | none => cases e
      | bool _ => cases e
      | str _ => cases e
      | list _ => cases e
      | int _ => cases e
      | dict _ => cases e
theorem rows_dr {K : PySem.W.Frag} {G : Hp} : ∀ {ps : List (Addr × List Int)}, (∀ p ∈ ps, SqT K G p.1 (p.2.map V.int)) → DRs K G (ps.map fun p => V.ref p.1) ((ps.map (·.2)).map tupI)
  | [], _ => .nil
  | p :: ps, h => .cons (.tup (h p List.mem_cons_self) (ints_dr _)) (rows_dr fun q hq => h q (List.mem_cons_of_mem _ hq))
theorem dedW_mem (ks : List (List Int)) (x : List Int) : x ∈ dedW ks ↔ x ∈ ks := by
  induction ks with
  | nil => rfl
  | cons k r ih =>
    unfold dedW
    split
    · rename_i h
      rw [ih, List.mem_cons]
      constructor
      · exact .inr
      · rintro (rfl | z)
        · exact ih.mp h
        · exact z
    · rw [List.mem_cons, List.mem_cons, ih]
theorem dedW_nd (ks : List (List Int)) : (dedW ks).Nodup := by
  induction ks with
  | nil => exact List.nodup_nil
  | cons k r ih =>
    unfold dedW
    split
    · exact ih
    · rename_i h
      exact List.nodup_cons.mpr ⟨h, ih⟩
theorem ssv {x : V} {H : Hp} {Q : VK} {w : World} {P : Program} {K : PySem.W.Frag} (hK : K = Z.K) (h : rU1 Z vSS x H Q) : (rSetX K w [x] H fun v H2 => rSortX w [v] H2 Q ∨ rSortTW K P w [v] H2 Q) ∨ (rSetOfT K P w [x] H fun v H2 => rSortX w [v] H2 Q ∨ rSortTW K P w [v] H2 Q) := by
  obtain ⟨a, r, G, io, hx, e, q⟩ := h
  have g := q.sub
  unfold vSS at e
  split at e
  · rename_i ds ed
    split at e
    · rename_i xs ex
      by_cases hl : xs.length < 4000
      · rw [if_pos hl] at e
        cases e
        obtain ⟨a1, v1, rfl, h1, d1⟩ := hx.asL ed g
        obtain ⟨rfl, ok⟩ := txts_vs ex d1
        refine .inl ⟨a1, xs, rfl, SqL.of h1, by unfold scanBound; omega, fun a0 h0 => .inl ⟨a0, dedS xs, rfl, upd_same, fun ys p pm so hp => ?_⟩⟩
        have ey := srtS_of pm so
        subst ey
        exact q.newL2 (txts_dr fun y hy => ok y ((srtS_mem xs y).mp hy)) _ _ p h0 hp
      · rw [if_neg hl] at e
        cases e
    · split at e
      · rename_i ks ek
        by_cases hl : ks.length < 64
        · rw [if_pos hl] at e
          cases e
          obtain ⟨a1, v1, rfl, h1, d1⟩ := hx.asL ed g
          obtain ⟨ps, rfl, rfl, hp⟩ := rows_vs ek d1
          rw [List.length_map] at hl
          refine .inr ⟨a1, ps, rfl, SqL.of h1, fun p m => by rw [hK]; exact g.sqT (hp p m), hl, fun a0 L h0 hL1 hL2 => .inr ⟨a0, L, rfl, upd_same, fun p m => ?_, fun M p pm nd so hf => ?_⟩⟩
          · rw [hK]
            exact (Sub.upd h0).sqT (g.sqT (hp p (hL1 p m)))
          · have eq : M.map (·.2) = isrtW (dedW (ps.map (·.2))) := by
              refine srtW_uniq _ _ so (isrtW_srt _) (((List.perm_ext_iff_of_nodup nd (dedW_nd _)).mpr fun z => ?_).trans (isrtW_perm _).symm)
              rw [dedW_mem]
              constructor
              · intro hz
                obtain ⟨m, hm, rfl⟩ := List.mem_map.mp hz
                exact List.mem_map.mpr ⟨m, hL1 m (pm.mem_iff.mp hm), rfl⟩
              · intro hz
                obtain ⟨m, hm, rfl⟩ := List.mem_map.mp hz
                obtain ⟨m', hm', e'⟩ := List.mem_map.mp (hL2 m hm)
                exact List.mem_map.mpr ⟨m', pm.mem_iff.mpr hm', e'⟩
            rw [← eq] at q
            exact q.newL2 (rows_dr fun z hz => hp z (hL1 z (pm.mem_iff.mp hz))) _ _ p h0 hf
        · rw [if_neg hl] at e
          cases e
      · cases e
  · cases e
theorem lsv {x : V} {H : Hp} {Q : VK} {w : World} {K : PySem.W.Frag} (h : rU1 Z vLS x H Q) : rSetX K w [x] H fun v H2 => rLenX w [v] H2 Q := by
  obtain ⟨a, r, G, io, hx, e, q⟩ := h
  have g := q.sub
  unfold vLS at e
  split at e
  · rename_i ds ed
    split at e
    · rename_i xs ex
      by_cases hl : xs.length < 4000
      · rw [if_pos hl] at e
        cases e
        obtain ⟨a1, v1, rfl, h1, d1⟩ := hx.asL ed g
        obtain ⟨rfl, ok⟩ := txts_vs ex d1
        refine ⟨a1, xs, rfl, SqL.of h1, by unfold scanBound; omega, fun a0 h0 => ⟨a0, dedS xs, rfl, upd_same, ?_⟩⟩
        obtain ⟨σ, s, r, q⟩ := q
        exact q G io _ (r.new h0 _) (Ext.refl _ _) _ ⟨.int _, fun _ _ z => by cases z⟩
      · rw [if_neg hl] at e
        cases e
    · cases e
  · cases e
theorem join_ok {z : Str} : ∀ {xs : List Str}, PyData.strOk z = true → (∀ x ∈ xs, PyData.strOk x = true) → PyData.strOk (Txt.join z xs) = true := by
  intro xs hz hx
  rw [strOk_iff]
  have key : ∀ (r : List Str) (acc : Array Nat), (∀ c ∈ acc.toList, c < 0x110000) → (∀ x ∈ r, PyData.strOk x = true) → ∀ c ∈ (r.foldl (fun acc p => acc ++ z.cps ++ p.cps) acc).toList, c < 0x110000 := by
    intro r
    induction r with
    | nil => intro acc h _; exact h
    | cons x r ih =>
      intro acc h hr
      refine ih _ (fun c hc => ?_) fun y hy => hr y (List.mem_cons_of_mem _ hy)
      rw [Array.toList_append, Array.toList_append, List.mem_append, List.mem_append] at hc
      rcases hc with (hc | hc) | hc
      · exact h c hc
      · exact strOk_iff.mp hz c hc
      · exact strOk_iff.mp (hr x List.mem_cons_self) c hc
  cases xs with
  | nil => intro c hc; exact absurd hc (by simp [Txt.join, Builtin.Str.glued, Str.empty])
  | cons x r => exact key r x.cps (strOk_iff.mp (hx x List.mem_cons_self)) fun y hy => hx y (List.mem_cons_of_mem _ hy)
theorem joinv {z : Str} {x : V} {H : Hp} {Q : VK} {K : PySem.W.Frag} (hz : PyData.strOk z = true) (h : rU1 Z (vJoin z) x H Q) : ∃ a p, ∃ ys : List Str, (V.str z) = .str a ∧ [x] = [.ref p] ∧ (SqL K H p (ys.map V.str) ∨ SqT K H p (ys.map V.str)) ∧ (ys.map (·.length)).sum + ys.length * a.length ≤ 16777216 ∧ Q (.str (Txt.join a ys)) H := by
  obtain ⟨a, r, G, io, hx, e, q⟩ := h
  have g := q.sub
  unfold vJoin at e
  split at e
  · rename_i ds ed
    split at e
    · rename_i xs ex
      by_cases hl : (xs.map (·.length)).sum + xs.length * z.length ≤ big
      · rw [if_pos hl] at e
        cases e
        obtain ⟨a1, v1, rfl, h1, d1⟩ := hx.asL ed g
        obtain ⟨rfl, ok⟩ := txts_vs ex d1
        exact ⟨z, a1, xs, rfl, rfl, .inl (SqL.of h1), hl, q.dat (.str _ (join_ok hz ok))⟩
      · rw [if_neg hl] at e
        cases e
    · cases e
  · cases e
theorem max2v {x y : V} {H : Hp} {Q : VK} (h : rB Z vMax2 x y H Q) : ∃ i j, [x, y] = [.int i, .int j] ∧ Q (.int (if j > i then j else i)) H := by
  obtain ⟨v, v', r, G, io, hx, hy, e, q⟩ := h
  unfold vMax2 at e
  split at e
  · rename_i i j
    cases e
    rw [DR.int_ hx, DR.int_ hy]
    exact ⟨i, j, rfl, q.dat (.int _)⟩
  · cases e
theorem swv {b : Bool} {x : V} {H : Hp} {Q : VK} (hK : X.K = Z.K) (h : rU1 Z (vSW b) x H Q) : rSrtW X.K b [x] H Q := by
  obtain ⟨a, r, G, io, hx, e, q⟩ := h
  have g := q.sub
  unfold vSW at e
  split at e
  · rename_i ds ed
    split at e
    · rename_i ks ek
      cases e
      obtain ⟨a1, v1, rfl, h1, d1⟩ := hx.asL ed g
      obtain ⟨ps, rfl, rfl, hp⟩ := rows_vs ek d1
      refine ⟨a1, ps, rfl, SqL.of h1, fun p m => by rw [hK]; exact g.sqT (hp p m), fun qs p pm so hf => ?_⟩
      have eq : qs.map (·.2) = if b = true then (isrtW (ps.map (·.2))).reverse else isrtW (ps.map (·.2)) := by
        cases b with
        | false =>
          rw [if_neg (by simp)] at so ⊢
          exact srtW_uniq _ _ so (isrtW_srt _) ((pm.map _).trans (isrtW_perm _).symm)
        | true =>
          rw [if_pos rfl] at so ⊢
          have := srtW_uniq _ _ so (isrtW_srt (ps.map (·.2))) ((((List.reverse_perm qs).trans pm).map _).trans (isrtW_perm _).symm)
          rw [List.map_reverse] at this
          rw [← this, List.reverse_reverse]
      rw [← eq] at q
      exact q.newL (rows_dr fun z hz => hp z (pm.mem_iff.mp hz)) p hf
    · cases e
  · cases e
theorem maxI_mem : ∀ (n : Int) (ns : List Int), maxI (n :: ns) ∈ n :: ns
  | n, [] => List.mem_cons_self
  | n, m :: ns => by
    show (if maxI (m :: ns) ≤ n then n else maxI (m :: ns)) ∈ _
    split
    · exact List.mem_cons_self
    · exact List.mem_cons_of_mem _ (maxI_mem m ns)
theorem maxI_ge : ∀ (n : Int) (ns : List Int) (y : Int), y ∈ n :: ns → y ≤ maxI (n :: ns)
  | n, [], y, h => by
    rcases List.mem_cons.mp h with z | z
    · rw [z]; exact Int.le_refl _
    · cases z
  | n, m :: ns, y, h => by
    show y ≤ (if maxI (m :: ns) ≤ n then n else maxI (m :: ns))
    rcases List.mem_cons.mp h with z | z
    · split <;> omega
    · have := maxI_ge m ns y z
      split <;> omega
theorem maxv {x : V} {H : Hp} {Q : VK} (h : rU1 Z vMax x H Q) : rMax X.K [x] H Q := by
  obtain ⟨a, r, G, io, hx, e, q⟩ := h
  have g := q.sub
  unfold vMax at e
  split at e
  · rename_i ds ed
    split at e
    · rename_i n ns ek
      cases e
      obtain ⟨a1, v1, rfl, h1, d1⟩ := hx.asL ed g
      obtain ⟨rfl, _⟩ := ints_vs ek d1
      refine ⟨a1, n :: ns, rfl, SqL.of h1, by simp, fun m hm hy => ?_⟩
      have : m = maxI (n :: ns) := Int.le_antisymm (maxI_ge n ns m hm) (hy _ (maxI_mem n ns))
      rw [this]
      exact q.dat (.int _)
    · cases e
  · cases e
theorem call1 {op : Val → Option Val} {a : Opd} {σ : St} {H : Hp} {Q : VK} (h : denV Z cs (mUn (fun _ => op) a) W σ H Q) : tCB (rC1 Z op) (tCons (tOpd Z cs W a) tNil) σ H Q :=
  tOpd.mono (fun w H1 h1 => ⟨w, rfl, h1⟩) (den_un h)
theorem glo_gl (g : Good c X Z cs) {x : Str} (h : c.glo x = true) : Gl X x ∧ (x == ("__debug__" : Str)) = false ∧ x ≠ "__name__" := by
  unfold Ctx.glo at h
  rw [Bool.and_eq_true] at h
  obtain ⟨d1, _, d3⟩ := dbg_no (x := x) (by simpa using h.2)
  exact ⟨g.gl x h.1, d1, d3⟩
theorem free_ok (g : Good c X Z cs) {x : Str} (h : c.free x = true) : Gl X x ∧ X.mg x = none ∧ (x == ("__debug__" : Str)) = false ∧ x ≠ "__name__" := by
  unfold Ctx.free at h
  rw [Bool.and_eq_true] at h
  obtain ⟨a, b, d⟩ := glo_gl g h.1
  exact ⟨a, g.frs x h.2, b, d⟩
theorem tyOf_ok {x : Str} {t : Ty} (h : tyOf x = some t) : x = Str.ofString t.nm ∧ bootBuiltins x = some (.type t.nm) := by
  unfold tyOf at h
  repeat' split at h
  all_goals first | (cases h; rename_i e; subst e; exact ⟨rfl, by decide +kernel⟩) | cases h
theorem call_pe (g : Good c X Z cs) (tk : Takes X W) (hot : c.hot = false) {f : Expr → M Val} (hf : ∀ e, PE X e (denV Z cs (f e) W)) (x : Str) (p : Pos) (args : List Expr) (pos : Pos) :
    PE X (.Call (.Name x p) args [] pos) (denV Z cs (compCall c f x args) W) := by
  unfold compCall
  split
  · rename_i d hd
    split
    · rename_i hh
      simp only [Bool.and_eq_true, decide_eq_true_eq] at hh
      obtain ⟨⟨⟨h1, h2⟩, h3⟩, h4⟩ := hh
      obtain ⟨g1, g2, g3⟩ := glo_gl g h1
      obtain ⟨k, fa, fd, ps, F, hr, hm, hk, hb, _⟩ := (g.fns hot x d hd).ok
      obtain ⟨ds, dvs, e1, e2, hv, hbn⟩ := hb args.length h3 h4
      have hx : ∀ σ, PassesAt (L2.CX X.prog X.w) X σ (WE W σ) := fun σ => passAt tk σ
      have pa := args_pa (W := W) hf h2
      have im : ∀ σ H Q, denV Z cs (mCall d.id (args.map f) (d.dfl.drop (args.length + d.dfl.length - d.np))) W σ H Q → tCallSD (spOf Z.K Z.cla d.np (cs.run d.id)) dvs (WE W) (denA Z cs (mArgs (args.map f)) W) σ H Q :=
        fun σ H Q h => den_call e1 (by rw [List.length_map]; exact e2) h
      cases args with
      | nil =>
        refine PE.imp (pe_callSD0 (p := p) (pos := pos) F hr g1 hm hk hbn hv hx g2) fun σ H Q h => ?_
        exact den_args_nil (im σ H Q h)
      | cons a as =>
        rw [List.all_cons, Bool.and_eq_true] at h2
        exact PE.imp (pe_callSD F hr g1 hm hk hbn hv hx pa g2 (star_cons h2.1) (star_any h2.2)) im
    · exact no_pe
  · split
    · rename_i hh
      rw [Bool.and_eq_true] at hh
      obtain ⟨hfr, hst⟩ := hh
      obtain ⟨g1, g2, g3, g4⟩ := free_ok g hfr
      split
      · rename_i a
        rw [List.all_cons, Bool.and_eq_true] at hst
        have pa : PA X [a] (tCons (tOpd Z cs W (opd c f a)) tNil) := pa_cons (opd_pe g hf a) pa_nil (star_cons hst.1)
        have un : X.A.units + 64 < cLine := by have := g.units; unfold rm at this; omega
        split
        · rename_i e
          subst e
          split
          · rename_i y py b q
            split
            · rename_i hh2
              simp only [Bool.and_eq_true, decide_eq_true_eq] at hh2
              obtain ⟨⟨ey, hfy⟩, nb⟩ := hh2
              subst ey
              obtain ⟨y1, y2, y3, y4⟩ := free_ok g hfy
              have pb : PA X [b] (tCons (tOpd Z cs W (opd c f b)) tNil) := pa_cons (opd_pe g hf b) pa_nil (star_cons nb)
              have inner : PE X (.Call (.Name "set" py) [b] [] q) _ := pe_callTy (cr_setX (g.calm hot)) y1 y2 (by decide +kernel) pb y4 y3 (star_cons nb) rfl
              refine PE.imp (pe_callB cr_lenX g1 g2 PySem.boot_len (pa_cons inner pa_nil rfl) g4 g3 rfl rfl) fun σ H Q h => ?_
              exact tOpd.mono (fun w H1 h1 => lsv h1) (den_un h)
            · exact PE.imp (pe_callB (lenv g.hK) g1 g2 PySem.boot_len pa g4 g3 (star_cons hst.1) rfl) fun σ H Q h => call1 h
          · exact PE.imp (pe_callB (lenv g.hK) g1 g2 PySem.boot_len pa g4 g3 (star_cons hst.1) rfl) fun σ H Q h => call1 h
        · split
          · rename_i e
            subst e
            exact PE.imp (pe_callTy (tolv g.hK) g1 g2 (by decide +kernel) pa g4 g3 (star_cons hst.1) rfl) fun σ H Q h => call1 h
          · split
            · rename_i e
              subst e
              exact PE.imp (pe_callTy (totv g.hK) g1 g2 (by decide +kernel) pa g4 g3 (star_cons hst.1) rfl) fun σ H Q h => call1 h
            · split
              · rename_i e
                subst e
                split
                · rename_i y py b q
                  split
                  · rename_i hh2
                    simp only [Bool.and_eq_true, decide_eq_true_eq] at hh2
                    obtain ⟨⟨ey, hfy⟩, nb⟩ := hh2
                    subst ey
                    obtain ⟨y1, y2, y3, y4⟩ := free_ok g hfy
                    have cm := g.calm hot
                    have pb : PA X [b] (tCons (tOpd Z cs W (opd c f b)) tNil) := pa_cons (opd_pe g hf b) pa_nil (star_cons nb)
                    have inner : PE X (.Call (.Name "set" py) [b] [] q) _ := pe_callTy (CallR.or (cr_setX cm) (cr_setOfT cm un)) y1 y2 (by decide +kernel) pb y4 y3 (star_cons nb) rfl
                    refine PE.imp (pe_callB (CallR.or (cr_sortX cm) (cr_sortTW cm un)) g1 g2 (by decide +kernel) (pa_cons inner pa_nil rfl) g4 g3 rfl rfl) fun σ H Q h => ?_
                    exact tOpd.mono (fun w H1 h1 => ssv g.hK h1) (den_un h)
                  · refine PE.imp (pe_callB (cr_srtW un) g1 g2 (by decide +kernel) pa g4 g3 (star_cons hst.1) rfl) fun σ H Q h => ?_
                    exact tOpd.mono (fun w H1 h1 => swv g.hK h1) (den_un h)
                · refine PE.imp (pe_callB (cr_srtW un) g1 g2 (by decide +kernel) pa g4 g3 (star_cons hst.1) rfl) fun σ H Q h => ?_
                  exact tOpd.mono (fun w H1 h1 => swv g.hK h1) (den_un h)
              · split
                · rename_i e
                  subst e
                  refine PE.imp (pe_callB (cr_max (g.calm hot)) g1 g2 (by decide +kernel) pa g4 g3 (star_cons hst.1) rfl) fun σ H Q h => ?_
                  exact tOpd.mono (fun w H1 h1 => maxv h1) (den_un h)
                · exact no_pe
      · rename_i a t tp
        rw [List.all_cons, Bool.and_eq_true] at hst
        split
        · rename_i h2
          rw [Bool.and_eq_true] at h2
          obtain ⟨e, ht⟩ := h2
          have e : x = "isinstance" := by simpa using e
          subst e
          obtain ⟨t1, t2, t3, t4⟩ := free_ok g ht
          split
          · rename_i ty hty
            obtain ⟨_, bt⟩ := tyOf_ok hty
            have pt : PE X (.Name t tp) (tC (.ty ty.nm)) := pe_bltn t1 t2 bt rfl t4 t3
            have pa : PA X [a, .Name t tp] (tCons (tOpd Z cs W (opd c f a)) (tCons (tC (.ty ty.nm)) tNil)) := pa_cons (opd_pe g hf a) (pa_cons pt pa_nil rfl) (star_cons hst.1)
            refine PE.imp (pe_callB (isav g.hK ty) g1 g2 (by decide +kernel) pa g4 g3 (star_cons hst.1) rfl) fun σ H Q h => ?_
            exact tOpd.mono (fun w H1 h1 => ⟨w, rfl, h1⟩) (den_un h)
          · exact no_pe
        · exact no_pe
      · rename_i a b _
        rw [List.all_cons, Bool.and_eq_true, List.all_cons, Bool.and_eq_true] at hst
        split
        · rename_i e
          subst e
          have pa : PA X [a, b] (tCons (tOpd Z cs W (opd c f a)) (tCons (tOpd Z cs W (opd c f b)) tNil)) := pa_cons (opd_pe g hf a) (pa_cons (opd_pe g hf b) pa_nil (star_cons hst.2.1)) (star_cons hst.1)
          refine PE.imp (pe_callB (call_max2 (g.calm hot)) g1 g2 (by decide +kernel) pa g4 g3 (star_cons hst.1) (star_any (es := [b]) (by simp [hst.2.1]))) fun σ H Q h => ?_
          exact tOpd.mono (fun w H1 h1 => tOpd.mono (fun w2 H2 h2 => max2v h2) h1) (den_bin h)
        · exact no_pe
      · exact no_pe
    · exact no_pe
/-! ### the last parameter by its name -/
theorem denV.mono {f : M Val} {σ : St} {H : Hp} {Q Q' : VK} (m : ∀ w H, Q w H → Q' w H) (h : denV Z cs f W σ H Q) : denV Z cs f W σ H Q' := by
  obtain ⟨G, io, s, r, h⟩ := h
  exact ⟨G, io, s, r, Aft.mono h fun a G' io' s' H' _ _ q w t => m w H' (q w t)⟩
def tL : List TE → TA
  | [] => tNil
  | t :: r => tCons t (tL r)
theorem den_tL {σ : St} : ∀ {fs : List (M Val)} {H : Hp} {Q : List V → Hp → Prop}, denA Z cs (mArgs fs) W σ H Q → tL (fs.map fun f => denV Z cs f W) σ H Q
  | [], _, _, h => den_args_nil h
  | f :: fs, H, Q, h => denV.mono (fun _ _ q => den_tL q) (den_args_cons h)
theorem tL_app {b : TE} {σ : St} (hb : ∀ (H : Hp) (Q Q' : VK), (∀ w H, Q w H → Q' w H) → b σ H Q → b σ H Q') : ∀ {ts : List TE} {H : Hp} {Q : List V → Hp → Prop}, (∀ t ∈ ts, ∀ (H : Hp) (Q Q' : VK), (∀ w H, Q w H → Q' w H) → t σ H Q → t σ H Q') → tL (ts ++ [b]) σ H Q → tL ts σ H fun vs H1 => tCons b tNil σ H1 fun zs H2 => zs.length = 1 ∧ Q (vs ++ zs) H2
  | [], H, _, _, h => hb H _ _ (fun _ _ q => ⟨rfl, q⟩) h
  | t :: ts, H, Q, ht, h => ht t List.mem_cons_self H _ _ (fun w H1 q => tL_app hb (fun u hu => ht u (List.mem_cons_of_mem _ hu)) q) h
theorem tL_pa {f : Expr → M Val} (hf : ∀ e, PE X e (denV Z cs (f e) W)) : ∀ {es : List Expr}, es.all noStar = true → PA X es (tL ((es.map f).map fun g => denV Z cs g W))
  | [], _ => pa_nil
  | e :: es, h => by
    rw [List.all_cons, Bool.and_eq_true] at h
    exact pa_cons (hf e) (tL_pa hf h.2) (star_cons h.1)
theorem run_fnKW {CX : CXT} {k n : Nat} {f : Addr} {fd : FuncData} {ps ks : List Str} {sp : Sp} {E : St → XK} {g : List Value → List Value → List Value} {gV : List V → List V → List V} {pins : List (Addr × Obj)} {σ : St} {H : Hp} {s : Shared} {Q : VK} {us ws : List Value} {vs zs : List V}
    (F : FnOk X.prog X.w X.K X.mg X.base CX k f fd ps sp) (hr : Room k X.A) (hb : KBn X.K fd ps n ks g gV) (hx : PassesAt CX X σ (E σ)) (I : Inv X pins σ H s) (r : Vals vs us) (rz : Vals zs ws) (l1 : vs.length = n) (l2 : zs.length = ks.length) (h : sp (gV vs zs) H Q (E σ)) :
    wpAny (model X.prog X.w) X.A (call (.ref f) us (ks.zip ws)) (EP X pins σ Q) X.xe s := by
  have got := F.run X.A X.stack s H ⟨us, ks.zip ws⟩ (g us ws) (gV vs zs) Q (E σ) hr I.env0 (hb.to s us ws I.kIn (r.length.symm.trans l1) (rz.length.symm.trans l2)) (hb.rel r rz) h
  refine wpAny_call (codeAny_mono got fun r s' hq => ?_)
  cases r with
  | error e => exact hx pins H s e s' I hq
  | ok fl => cases fl <;> first | exact I.after hq | exact False.elim hq
theorem callk_pe (g : Good c X Z cs) (tk : Takes X W) (hot : c.hot = false) {f : Expr → M Val} (hf : ∀ e, PE X e (denV Z cs (f e) W)) (x : Str) (p : Pos) (args : List Expr) (k : Str) (e : Expr) (kp pos : Pos) :
    PE X (.Call (.Name x p) args [⟨some k, e, kp⟩] pos) (denV Z cs (compCallK c f x args k e) W) := by
  unfold compCallK
  split
  · rename_i d hd
    split
    · rename_i hh
      simp only [Bool.and_eq_true, decide_eq_true_eq] at hh
      obtain ⟨⟨⟨⟨h1, h2⟩, h3⟩, h4⟩, h5⟩ := hh
      obtain ⟨g1, g2, g3⟩ := glo_gl g h1
      obtain ⟨k0, fa, fd, ps, F, hr, hm, hk, _, hb⟩ := (g.fns hot x d hd).ok
      have hb := hb _ _ h5
      have hx : ∀ σ, PassesAt (L2.CX X.prog X.w) X σ (WE W σ) := fun σ => passAt tk σ
      cases args with
      | nil => simp at h4
      | cons a as =>
        have pa := tL_pa (W := W) hf h2
        have pk : PK X [⟨some k, e, kp⟩] (tCons (denV Z cs (f e) W) tNil) := pk_cons (hf e) pk_nil
        rw [List.all_cons, Bool.and_eq_true] at h2
        refine ⟨fun pins s σ H Q I h => ?_⟩
        have h := den_call (n := d.np) (dvs := []) rfl (by simp at h3 ⊢; omega) h
        have h := den_tL h
        rw [List.map_append] at h
        have h := tL_app (b := denV Z cs (f e) W) (fun _ _ _ => denV.mono) (fun t ht _ _ _ m => by
          obtain ⟨u, _, rfl⟩ := List.mem_map.mp ht
          exact denV.mono m) h
        refine wpAny_Call_Name_kw (ld_glob I g1 hm ?_ g2)
        refine PySem.W.callWith_KW (h₀ := X.base) I.ok.mod.kin hk rfl (thn (pa.run pos pins s σ H _ I h) fun us s1 ⟨vs, H1, I1, r, q⟩ => ?_) ?_ (star_cons h2.1)
        · refine thn (pk.run pos pins s1 σ H1 _ I1 q) fun ws s2 ⟨zs, H2, I2, rz, l2, q2⟩ => ⟨I2.kIn, ?_⟩
          have q2 : spOf Z.K Z.cla d.np (cs.run d.id) (vs ++ zs) H2 Q (WE W σ) := by
            have q3 := q2
            rw [List.append_nil] at q3
            exact q3
          have l1 : vs.length = (a :: as).length := by
            obtain ⟨_, _, _, _, hl, _⟩ := q2
            rw [List.length_append, l2] at hl
            omega
          exact run_fnKW F hr hb (hx σ) I2 r rz l1 l2 q2
        · have e1 : (backTo pos (starEach (a :: as) X.env)).any (·.1) = false := star_any (by rw [List.all_cons, h2.1, h2.2]; rfl)
          rw [e1]
          rfl
    · exact no_pe
  · split
    · rename_i a cj cp
      split
      · rename_i hh
        simp only [Bool.and_eq_true, decide_eq_true_eq] at hh
        obtain ⟨⟨⟨ex, hfr⟩, nst⟩, ek⟩ := hh
        subst ex
        subst ek
        obtain ⟨g1, g2, g3, g4⟩ := free_ok g hfr
        have un : X.A.units + 64 < cLine := by have := g.units; unfold rm at this; omega
        have pa : PA X [a] (tCons (tOpd Z cs W (opd c f a)) tNil) := pa_cons (opd_pe g hf a) pa_nil (star_cons nst)
        refine PE.imp (pe_callBK (cr_srtWR un) g1 g2 (by decide +kernel) pa (pk_cons pe_bl pk_nil) g4 g3 (by rw [star_cons nst]; rfl) (star_any (by rw [List.all_cons, nst]; rfl))) fun σ H Q h => ?_
        exact tOpd.mono (fun w H1 h1 => ⟨rfl, swv g.hK h1⟩) (den_un h)
      · exact no_pe
    · rename_i a gn gp
      split
      · rename_i hh
        simp only [Bool.and_eq_true, decide_eq_true_eq] at hh
        obtain ⟨⟨⟨⟨ex, hfr⟩, nst⟩, ek⟩, hgl⟩ := hh
        subst ex
        subst ek
        obtain ⟨g1, g2, g3, g4⟩ := free_ok g hfr
        obtain ⟨q1, q2, _⟩ := glo_gl g hgl
        split
        · rename_i d hd
          split
          · rename_i hn
            by_cases hlv : 1 ≤ cs.lv
            rotate_left
            · refine PE.never fun σ H Q q => ?_
              obtain ⟨G, io, s, r, q⟩ := q
              unfold mSortK at q
              rw [if_neg hlv] at q
              exact q.elim
            obtain ⟨k', fa, fd, ps, F, hr, hm, hb⟩ := g.flo hot hlv gn d hd
            rw [hn.1] at F
            have pa : PA X [a] (tCons (tOpd Z cs W (opd c f a)) tNil) := pa_cons (opd_pe g hf a) pa_nil (star_cons nst)
            have pg : PE X (.Name gn gp) (tC (.ref fa)) := pe_glob q1 hm rfl q2
            refine PE.imp (pe_callBK (cr_sortKey F hr (hb hn.2)) g1 g2 (by decide +kernel) pa (pk_cons pg pk_nil) g4 g3 (by rw [star_cons nst]; rfl) (star_any (by rw [List.all_cons, nst]; rfl))) fun σ H Q h => ?_
            rw [g.hK]
            exact den_sortK h
          · exact no_pe
        · exact no_pe
      · exact no_pe
    · exact no_pe
/-! ### the exception in hand -/
def rIsX (K : PySem.W.Frag) (C p : Addr) (d : Option Addr) : List V → Hp → VK → Prop := fun xs H Q => ∃ (v : V) (u : Value) (b : Bool), xs = [.ref p, v] ∧ (∀ u', RelV v u' → u' = u) ∧ PySem.W.kitOne K (.ref C) u = some b ∧ (d = none ∨ ∃ dd fs, d = some dd ∧ H dd = some (.xd fs)) ∧ Q (.bl b) H
theorem call_isX {X : Cx} {p C : Addr} {ob : Obj} {d : Option Addr} {qs : List (Addr × Obj)} (E : ExK X.K C) (hn : PySem.W.specialIn X.K (.builtin "object.__class__") "__get__" = some (some (.builtin "getset_descriptor.__get__")))
    (ht : PySem.W.takesIn X.K (.builtin "object.__class__") = some true) (hz : Zc (.ref C) d ob) (hf : ∃ fs, ob.data = .fields fs) : CallR (X.suite p ((p, ob) :: qs)) (.builtin "isinstance") (rIsX X.K C p d) := by
  intro pins s σ H xs us Q I rel want
  obtain ⟨v, u, b, rfl, only, kit, dct, fin⟩ := want
  cases rel with
  | cons r1 rr =>
    cases rr with
    | cons r2 rr =>
      cases rr
      cases r1
      obtain rfl := only _ r2
      obtain ⟨got, _⟩ := I.pin (p, ob) (List.mem_append.mpr (.inl List.mem_cons_self))
      obtain ⟨fs, dat⟩ := hf
      have inst : ∃ od, PySem.W.InstAt s.heap p ob C od := by
        rcases dct with rfl | ⟨dd, gs, rfl, at_⟩
        · refine ⟨none, got, hz.1, ?_, ?_⟩
          · unfold PySem.W.notCls
            rw [dat] <;> rfl
          · rw [hz.2]
            trivial
        · have okd : ObjOk X.prog X.w H s.heap dd (.xd gs) := I.hok dd _ at_
          obtain ⟨mA, ns, _⟩ := okd
          obtain ⟨od, ho, _⟩ := lookIn_ns ns
          refine ⟨some od, got, hz.1, ?_, ?_⟩
          · unfold PySem.W.notCls
            rw [dat] <;> rfl
          · rw [hz.2]
            exact ho
      obtain ⟨od, J⟩ := inst
      exact PySem.W.kia_one (PySem.W.kitx_exc E.cl E.ga E.gg E.sb E.ca hn ht E.mr) I.kIn J kit (fun z => nomatch z) fun tk => ⟨.bl b, H, I.kept (t' := tk) fun _ _ z => z, rfl, fin⟩
theorem den_isE {i : Nat} {k : Option Nat} {p C : Addr} {d : Option Addr} {e : Exn} {v : V} {u : Value} {σ : St} {H : Hp} {Q : VK} (hp : Z.xs = some (i, p)) (hx : cs.xn = some e) (xh : XH Z e (.ref C) d Z.xf) (only : ∀ u', RelV v u' → u' = u)
    (kit : PySem.W.kitOne Z.K (.ref C) u = some (match k with
      | some c => subc e.cls c
      | none => true)) (h : denV Z cs (mIsE i k) W σ H Q) : tCB (rIsX Z.K C p d) (tCons (tVar i) (tCons (tC v) tNil)) σ H Q := by
  obtain ⟨G, io, s, r, h⟩ := h
  unfold mIsE at h
  rw [hx] at h
  cases e0 : s.at_ i with
  | some v0 => rw [e0] at h; exact h.elim
  | none =>
    rw [e0] at h
    refine ⟨.ref p, r.xx.sl i p hp e0, v, u, _, rfl, only, kit, ?_, ?_⟩
    · obtain ⟨C', _, _, h3⟩ := xh
      cases ef : e.fld with
      | none => rw [ef] at h3; exact .inl h3.1
      | some q =>
        obtain ⟨g, pd⟩ := q
        rw [ef] at h3
        obtain ⟨dd, w, h4, h5⟩ := h3
        exact .inr ⟨dd, _, h4, (r.xx.fl dd g w pd h5).1⟩
    · exact h G io H r (Ext.refl _ _) _ (.dat (.bl _))
theorem isa_pe (g : Good c X Z cs) {f : Expr → M Val} (hf : ∀ e, PE X e (denV Z cs (f e) W)) (x : Str) (px : Pos) (args : List Expr) (pos : Pos) : PE X (.Call (.Name x px) args [] pos) (denV Z cs (compIsa c f x args) W) := by
  unfold compIsa
  split
  · rename_i a t tp
    split
    · rename_i hh
      simp only [Bool.and_eq_true, decide_eq_true_eq] at hh
      obtain ⟨⟨⟨e, hfr⟩, hst⟩, ht⟩ := hh
      subst e
      obtain ⟨g1, g2, g3, g4⟩ := free_ok g hfr
      obtain ⟨t1, t2, t3, t4⟩ := free_ok g ht
      split
      · rename_i ty hty
        obtain ⟨_, bt⟩ := tyOf_ok hty
        have pt : PE X (.Name t tp) (tC (.ty ty.nm)) := pe_bltn t1 t2 bt rfl t4 t3
        have pa : PA X [a, .Name t tp] (tCons (tOpd Z cs W (opd c f a)) (tCons (tC (.ty ty.nm)) tNil)) := pa_cons (opd_pe g hf a) (pa_cons pt pa_nil rfl) (star_cons hst)
        refine PE.imp (pe_callB (isav g.hK ty) g1 g2 (by decide +kernel) pa g4 g3 (star_cons hst) rfl) fun σ H Q h => ?_
        exact tOpd.mono (fun w H1 h1 => ⟨w, rfl, h1⟩) (den_un h)
      · exact no_pe
    · exact no_pe
  · exact no_pe
theorem hot_pe (g : Good c X Z cs) (hot : c.hot = true) {f : Expr → M Val} (hf : ∀ e, PE X e (denV Z cs (f e) W)) (x : Str) (px : Pos) (args : List Expr) (pos : Pos) : PE X (.Call (.Name x px) args [] pos) (denV Z cs (compHot c f x args) W) := by
  unfold compHot
  split
  · rename_i d hd
    split
    · rename_i hh
      simp only [Bool.and_eq_true, decide_eq_true_eq] at hh
      obtain ⟨⟨⟨h1, h2⟩, h3⟩, h4⟩ := hh
      obtain ⟨g1, g2, g3⟩ := glo_gl g h1
      obtain ⟨k, fa, fd, ps, F, hr, hm, hk, hb⟩ := (g.fhs x d hd).ok
      have pa := args_pa (W := W) hf h2
      cases args with
      | nil => simp at h4
      | cons a as =>
        rw [List.all_cons, Bool.and_eq_true] at h2
        refine PE.imp (pe_callC (E := fun _ _ _ _ => False) F hr (g.htp hot) g1 hm hk hb (fun σ pins H s e s' I c => takes_none5 _ _ (XE.of_call I (fun _ _ _ h => h) c)) pa g2 (star_cons h2.1) (star_any h2.2)) fun σ H Q h => ?_
        exact den_callN (by rw [List.length_map]; exact h3) h
    · exact no_pe
  split
  · rename_i n pn t pt m i hhx
    split
    · rename_i hh
      simp only [Bool.and_eq_true, decide_eq_true_eq] at hh
      obtain ⟨⟨⟨ex, hfr⟩, en⟩, hs⟩ := hh
      subst ex
      obtain ⟨g1, g2, g3, g4⟩ := free_ok g hfr
      have pn' : PE X (.Name n pn) (tVar i) := slot_pe g hs
      obtain ⟨X0, p, ob, qs, cls, d, e, eX, hz, hf, hx, xh, hp⟩ := g.hot hot (by rw [hhx]; simp)
      have hp := hp m i hhx
      obtain ⟨C, c1, c2, _⟩ := id xh
      subst c2
      have kx := g.kxo.kx _ C c1
      have hn := g.kxo.hn
      have ht := g.kxo.ht
      have isC : CallR X (.builtin "isinstance") (rIsX Z.K C p d) := by
        rw [← g.hK]
        rw [eX] at kx hn ht ⊢
        exact call_isX kx hn ht hz hf
      split
      · rename_i k hk
        split
        · rename_i hgt
          obtain ⟨t1, t2, _⟩ := glo_gl g hgt
          obtain ⟨D, d1, d2⟩ := g.cls t k hk
          have pt' : PE X (.Name t pt) (tC (.ref D)) := pe_glob t1 d2 rfl t2
          refine PE.imp (pe_callB isC g1 g2 (by decide +kernel) (pa_cons pn' (pa_cons pt' pa_nil rfl) rfl) g4 g3 rfl rfl) fun σ H Q q => ?_
          refine den_isE (u := .ref D) hp hx xh (fun u' ru => ru) ?_ q
          rw [← g.hK]
          exact (g.kxo.kr _ C _ D c1 d1).2
        · exact no_pe
      · split
        · rename_i h2
          rw [Bool.and_eq_true] at h2
          obtain ⟨et, hft⟩ := h2
          have et : t = "ValueError" := by simpa using et
          subst et
          obtain ⟨t1, t2, t3, t4⟩ := free_ok g hft
          have pt' : PE X (.Name "ValueError" pt) (tC (.ty "ValueError")) := pe_bltn t1 t2 PyProof.Rows.Boot.«ValueError» rfl t4 t3
          refine PE.imp (pe_callB isC g1 g2 (by decide +kernel) (pa_cons pn' (pa_cons pt' pa_nil rfl) rfl) g4 g3 rfl rfl) fun σ H Q q => ?_
          refine den_isE (u := .type "ValueError") hp hx xh (fun u' ru => ru) ?_ q
          rw [← g.hK]
          exact g.kxo.kv _ C c1
        · exact no_pe
    · exact isa_pe g hf x px _ pos
  · exact isa_pe g hf x px _ pos
theorem plainO_ok {o : Expr} {m : Str} {env : Env} (h : plainO o = true) : attributeBase o m env (eval o env) = eval o env := by
  unfold attributeBase
  split
  · rename_i x p q
    have h : decide (x ≠ "super") = true := h
    have h := of_decide_eq_true h
    simp [h]
  · rfl
theorem new_pe (g : Good c X Z cs) (tk : Takes X W) (hot : c.hot = false) {f : Expr → M Val} (hf : ∀ e, PE X e (denV Z cs (f e) W)) (x : Str) (p : Pos) (args : List Expr) (pos : Pos) :
    PE X (.Call (.Name x p) args [] pos) (denV Z cs (compNew c f x args) W) := by
  unfold compNew
  split
  · rename_i id hi
    split
    · rename_i hgl
      obtain ⟨g1, g2, g3⟩ := glo_gl g hgl
      by_cases hlv : 1 ≤ cs.lv
      rotate_left
      · refine PE.never fun σ H Q q => ?_
        obtain ⟨G, io, s, r, q⟩ := q
        unfold mNew at q
        rw [if_neg hlv] at q
        exact q.elim
      obtain ⟨hm, k, fa, fd, ps, M, F, hr, hb⟩ := g.ocs hot hlv x id hi
      have hx : ∀ σ, PassesAt (L2.CX X.prog X.w) X σ (WE W σ) := fun σ => passAt tk σ
      refine PE.imp (pe_makeSD0 (p := p) (pos := pos) M F hr g1 hm hb .nil hx g2) fun σ H Q q => ?_
      exact den_new (by rw [g.hK]) q
    · exact no_pe
  · exact no_pe
  · exact call_pe g tk hot hf x p _ pos
theorem meth_pe (g : Good c X Z cs) (tk : Takes X W) {f : Expr → M Val} (hf : ∀ e, PE X e (denV Z cs (f e) W)) (o : Expr) (m : Str) (args : List Expr) (apos pos : Pos) :
    PE X (.Call (.Attribute o m apos) args [] pos) (denV Z cs (compMeth c f o m args apos pos) W) := by
  unfold compMeth
  split
  · rename_i k d hd
    split
    · rename_i hh
      simp only [Bool.and_eq_true, decide_eq_true_eq, Bool.not_eq_true'] at hh
      obtain ⟨hot, ho, hl, hst, h20, h3, h4⟩ := hh
      obtain ⟨hc, k', fa, fd, ps, M, F, hr, hb, _⟩ := g.mts hot m k d hd
      obtain ⟨ds, dvs, e1, e2, hv, hbn⟩ := hb (1 + args.length) h3 h4
      have hx : ∀ σ, PassesAt (L2.CX X.prog X.w) X σ (WE W σ) := fun σ => passAt tk σ
      have pa := args_pa (W := W) hf hst
      have im : ∀ σ H Q, denV Z cs (mMeth k m d.id (f o) (args.map f) (d.dfl.drop (1 + args.length + d.dfl.length - d.np))) W σ H Q → tMethSD (He.ga X.K k) m (spOf Z.K Z.cla d.np (cs.run d.id)) dvs (WE W) (denV Z cs (f o) W) (denA Z cs (mArgs (args.map f)) W) σ H Q :=
        fun σ H Q h => den_meth (by rw [g.hK]) e1 (by rw [List.length_map]; exact e2) h
      cases args with
      | nil =>
        refine PE.imp (pe_methSD0 (hf o) hc M F hr hbn hv hx (plainO_ok ho) (by simpa using hl)) fun σ H Q h => ?_
        obtain ⟨G, io, s, r, q⟩ := im σ H Q h
        exact ⟨G, io, s, r, q.mono fun v G' io' s' H' r' e' z w t => by
          obtain ⟨a, dx, fs, z1, z2, z3, z4⟩ := z w t
          exact ⟨a, dx, fs, z1, z2, z3, den_args_nil z4⟩⟩
      | cons a as =>
        rw [List.all_cons, Bool.and_eq_true] at hst
        refine PE.imp (pe_methSD (hf o) hc M F hr hbn hv hx pa (star_cons hst.1) (star_any hst.2) (plainO_ok ho) ?_ (by simpa using hl)) im
        have ha : (backTo pos (starEach as X.env)).all (fun x => !x.1) = true := by
          rw [List.all_eq_not_any_not]
          simp only [Bool.not_not]
          rw [star_any hst.2]
          rfl
        rw [star_cons hst.1]
        show (((!false) && (backTo pos (starEach as X.env)).all (fun x => !x.1)) && true && decide ((a :: as).length + 0 + 0 < 30)) = true
        rw [ha]
        have : (a :: as).length + 0 + 0 < 30 := by omega
        simp only [Bool.not_false, Bool.and_self, Bool.true_and, decide_eq_true_eq]
        exact this
    · exact no_pe
  · split
    · rename_i hh
      simp only [Bool.and_eq_true, Bool.not_eq_true', Bool.or_eq_true] at hh
      obtain ⟨hot, ho, hl⟩ := hh
      have hbase : attributeBase o m X.env (eval o X.env) = eval o X.env := by
        rcases ho with ho | ho
        · cases o <;> first | rfl | cases ho
        · cases o <;> first | exact plainO_ok ho | cases ho
      have hfo : PE X o (denV Z cs (fO c f o) W) := by
        unfold fO
        split
        · exact hf o
        · exact PE.imp (hf o) fun σ H Q q => den_toO q
      split
      · split
        · rename_i em
          subst em
          refine PE.imp (pe_bm0 PySem.F.plainAttrs_list PySem.F.slot_list_pop PySem.F.type_list_pop mt_pop hfo hbase hl) fun σ H Q q => ?_
          rw [g.hK]
          obtain ⟨G, io, s, r, q⟩ := den_obM k_pop q
          exact ⟨G, io, s, r, q.mono fun v G' io' s' H' r' e' z w t => by
            obtain ⟨z1, z2⟩ := z w t
            exact ⟨z1, den_args_nil z2⟩⟩
        · split
          · rename_i em
            subst em
            refine PE.imp (pe_bm0 PySem.F.plainAttrs_list PySem.F.slot_list_clear PySem.F.type_list_clear mt_clear hfo hbase hl) fun σ H Q q => ?_
            rw [g.hK]
            obtain ⟨G, io, s, r, q⟩ := den_obM k_clr q
            exact ⟨G, io, s, r, q.mono fun v G' io' s' H' r' e' z w t => by
              obtain ⟨z1, z2⟩ := z w t
              exact ⟨z1, den_args_nil z2⟩⟩
          · exact no_pe
      · rename_i a
        split
        · rename_i hh
          simp only [Bool.and_eq_true, decide_eq_true_eq] at hh
          obtain ⟨hst, em⟩ := hh
          subst em
          have pa : PA X [a] (denA Z cs (mArgs [f a]) W) := args_pa (es := [a]) hf (by rw [List.all_cons, hst]; rfl)
          have few : ((backTo pos (starEach [a] X.env)).all (fun x => !x.1) && (backToKw pos (keywordEach [] X.env)).all (fun x => x.1.isSome) && decide ([a].length + ([] : List Keyword).length + (if ([] : List Keyword).isEmpty then 0 else 1) < 30)) = true := by
            rw [star_cons hst]
            rfl
          refine PE.imp (pe_bm PySem.F.plainAttrs_list PySem.F.slot_list_append PySem.F.type_list_append mt_append hfo pa hbase few hl (star_cons hst) rfl) fun σ H Q q => ?_
          rw [g.hK]
          exact den_obM k_app q
        · exact no_pe
      · exact no_pe
    · exact no_pe
theorem ownM_ok {c : Ctx} {k m : Str} {n id : Nat} (h : ownM c k m n = some id) : ∃ d, c.ms.lookup m = some (k, d) ∧ d.np = n ∧ d.dfl = [] ∧ d.id = id := by
  unfold ownM at h
  split at h
  · rename_i k' d e
    split at h
    · rename_i hh
      cases h
      obtain ⟨rfl, h2, h3⟩ := hh
      exact ⟨d, e, h2, h3, rfl⟩
    · cases h
  · cases h
theorem own_pe (g : Good c X Z cs) (tk : Takes X W) (hot : c.hot = false) {f : Expr → M Val} (hf : ∀ e, PE X e (denV Z cs (f e) W)) (x : Str) (p : Pos) (args : List Expr) (pos : Pos) :
    PE X (.Call (.Name x p) args [] pos) (denV Z cs (compOwn c f x args) W) := by
  have noL : ∀ {k : Str} {id : Nat} {ok : Val → Bool} {a : Expr} {e : Expr}, ¬ 1 ≤ cs.lv → PE X e (denV Z cs (mOwn k id ok (f a)) W) := fun {k id ok a e} hlv => by
    refine PE.never fun σ H Q q => ?_
    obtain ⟨G, io, s, r, q⟩ := q
    unfold mOwn at q
    rw [if_neg hlv] at q
    exact q.elim
  unfold compOwn
  split
  · rename_i a
    split
    · rename_i k hk
      split
      · rename_i ex
        subst ex
        split
        · rename_i hh
          rw [Bool.and_eq_true] at hh
          obtain ⟨hfr, hst⟩ := hh
          obtain ⟨g1, g2, g3, g4⟩ := free_ok g hfr
          split
          · rename_i id hi
            by_cases hlv : 1 ≤ cs.lv
            rotate_left
            · exact noL hlv
            obtain ⟨d, h1, h2, h3, rfl⟩ := ownM_ok hi
            obtain ⟨k', fa, fd, ps, M, F, hr, hb⟩ := g.mlo hot hlv "__len__" k d h1
            rw [h2] at F
            refine PE.imp (pe_callB (call_lenO M F hr (hb h3)) g1 g2 PySem.boot_len (pa_cons (hf a) pa_nil (star_cons hst)) g4 g3 (star_cons hst) rfl) fun σ H Q q => ?_
            exact den_ownO (by rw [g.hK]) (fun b h => lk_len b h) q
          · exact no_pe
        · exact no_pe
      · split
        · rename_i ex
          subst ex
          split
          · rename_i hh
            rw [Bool.and_eq_true] at hh
            obtain ⟨hfr, hst⟩ := hh
            obtain ⟨g1, g2, g3, g4⟩ := free_ok g hfr
            split
            · rename_i id hi
              by_cases hlv : 1 ≤ cs.lv
              rotate_left
              · exact noL hlv
              obtain ⟨d, h1, h2, h3, rfl⟩ := ownM_ok hi
              obtain ⟨k', fa, fd, ps, M, F, hr, hb⟩ := g.mlo hot hlv "__str__" k d h1
              rw [h2] at F
              refine PE.imp (pe_callTy (call_strO M F hr (hb h3)) g1 g2 (by decide +kernel) (pa_cons (hf a) pa_nil (star_cons hst)) g4 g3 (star_cons hst) rfl) fun σ H Q q => ?_
              exact den_ownO (by rw [g.hK]) (fun b h => lk_str b h) q
            · exact no_pe
          · exact no_pe
        · exact new_pe g tk hot hf x p _ pos
    · exact new_pe g tk hot hf x p _ pos
  · rename_i a t tp
    split
    · rename_i hh
      simp only [Bool.and_eq_true, decide_eq_true_eq] at hh
      obtain ⟨⟨⟨⟨ex, hfr⟩, nst⟩, hgl⟩, hoc⟩ := hh
      subst ex
      obtain ⟨g1, g2, g3, g4⟩ := free_ok g hfr
      obtain ⟨q1, q2, _⟩ := glo_gl g hgl
      obtain ⟨id, hid⟩ := Option.isSome_iff_exists.mp hoc
      obtain ⟨hm, hC, hI⟩ := g.iso t id hid
      have pt : PE X (.Name t tp) (tC (.ref (He.ga X.K t))) := pe_glob q1 hm rfl q2
      have hn := g.kxo.hn
      have ht := g.kxo.ht
      refine PE.imp (pe_callB call_isi g1 g2 (by decide +kernel) (pa_cons (opd_pe g hf a) (pa_cons pt pa_nil rfl) (star_cons nst)) g4 g3 (star_cons nst) rfl) fun σ H Q h => ?_
      rw [g.hK] at hC hI hn ht ⊢
      exact den_isO rfl hC hI hn ht h
    · exact new_pe g tk hot hf x p _ pos
  · exact new_pe g tk hot hf x p _ pos
theorem mcall_lateK {prog : Program} {w : World} {A : Around} {Ex : Value → Shared → Prop} {s : Shared} {env : Env} {o : Expr} {name : Str} {apos pos : Pos} {args : List Expr} {kws : List Keyword} {Q : Value → Shared → Prop}
    (hbase : attributeBase o name env (eval o env) = eval o env)
    (hfew : ((backTo pos (starEach args env)).all (fun x => !x.1) && (backToKw pos (keywordEach kws env)).all (fun x => x.1.isSome)
      && decide (args.length + kws.length + (if (backToKw pos (keywordEach kws env)).isEmpty then 0 else 1) < 30)) = true)
    (hline : (apos.endLine == pos.line) = true)
    (h : wpAny (model prog w) A (eval o env) (fun ov s₁ => ∀ pl : Sem Bool, wpAny (model prog w) A (getMethod ov name pl) (fun fx s₂ => wpAny (model prog w) A (callWith pos fx.1 fx.2 (backTo pos (starEach args env)) (backToKw pos (keywordEach kws env))) Q Ex s₂) Ex s₁) Ex s) :
    wpAny (model prog w) A (eval (.Call (.Attribute o name apos) args kws pos) env) Q Ex s := by
  rw [arm_eval_Call, hbase]
  refine wpAny_bind (wpAny_mono h (fun ov s₁ h₁ => ?_) fun _ _ e => e)
  refine wpAny_bind (wpAny_standAt ?_)
  have hform : methodCallForm (args.length + kws.length) (backTo pos (starEach args env)) (backToKw pos (keywordEach kws env)) = true := hfew
  have hpos : methodCallPos true o env apos pos = pure pos := by unfold methodCallPos; simp [hline]
  unfold methodCall
  rw [hform]
  refine wpAny_bind (wpAny_holding (wpAny_mono (h₁ _) (fun fx s₂ h₂ => ?_) fun _ _ e => e))
  exact wpAny_bind (wpAny_of_eq hpos h₂)
theorem methk_pe (g : Good c X Z cs) (tk : Takes X W) {f : Expr → M Val} (hf : ∀ e, PE X e (denV Z cs (f e) W)) (o : Expr) (m : Str) (a : Expr) (k : Str) (e : Expr) (kp apos pos : Pos) :
    PE X (.Call (.Attribute o m apos) [a] [⟨some k, e, kp⟩] pos) (denV Z cs (compMethK c f o m a k e apos pos) W) := by
  unfold compMethK
  split
  · rename_i q d hd
    split
    · rename_i hh
      simp only [Bool.and_eq_true, decide_eq_true_eq, Bool.not_eq_true'] at hh
      obtain ⟨hot, ho, hl, hst, hnp, hkw⟩ := hh
      obtain ⟨hc, k', fa, fd, ps, M, F, hr, _, hkp, hb⟩ := g.mts hot m q d hd
      have hb := hb _ _ hkw
      have hx : ∀ σ, PassesAt (L2.CX X.prog X.w) X σ (WE W σ) := fun σ => passAt tk σ
      have pa : PA X [a] (tCons (denV Z cs (f a) W) tNil) := pa_cons (hf a) pa_nil (star_cons hst)
      have pk : PK X [⟨some k, e, kp⟩] (tCons (denV Z cs (f e) W) tNil) := pk_cons (hf e) pk_nil
      refine ⟨fun pins s σ H Q I h => ?_⟩
      have h := den_meth (C := He.ga X.K q) (n := d.np) (dvs := []) (by rw [g.hK]) rfl (by simp [hnp]) h
      have few : ((backTo pos (starEach [a] X.env)).all (fun x => !x.1) && (backToKw pos (keywordEach [⟨some k, e, kp⟩] X.env)).all (fun x => x.1.isSome) && decide ([a].length + ([⟨some k, e, kp⟩] : List Keyword).length + (if (backToKw pos (keywordEach [⟨some k, e, kp⟩] X.env)).isEmpty then 0 else 1) < 30)) = true := by
        rw [star_cons hst]
        rfl
      refine mcall_lateK (plainO_ok ho) few (by simpa using hl) (thn ((hf o).run pins s σ H _ I h) fun u s1 ⟨x, H1, I1, rx, a0, dx, fs, ex, ea, l, q1⟩ pl => ?_)
      subst ex
      obtain rfl : u = Value.ref a0 := rx
      have q1 := den_tL q1
      refine getmeth_ok I1 ea hc M l ?_
      refine PySem.W.callWith_KW (h₀ := X.base) (first := [.ref a0]) I.ok.mod.kin hkp rfl (thn (pa.run pos pins s1 σ H1 (fun vs H2 => denV Z cs (f e) W σ H2 fun w H3 => ∃ v, vs = [v] ∧ spOf Z.K Z.cla d.np (cs.run d.id) [.ref a0, v, w] H3 Q (WE W σ)) I1 ?_) fun us s2 ⟨vs, H2, I2, r, q2⟩ => ?_) ?_ (star_cons hst)
      · exact denV.mono (fun w H2 z => denV.mono (fun w2 H3 z2 => ⟨w, rfl, (show spOf Z.K Z.cla d.np (cs.run d.id) (.ref a0 :: ([w, w2] ++ [])) H3 Q (WE W σ) from z2)⟩) z) q1
      · refine thn (pk.run pos pins s2 σ H2 (fun zs H3 => ∃ v w, vs = [v] ∧ zs = [w] ∧ spOf Z.K Z.cla d.np (cs.run d.id) [.ref a0, v, w] H3 Q (WE W σ)) I2 (denV.mono (fun w H3 ⟨v, e1, z⟩ => ⟨v, w, e1, rfl, z⟩) q2)) fun ws s3 ⟨zs, H3, I3, rz, v, w, e1, e2, q3⟩ => ⟨I3.kIn, ?_⟩
        subst e1
        subst e2
        exact run_fnKW (us := .ref a0 :: us) (vs := [.ref a0, v]) (zs := [w]) F hr hb (hx σ) I3 (.cons rfl r) rz rfl rfl q3
      · have e1 : (backTo pos (starEach [a] X.env)).any (·.1) = false := star_any (by rw [List.all_cons, hst]; rfl)
        rw [e1]
        rfl
    · exact no_pe
  · exact no_pe
theorem cmp_op (g : Good c X Z cs) {f : Expr → M Val} (a : Expr) (op : CmpOp) (b : Expr) : ∃ r : R2, OpR X (compareOp op) r ∧ ∀ σ H Q, denV Z cs (compCmp c f a op b) W σ H Q → tOp r (tOpd Z cs W (opd c f a)) (tOpd Z cs W (opd c f b)) σ H Q := by
  unfold compCmp
  split
  · rename_i hh
    rw [Bool.and_eq_true] at hh
    have eo : op = .Eq := by simpa using hh.2
    subst eo
    exact ⟨_, (opv_eqM g.units).1, fun σ H Q q => by rw [g.hK]; exact den_eqM q⟩
  · split
    · rename_i hh
      rw [Bool.and_eq_true] at hh
      have eo : op = .NotEq := by simpa using hh.2
      subst eo
      exact ⟨_, (opv_eqM g.units).2, fun σ H Q q => by rw [g.hK]; exact den_eqM q⟩
    · split
      · rename_i hh
        simp only [Bool.and_eq_true, Bool.not_eq_true'] at hh
        obtain ⟨⟨hot, eo⟩, _⟩ := hh
        have eo : op = .Eq := by simpa using eo
        subst eo
        have no : ∃ r : R2, OpR X (compareOp .Eq) r ∧ ∀ σ H Q, denV Z cs mNo W σ H Q → tOp r (tOpd Z cs W (opd c f a)) (tOpd Z cs W (opd c f b)) σ H Q := ⟨_, opv_cmp g.hK g.units .Eq, fun σ H Q q => absurd q no_denV⟩
        split
        · rename_i k hk
          split
          · rename_i id hi
            obtain ⟨d, h1, h2, h3, rfl⟩ := ownM_ok hi
            obtain ⟨hc, k', fa, fd, ps, M, F, hr, hb, _⟩ := g.mts hot "__eq__" k d h1
            obtain ⟨ds, dvs, e1, e2, hv, hbn⟩ := hb 2 (by omega) (by omega)
            have e0 : dvs = [] := List.eq_nil_of_length_eq_zero (by omega)
            subst e0
            cases hv
            rw [h2] at F
            exact ⟨_, op_eqO M (low_ok _ _) F hr hbn, fun σ H Q q => by rw [g.hK]; exact den_eqO rfl q⟩
          · exact no
        · exact no
      · exact ⟨_, opv_cmp g.hK g.units op, fun σ H Q q => den_bin q⟩
theorem att_pe (g : Good c X Z cs) {fe : Expr → M Val} (hfe : ∀ e, PE X e (denV Z cs (fe e) W)) (n f : Str) (pn pos : Pos) : PE X (.Attribute (.Name n pn) f pos) (denV Z cs (compAtt c fe n pn f) W) := by
  unfold compAtt
  split
  · rename_i m i hhx
    split
    · rename_i hh
      simp only [Bool.and_eq_true, decide_eq_true_eq] at hh
      obtain ⟨⟨hot, en⟩, hs⟩ := hh
      have pn' : PE X (.Name n pn) (tVar i) := slot_pe g hs
      obtain ⟨X0, p, ob, qs, cls, d, e, eX, hz, hf, hx, xh, hp⟩ := g.hot hot (by rw [hhx]; simp)
      have hp := hp m i hhx
      by_cases hfl : fldOf e.cls = some f ∧ ∃ pd, e.fld = some (f, pd)
      · obtain ⟨hfo, pd, efl⟩ := hfl
        obtain ⟨C, c1, c2, c3⟩ := id xh
        rw [efl] at c3
        obtain ⟨dd, w, c4, c5⟩ := c3
        subst c2
        have kx := g.kxo.kx _ C c1
        have kf := (g.kxo.kf _ C f c1 hfo).1
        have hKK := g.hK
        have P : PE X (.Attribute (.Name n pn) f pos) (tXf p (.ref C) d C f (tVar i)) := by
          rw [eX] at kx kf pn' ⊢
          exact pe_xf ⟨kx.ga, kx.gg, kx.sb, kx.hd⟩ kf hz hf pn' rfl
        refine PE.imp P fun σ H Q q => ?_
        obtain ⟨G, io, s, r, q⟩ := q
        unfold mFldE at q
        rw [hx] at q
        cases e0 : s.at_ i with
        | some v0 => rw [e0] at q; exact q.elim
        | none =>
          obtain ⟨ec, ef⟩ := e
          have efl : ef = some (f, pd) := efl
          subst efl
          rw [e0] at q
          have hfo : fldOf ec = some f := hfo
          simp only [hfo, and_self, if_true] at q
          obtain ⟨f1, f2⟩ := r.xx.fl dd f w pd c5
          exact ⟨.ref p, r.xx.sl i p hp e0, rfl, rfl, dd, [(f, w)], w, c4, f1, by simp [List.lookup], q G io H r (Ext.refl _ _) w (.dat f2)⟩
      · refine PE.never fun σ H Q q => ?_
        obtain ⟨G, io, s, r, q⟩ := q
        unfold mFldE at q
        rw [hx] at q
        cases e0 : s.at_ i with
        | some v0 => rw [e0] at q; exact q.elim
        | none =>
          rw [e0] at q
          obtain ⟨ec, ef⟩ := e
          cases ef with
          | none => exact q.elim
          | some z =>
            obtain ⟨g0, pd⟩ := z
            have nq : ¬ (f = g0 ∧ fldOf ec = some f) := fun ⟨h1, h2⟩ => hfl ⟨h2, pd, by rw [h1]⟩
            simp only [nq, if_false] at q
            exact q.elim
    · exact no_pe
  · split
    · exact no_pe
    · split
      · rename_i k hk
        refine PE.imp (pe_fld (hfe (.Name n pn)) rfl) fun σ H Q q => ?_
        have := g.ats f k hk
        rw [g.hK] at this ⊢
        exact den_fld this q
      · exact no_pe
end
end CH

/-! CH8: expressions are right, all of them. -/
namespace CH
open PySem L2
section
variable {c : Ctx} {X : Cx} {Z : Sur} {cs : Cs} {W : WX}
theorem one_pe {f : Expr → M Val} (hf : ∀ e, PE X e (denV Z cs (f e) W)) (e : Expr) : PE X e (fun σ H Q => denA Z cs (mArgs [f e]) W σ H fun vs H1 => ∃ v, vs = [v] ∧ Q v H1) := by
  refine PE.imp (hf e) fun σ H Q h => ?_
  have h1 : tCons (denV Z cs (f e) W) (denA Z cs (mArgs []) W) σ H (fun vs H1 => ∃ v, vs = [v] ∧ Q v H1) := den_args_cons h
  obtain ⟨G, io, s, r, q⟩ := h1
  refine ⟨G, io, s, r, q.mono fun v G' io' s' H' _ _ p w t => ?_⟩
  obtain ⟨v', e', q'⟩ := den_args_nil (p w t)
  cases e'
  exact q'
theorem src_pi (g : Good c X Z cs) {f : Expr → M Val} (hf : ∀ e, PE X e (denV Z cs (f e) W)) {tg it : Expr} {src : Src} (h : compSrc c f tg it = some src) : PI X tg it (tSrc Z cs W src) := by
  have seq : PI X tg it (tSrc Z cs W (.seq (f it))) := by
    have := pi_seq (tg := tg) (one_pe (W := W) hf it)
    rw [g.hK] at this
    exact this
  unfold compSrc at h
  split at h
  · rename_i x p args pos
    split at h
    · rename_i hh
      rw [Bool.and_eq_true] at hh
      obtain ⟨hfr, hst⟩ := hh
      obtain ⟨g1, g2, g3, g4⟩ := free_ok g hfr
      have pa := args_pa (W := W) hf hst
      split at h
      · rename_i a
        rw [List.all_cons, Bool.and_eq_true] at hst
        split at h
        · rename_i e
          subst e
          cases h
          exact pi_range1 g1 g2 pa (star_cons hst.1)
        · split at h
          · rename_i e
            subst e
            split at h
            · rename_i ht
              cases h
              cases tg <;> first | cases ht | skip
              show PI X _ _ (iEnum Z.K (denA Z cs (mArgs [f a]) W))
              rw [← g.hK]
              exact pi_enum g1 g2 pa (star_cons hst.1)
            · cases h
          · split at h
            · rename_i e
              subst e
              cases h
              have := pi_reversed (X := X) (tg := tg) (p := p) (pos := pos) g1 g2 pa (star_cons hst.1)
              rw [g.hK] at this
              exact this
            · cases h
              exact seq
      · rename_i a b
        rw [List.all_cons, Bool.and_eq_true, List.all_cons, Bool.and_eq_true] at hst
        split at h
        · rename_i e
          subst e
          cases h
          exact pi_range2 g1 g2 pa (by rw [star_cons hst.1, star_cons hst.2.1]; rfl) (by rw [star_cons hst.2.1]; rfl)
        · split at h
          · rename_i e
            subst e
            split at h
            · rename_i ht
              cases h
              cases tg <;> first | cases ht | skip
              show PI X _ _ (iZip Z.K (denA Z cs (mArgs [f a, f b]) W))
              rw [← g.hK]
              exact pi_zip g1 g2 pa (star_cons hst.1) (star_any (es := [b]) (by rw [List.all_cons, hst.2.1]; rfl))
            · cases h
          · cases h
            exact seq
      · rename_i a b c'
        rw [List.all_cons, Bool.and_eq_true] at hst
        split at h
        · rename_i e
          subst e
          cases h
          exact pi_range3 g1 g2 pa (star_cons hst.1) (star_any hst.2)
        · cases h
          exact seq
      · cases h
    · cases h
      exact seq
  · cases h
  · split at h
    · cases h
      have := pi_seq (tg := tg) (hf it)
      rw [g.hK] at this
      exact this
    · cases h
      exact seq
theorem src_fold {f : Expr → M Val} {tg it : Expr} {src : Src} (h : compSrc c f tg it = some src) (env : Env) : ∀ x, foldedSetIterable it env x = pure x := by
  intro x
  cases it <;> first | rfl | (unfold compSrc at h; cases h)
theorem each_false {env : Env} : ∀ {es : List Expr}, es.all noStar = true → (assignEach es env).length = es.length ∧ (assignEach es env).findIdx? (·.1) = none
  | [], _ => ⟨rfl, rfl⟩
  | e :: es, h => by
    rw [List.all_cons, Bool.and_eq_true] at h
    obtain ⟨h1, h2⟩ := each_false (env := env) h.2
    have e1 : assignEach (e :: es) env = (false, assign e env) :: assignEach es env := by
      cases e <;> first | rfl | (have := h.1; cases this)
    rw [e1]
    refine ⟨congrArg (· + 1) h1, ?_⟩
    rw [List.findIdx?_cons, h2]
    rfl
theorem each_cons {env : Env} {e : Expr} {es : List Expr} (h : noStar e = true) : (assignEach (e :: es) env).map (·.2) = assign e env :: (assignEach es env).map (·.2) := by
  cases e <;> first | rfl | cases h
theorem mapM_cons_some {α β : Type} {f : α → Option β} {a : α} {as : List α} {r : List β} (h : (a :: as).mapM f = some r) : ∃ b bs, f a = some b ∧ as.mapM f = some bs ∧ r = b :: bs := by
  rw [List.mapM_cons] at h
  cases e : f a with
  | none => rw [e] at h; cases h
  | some b =>
    rw [e] at h
    cases e2 : as.mapM f with
    | none => rw [e2] at h; cases h
    | some bs =>
      rw [e2] at h
      cases h
      exact ⟨b, bs, rfl, rfl, rfl⟩
theorem tg_pg (g : Good c X Z cs) (hc : X.calm = true) : ∀ {n : Nat} {e : Expr} {t : Tg}, compTg c n e = some t → PG X e (denG Z t)
  | 0, _, _, h => by cases h
  | n + 1, e, t, h => by
    unfold compTg at h
    split at h
    · rename_i x pos
      obtain ⟨i, h1, rfl⟩ := map_some h
      unfold Ctx.store at h1
      split at h1
      · rename_i hl
        obtain ⟨l1, l2⟩ := g.loc x hl
        exact PG.imp (pg_name (by rw [g.hN]; exact g.nd) (by rw [g.hN]; exact findIx_get h1) l1 l2) fun v σ H Q q => den_gname q
      · cases h1
    · rename_i es k pos
      split at h
      · rename_i hst
        obtain ⟨ts, h1, rfl⟩ := map_some h
        have key : ∀ {es : List Expr} {ts : List Tg}, es.all noStar = true → es.mapM (compTg c n) = some ts → PGs X es (denGs Z ts) ∧ es.length = ts.length := by
          intro es
          induction es with
          | nil =>
            intro ts _ h
            cases h
            exact ⟨PGs.imp pgs_nil fun v σ H Q q => den_gnil q, rfl⟩
          | cons e es ih =>
            intro ts hs h
            rw [List.all_cons, Bool.and_eq_true] at hs
            obtain ⟨b, bs, e1, e2, rfl⟩ := mapM_cons_some h
            obtain ⟨p1, p2⟩ := ih hs.2 e2
            exact ⟨PGs.imp (pgs_cons (tg_pg g hc e1) p1 (each_cons hs.1)) fun v σ H Q q => den_gcons q, congrArg (· + 1) p2⟩
        obtain ⟨p1, p2⟩ := key hst h1
        obtain ⟨q1, q2⟩ := each_false (env := X.env) hst
        refine PG.imp (pg_tup (n := ts.length) hc p1 (by rw [q1]; exact p2) q2) fun v σ H Q q => ?_
        rw [g.hK]
        exact den_gtup q
      · cases h
    · cases h
/-! the block of a comprehension -/
theorem relabel_vis {scope : Scope} {env : Env} {x : Str} : ∀ {names : List (Str × NameKind)} {k : NameKind}, names.lookup x = some k →
    ∃ k', (names.map fun (n, k) => if (k == NameKind.free && env.scope.kind == .function && env.kindOf n == some .cell) then (n, NameKind.cell) else (n, k)).lookup x = some k' ∧ (k' = k ∨ (k = .free ∧ k' = .cell))
  | [], _, h => by simp at h
  | (n, k0) :: r, k, h => by
    rw [List.map_cons]
    cases hx : x == n with
    | true =>
      simp only [List.lookup_cons, hx] at h
      cases h
      by_cases hc : (k0 == NameKind.free && env.scope.kind == .function && env.kindOf n == some .cell) = true
      · refine ⟨.cell, ?_, .inr ⟨?_, rfl⟩⟩
        · show List.lookup x ((if (k0 == NameKind.free && env.scope.kind == .function && env.kindOf n == some .cell) = true then (n, NameKind.cell) else (n, k0)) :: _) = _
          rw [if_pos hc]; simp only [List.lookup_cons, hx]
        · rw [Bool.and_eq_true, Bool.and_eq_true] at hc
          exact of_decide_eq_true (by simpa using hc.1.1)
      · refine ⟨k0, ?_, .inl rfl⟩
        show List.lookup x ((if (k0 == NameKind.free && env.scope.kind == .function && env.kindOf n == some .cell) = true then (n, NameKind.cell) else (n, k0)) :: _) = _
        rw [if_neg hc]; simp only [List.lookup_cons, hx]
    | false =>
      simp only [List.lookup_cons, hx] at h
      obtain ⟨k', h1, h2⟩ := relabel_vis (scope := scope) (env := env) h
      refine ⟨k', ?_, h2⟩
      show List.lookup x ((if (k0 == NameKind.free && env.scope.kind == .function && env.kindOf n == some .cell) = true then (n, NameKind.cell) else (n, k0)) :: _) = _
      by_cases hc : (k0 == NameKind.free && env.scope.kind == .function && env.kindOf n == some .cell) = true
      · rw [if_pos hc]; simp only [List.lookup_cons, hx]; exact h1
      · rw [if_neg hc]; simp only [List.lookup_cons, hx]; exact h1
theorem blk_good (g : Good c X Z cs) {scope : Scope} {s : Shared} {H : Hp} {C : Addr} {cl : List (Str × Addr)} {fp : List Addr} (Z' : Sur) (hZ : Z'.K = Z.K) (hc : Z'.cla = Z.cla) (hot : c.hot = false) (hxs : Z'.xs = none) (hxf : Z'.xf = none) : Good (c.blk scope) (X.blk s H scope (compEnvC scope cl C X.env) fp) Z' cs where
  hK := by rw [hZ]; exact g.hK
  hN := g.hN
  nd := g.nd
  vis := fun x h => by
    have h : isVis (scope.names.lookup x) = true := h
    show Vis (relabel scope X.env) x
    cases e : scope.names.lookup x with
    | none => rw [e] at h; cases h
    | some k =>
      obtain ⟨k', h1, h2⟩ := relabel_vis (scope := scope) (env := X.env) e
      rw [e] at h
      have q : (relabel scope X.env).names.lookup x = some k' := h1
      rcases h2 with rfl | ⟨_, rfl⟩
      · cases k' <;> first | cases h | skip
        · exact .inl q
        · exact .inr (.inl q)
        · exact .inr (.inr q)
      · exact .inr (.inl q)
  loc := fun x h => by
    have h : isLoc (scope.names.lookup x) = true := h
    cases e : scope.names.lookup x with
    | none => rw [e] at h; cases h
    | some k =>
      obtain ⟨k', h1, h2⟩ := relabel_vis (scope := scope) (env := X.env) e
      rw [e] at h
      have q : (relabel scope X.env).names.lookup x = some k' := h1
      cases k with
      | «local» =>
        rcases h2 with rfl | ⟨z, _⟩
        · exact ⟨.inl q, .inr q⟩
        · cases z
      | cell =>
        rcases h2 with rfl | ⟨z, _⟩
        · refine ⟨.inr q, .inl ?_⟩
          show (scope.names.lookup x == some .cell) = true
          rw [e]
          rfl
        · cases z
      | free => cases h
      | globalExplicit => cases h
      | globalImplicit => cases h
  gl := fun x h => by
    have h : isGlo (scope.names.lookup x) = true := h
    cases e : scope.names.lookup x with
    | none => rw [e] at h; cases h
    | some k =>
      obtain ⟨k', h1, h2⟩ := relabel_vis (scope := scope) (env := X.env) e
      rw [e] at h
      have q : (relabel scope X.env).names.lookup x = some k' := h1
      cases k with
      | globalImplicit =>
        rcases h2 with rfl | ⟨z, _⟩
        · exact q
        · cases z
      | «local» => cases h
      | cell => cases h
      | free => cases h
      | globalExplicit => cases h
  calm := g.calm
  units := g.units
  fns := fun hot x d h => by
    obtain ⟨k, f, fd, ps, F, r⟩ := (g.fns hot x d h).ok
    refine ⟨k, f, fd, ps, ?_, r⟩
    rw [hZ, hc]
    exact F
  gcs := by rw [hZ]; exact g.gcs
  frs := g.frs
  scp := fun h => by cases h
  xs := fun _ => ⟨hxs, hxf⟩
  stk := fun h => by cases h
  kxo := by rw [hc]; exact g.kxo
  cls := by rw [hc]; exact g.cls
  mkf := fun h l n C f h1 h2 => by
    rw [hc] at h1
    exact g.mkf hot l n C f h1 h2
  hot := fun h _ => by
    have h : c.hot = true := h
    rw [hot] at h
    cases h
  fhs := fun x d h => by
    obtain ⟨k, f, fd, ps, F, r⟩ := (g.fhs x d h).ok
    refine ⟨k, f, fd, ps, ?_, r⟩
    rw [hZ, hc]
    exact F
  htp := fun h => by
    have h : c.hot = true := h
    rw [hot] at h
    cases h
  ocs := fun h hl x id hx => by
    obtain ⟨hm, k, f, fd, ps, M, F, r⟩ := g.ocs h hl x id hx
    refine ⟨hm, k, f, fd, ps, M, ?_, r⟩
    rw [hZ, hc]
    exact F
  flo := fun h hl x d hx => by
    obtain ⟨k', f, fd, ps, F, r⟩ := g.flo h hl x d hx
    refine ⟨k', f, fd, ps, ?_, r⟩
    rw [hZ, hc]
    exact F
  iso := g.iso
  mlo := fun h hl m k d hm => by
    obtain ⟨k', f, fd, ps, M, F, r⟩ := g.mlo h hl m k d hm
    refine ⟨k', f, fd, ps, M, ?_, r⟩
    rw [hZ, hc]
    exact F
  mts := fun h m k d hm => by
    obtain ⟨c1, k', f, fd, ps, M, F, r⟩ := g.mts h m k d hm
    refine ⟨c1, k', f, fd, ps, M, ?_, r⟩
    rw [hZ, hc]
    exact F
  ats := g.ats
theorem lc_pe (g : Good c X Z cs) (tk : Takes X W) {rec : Rc} (hr : ∀ c, RcOk rec c) (elt tg it : Expr) (ifs : List Expr) (scope : Scope) (pos : Pos) :
    PE X (.ListComp elt [⟨tg, it, ifs, 0⟩] scope pos) (denV Z cs (compLC rec c elt tg it ifs scope) W) := by
  unfold compLC
  split
  · rename_i hh
    rw [Bool.and_eq_true, Bool.and_eq_true] at hh
    obtain ⟨⟨htop, hhot⟩, hblk⟩ := hh
    have hot : c.hot = false := by simpa using hhot
    have hcalm := g.calm hot
    have hNd : X.N.Nodup := by rw [g.hN]; exact g.nd
    have ok : BlkOk X.N X.env.scope scope (ownOf c.N scope) := by
      rw [g.hN, (g.scp htop).1]
      exact blkOk_by hblk
    have tk0 : ∀ {Y : Cx}, Takes Y (fun _ _ _ _ => False) := takes0
    have pel : ∀ (s : Shared) (H : Hp) (C : Addr) (cl : List (Str × Addr)) (fp : List Addr), PE (X.blk s H scope (compEnvC scope cl C X.env) fp) elt (anyV Z.K Z.cla cs ((rec (c.blk scope)).1 elt)) := fun s H C cl fp => by
      refine ⟨fun pins s' σ H' Q I h => ?_⟩
      obtain ⟨Z', h1, h2, hxx, h⟩ := h
      exact ((hr _).e _ Z' cs _ (blk_good g Z' h1 h2 hot hxx.1 hxx.2) tk0 elt).run pins s' σ H' Q I h
    have pb : ∀ (i : Expr) (s : Shared) (H : Hp) (C : Addr) (cl : List (Str × Addr)) (fp : List Addr), PT (X.blk s H scope (compEnvC scope cl C X.env) fp) i (anyB Z.K Z.cla cs ((rec (c.blk scope)).2 i)) := fun i s H C cl fp => by
      refine ⟨fun pins s' σ H' Q I h => ?_⟩
      obtain ⟨Z', h1, h2, hxx, h⟩ := h
      exact ((hr _).t _ Z' cs _ (blk_good g Z' h1 h2 hot hxx.1 hxx.2) tk0 i).run pins s' σ H' Q I h
    split
    · rename_i src t e1 e2
      have pg : ∀ (s : Shared) (H : Hp) (C : Addr) (cl : List (Str × Addr)) (fp : List Addr), PG (X.blk s H scope (compEnvC scope cl C X.env) fp) tg (anyG Z.K Z.cla t) := fun s H C cl fp => by
        refine ⟨fun pins s' σ H' v u Q I r h => ?_⟩
        obtain ⟨Z', h1, h2, hxx, h⟩ := h
        exact (tg_pg (blk_good g Z' h1 h2 hot hxx.1 hxx.2) hcalm e2).run pins s' σ H' v u Q I r h
      have pi := src_pi (W := W) g (fun e => (hr c).e X Z cs W g tk e) e1
      refine PE.imp (pe_lc hcalm hNd pi ok pg (fun _ _ _ _ _ => pts_nil) pel (src_fold e1 X.env)) fun σ H Q h => ?_
      exact den_compX (g.xs hot) h
    · rename_i src t i e1 e2
      have pg : ∀ (s : Shared) (H : Hp) (C : Addr) (cl : List (Str × Addr)) (fp : List Addr), PG (X.blk s H scope (compEnvC scope cl C X.env) fp) tg (anyG Z.K Z.cla t) := fun s H C cl fp => by
        refine ⟨fun pins s' σ H' v u Q I r h => ?_⟩
        obtain ⟨Z', h1, h2, hxx, h⟩ := h
        exact (tg_pg (blk_good g Z' h1 h2 hot hxx.1 hxx.2) hcalm e2).run pins s' σ H' v u Q I r h
      have pi := src_pi (W := W) g (fun e => (hr c).e X Z cs W g tk e) e1
      refine PE.imp (pe_lc hcalm hNd pi ok pg (fun s H C cl fp => pts_one (pb i s H C cl fp)) pel (src_fold e1 X.env)) fun σ H Q h => ?_
      exact den_compX (g.xs hot) h
    · exact no_pe
  · exact no_pe
theorem part_po {f : Expr → M Val} (hf : ∀ e, PE X e (denV Z cs (f e) W)) (o : Option Expr) : PO X o (tPartO Z cs W (o.map f)) := by
  cases o with
  | none => exact po_none
  | some e => exact po_some (hf e)
theorem plainIx {i : Expr} (h : ∀ a b st p, i ≠ .Slice a b st p) : PlainIx i := fun o v => by
  cases i <;> first | rfl | exact absurd rfl (h _ _ _ _)
theorem isTrue_plain_of (e : Expr) (h1 : ∀ op es p, e ≠ .BoolOp op es p) (h2 : ∀ x p, e ≠ .UnaryOp .Not x p) (h3 : ∀ a b d p, e ≠ .IfExp a b d p) (h4 : ∀ a b d p, e ≠ .Compare a b d p) (env : Env) :
    ∀ whole, isTrue e env whole = (do let v ← whole; standAt e.pos; holding [v] (truthy v)) := by
  intro whole
  cases e with
  | BoolOp op es p => exact absurd rfl (h1 _ _ _)
  | IfExp a b d p => exact absurd rfl (h3 _ _ _ _)
  | Compare a b d p => exact absurd rfl (h4 _ _ _ _)
  | UnaryOp op x p =>
    cases op with
    | Not => exact absurd rfl (h2 _ _)
    | Invert => rfl
    | UAdd => rfl
    | USub => rfl
  | _ => rfl
theorem compE_pe {rec : Rc} (hr : ∀ c, RcOk rec c) (g : Good c X Z cs) (tk : Takes X W) (e : Expr) : PE X e (denV Z cs (compE rec c e) W) := by
  have hf : ∀ e, PE X e (denV Z cs ((rec c).1 e) W) := fun e => (hr c).e X Z cs W g tk e
  have ht : ∀ e, PT X e (denB Z cs ((rec c).2 e) W) := fun e => (hr c).t X Z cs W g tk e
  have ho : ∀ e, PE X e (tOpd Z cs W (opd c (rec c).1 e)) := fun e => opd_pe g hf e
  unfold compE
  split
  · exact const_pe _ _ _
  · rename_i x pos
    split
    · rename_i i h
      exact PE.imp (slot_pe g h) fun σ H Q q => den_var q
    · split
      · rename_i hg
        split
        · rename_i d hd
          obtain ⟨v, u, h1, h2, h3⟩ := g.gcs x d hd
          obtain ⟨g1, g2, _⟩ := glo_gl g hg
          exact PE.imp (pe_glob g1 h1 h2 g2) fun σ H Q q => den_con h3 q
        · exact no_pe
      · exact no_pe
  · rename_i es k pos
    split
    · rename_i hh
      rw [Bool.and_eq_true, decide_eq_true_eq] at hh
      exact PE.imp (pe_tup (args_pa hf hh.1)) fun σ H Q q => den_tup (by rw [List.length_map]; exact hh.2) q
    · exact no_pe
  · rename_i es pos
    split
    · rename_i hh
      rw [Bool.and_eq_true, decide_eq_true_eq] at hh
      split
      · exact PE.imp (pe_lst (args_pa hf hh.1)) fun σ H Q q => den_mix (by rw [List.length_map]; exact hh.2) q
      · exact PE.imp (pe_lst (args_pa hf hh.1)) fun σ H Q q => den_lst (by rw [List.length_map]; exact hh.2) q
    · exact no_pe
  · rename_i a op b pos
    exact PE.imp (pe_op (opv_bin g.hK op) (ho a) (ho b)) fun σ H Q q => den_bin q
  · rename_i op a pos
    split
    · refine PE.imp (pe_notT (ho a)) fun σ H Q q => ?_
      rw [g.hK]
      exact den_notT q
    · exact PE.imp (pe_un un_neg_v (ho a)) fun σ H Q q => den_un q
    · exact no_pe
  · rename_i t a b pos
    exact PE.imp (pe_ifExp (ht t) (hf a) (hf b)) fun σ H Q q => den_if q
  · rename_i op es pos
    split
    · exact andV_pe g hf es
    · exact orV_pe g hf es
  · rename_i a ops bs pos
    split
    · rename_i op b
      split
      · exact no_pe
      · rename_i hm
        obtain ⟨r, h1, h2⟩ := cmp_op (W := W) g (f := (rec c).1) a op b
        exact PE.imp (pe_cmpR h1 (ho a) (ho b) (by simpa using hm)) h2
    · rename_i op op' b d
      split
      · exact no_pe
      · rename_i hm
        exact PE.imp (pe_chain (opv_cmp g.hK g.units op) (opv_cmp g.hK g.units op') (ho a) (ho b) (ho d) (by simpa using hm)) fun σ H Q q => den_chain q
    · exact no_pe
  · rename_i a i pos
    split
    · rename_i lo hi p2
      exact PE.imp (pe_slice (slv g.hK) (ho a) (part_po hf lo) (part_po hf hi)) fun σ H Q q => den_sl q
    · rename_i st p2
      split
      · rename_i hs
        unfold isRev at hs
        split at hs
        · refine PE.imp (pe_revLS (ho a)) fun σ H Q q => ?_
          rw [g.hK]
          exact den_rev q
        · cases hs
      · exact no_pe
    · rename_i k0 p0 st p2
      split
      · rename_i hs
        unfold isRev at hs
        split at hs
        · refine PE.imp (pe_rev1 (ho a)) fun σ H Q q => ?_
          rw [g.hK]
          exact den_rev1 q
        · cases hs
      · exact no_pe
    · exact no_pe
    · rename_i h1 h2 h3 h4
      split
      · exact PE.imp (pe_ix ixM (ho a) (ho i) (plainIx fun a b st p z => h4 a b st p z)) fun σ H Q q => den_idxM q
      · exact PE.imp (pe_ix (ixv g.hK) (ho a) (ho i) (plainIx fun a b st p z => h4 a b st p z)) fun σ H Q q => den_bin q
  · rename_i z k p m apos a pos
    split
    · rename_i hh
      simp only [Bool.and_eq_true, decide_eq_true_eq] at hh
      obtain ⟨⟨⟨em, hl⟩, hst⟩, hz⟩ := hh
      subst em
      refine PE.imp (pe_join (pe_str (x := z) (j := k) (pos := p)) (ho a) (star_cons hst) rfl hl) fun σ H Q q => ?_
      exact ⟨⟨z, rfl⟩, tOpd.mono (fun w H1 h1 => joinv hz h1) (den_un q)⟩
    · exact no_pe
  · exact meth_pe g tk hf _ _ _ _ _
  · exact methk_pe g tk hf _ _ _ _ _ _ _ _
  · rename_i x p args pos
    split
    · rename_i hh
      exact hot_pe g hh hf x p args pos
    · rename_i hh
      exact own_pe g tk (by simpa using hh) hf x p args pos
  · rename_i x p args k e kp pos
    split
    · exact no_pe
    · rename_i hh
      exact callk_pe g tk (by simpa using hh) hf x p args k e kp pos
  · exact att_pe g hf _ _ _ _
  · rename_i elt tg it ifs a scope pos
    split
    · rename_i e0
      subst e0
      exact lc_pe g tk hr elt tg it ifs scope pos
    · exact no_pe
  · exact no_pe
theorem testE_pt {rec : Rc} (hr : ∀ c, RcOk rec c) (g : Good c X Z cs) (tk : Takes X W) (e : Expr) : PT X e (denB Z cs (testE rec c e) W) := by
  have hf : ∀ e, PE X e (denV Z cs ((rec c).1 e) W) := fun e => (hr c).e X Z cs W g tk e
  have ht : ∀ e, PT X e (denB Z cs ((rec c).2 e) W) := fun e => (hr c).t X Z cs W g tk e
  have ho : ∀ e, PE X e (tOpd Z cs W (opd c (rec c).1 e)) := fun e => opd_pe g hf e
  unfold testE
  split
  · rename_i x pos
    exact PT.imp (pt_not (ht x)) fun σ H Q q => den_bNot q
  · rename_i op es pos
    split
    · exact (andB_pw ht es).pt
    · exact (orB_pw ht es).pt
  · rename_i a ops bs pos
    unfold compE
    simp only
    split
    · rename_i op b
      split
      · exact PT.never fun σ H Q q => no_denV (den_bVal q)
      · rename_i hm
        obtain ⟨r, h1, h2⟩ := cmp_op (W := W) g (f := (rec c).1) a op b
        refine PT.imp (pt_cmpR h1 (ho a) (ho b) (by simpa using hm)) fun σ H Q q => ?_
        exact h2 _ _ _ (den_bVal q)
    · rename_i op op' b d
      split
      · exact PT.never fun σ H Q q => no_denV (den_bVal q)
      · rename_i hm
        refine PT.imp (pt_chain (opv_cmp g.hK g.units op) (opv_cmp g.hK g.units op') (ho a) (ho b) (ho d) (by simpa using hm)) fun σ H Q q => ?_
        exact den_chain (den_bVal q)
    · exact PT.never fun σ H Q q => no_denV (den_bVal q)
  · exact no_pt
  · rename_i h1 h2 h3 h4
    have hc : ∀ e, PE X e (denV Z cs (compE rec c e) W) := fun e => compE_pe hr g tk e
    refine PT.imp (pt_truth (opd_pe g hc e) (isTrue_plain_of e (fun op es p z => h2 op es p z) (fun x p z => h1 x p z) (fun a b d p z => h4 a b d p z) (fun a b d p z => h3 a b d p z) X.env)) fun σ H Q q => ?_
    rw [g.hK]
    exact den_bTru q
end
theorem compT_ok : ∀ (n : Nat) (c : Ctx), RcOk (compT n) c
  | 0, c => ⟨fun X Z cs W g tk e => no_pe, fun X Z cs W g tk e => no_pt⟩
  | n + 1, c => ⟨fun X Z cs W g tk e => compE_pe (compT_ok n) g tk e, fun X Z cs W g tk e => testE_pt (compT_ok n) g tk e⟩
end CH

/-! CH9: from the text's statements to combinators, and that this is right. -/
namespace CH
open PySem L2

def noComp : Expr → Bool
  | .ListComp _ _ _ _ => false
  | .SetComp _ _ _ _ => false
  | .DictComp _ _ _ _ _ => false
  | _ => true
/-- a, b = x, y (a, b, c = x, y, z) with plain local names: their slots -/
def parNames (c : Ctx) (ts vs : List Expr) : Option (List (Str × Nat)) :=
  if (ts.length == 2 || ts.length == 3) && vs.length == ts.length && vs.all noStar && !vs.all (foldedForSure 8) && !vs.all (constantsAlone 8) && c.top then
    ts.mapM fun e => match e with
      | .Name x pos => if c.sc.names.lookup x = some .local && pos.line == (ts.head?.map (·.pos.line)).getD 0 then (findIx x c.N 0).map fun i => (x, i) else none
      | _ => none
  else none
def seqs : List (M Fl) → M Fl
  | [] => sPass
  | [f] => f
  | f :: g :: r => sSeq f (seqs (g :: r))
abbrev Rs' := Ctx → Stmt → M Fl
/-- the surroundings of an except clause's suite -/
def Ctx.inHot (c : Ctx) (hx : Option (Str × Nat)) : Ctx := { c with hot := true, hx := hx }
noncomputable def compH (rec : Rs') (c : Ctx) (h : ExceptHandler) : Option (Nat × Option Nat × M Fl) := match h with
  | .ExceptHandler (some (.Name x _)) none (st :: sts) _ => if c.glo x then (c.cl.lookup x).map fun k => (k, none, seqs ((st :: sts).map (rec (c.inHot none)))) else none
  | .ExceptHandler (some (.Name x _)) (some n) (st :: sts) _ => if c.glo x && decide (c.sc.names.lookup n = some .local) then (match c.cl.lookup x, findIx n c.N 0 with
    | some k, some i => some (k, some i, seqs ((st :: sts).map (rec (c.inHot (some (n, i))))))
    | _, _ => none) else none
  | _ => none
def eFuel : Nat := 40
def isLst : Expr → Bool
  | .List _ _ => true
  | _ => false
/-- what becomes an object -/
noncomputable def asO (c : Ctx) (e : Expr) : M Val := match e with
  | .List (x :: es) p => if (x :: es).all isLst && decide ((x :: es).length ≤ big) then mMix ((x :: es).map fun e => mToO ((compT eFuel c).1 e)) else mToO ((compT eFuel c).1 (.List (x :: es) p))
  | e => mToO ((compT eFuel c).1 e)
noncomputable def compSt (rec : Rs') (c : Ctx) (st : Stmt) : M Fl := match st with
  | .Return (some e) _ => sRet ((compT eFuel c).1 e)
  | .Return none _ => sRetN
  | .Pass _ => sPass
  | .Break _ => sBreak
  | .Continue _ => sCont
  | .Expr e _ => (match e with
    | .Call (.Attribute (.Name x px) m apos) [a] [] cpos => if c.ol.contains x || !(decide (m = "append") || decide (m = "extend")) then sExpr ((compT eFuel c).1 (.Call (.Attribute (.Name x px) m apos) [a] [] cpos)) else if apos.endLine == cpos.line && noStar a then (match c.slot x with
        | some i => if m = "append" then sOwn i kApp [(compT eFuel c).1 a] else if m = "extend" then sOwn i kExt [(compT eFuel c).1 a] else sNo
        | none => sNo) else sNo
    | .Call (.Attribute (.Name x px) m apos) [a, b] [] cpos => if !decide (m = "insert") then sExpr ((compT eFuel c).1 (.Call (.Attribute (.Name x px) m apos) [a, b] [] cpos)) else if apos.endLine == cpos.line && (noStar a && noStar b) then (match c.slot x with
        | some i => if m = "insert" then sOwn i kIns [(compT eFuel c).1 a, (compT eFuel c).1 b] else sNo
        | none => sNo) else sNo
    | e => if noComp e then sExpr ((compT eFuel c).1 e) else sNo)
  | .Assign [t] e _ => (match t with
    | .Attribute (.Name n pn) f _ => if c.hot then sNo else (match c.at_.lookup f with
      | some k => if noComp e then sFset k ((compT eFuel c).1 (.Name n pn)) f ((compT eFuel c).1 e) else sNo
      | none => sNo)
    | .Name x _ => (match c.store x with
      | some i => if c.top then (if !c.hot && c.ol.contains x then (if noComp e then sAsg i (asO c e) else sNo) else sAsg i ((compT eFuel c).1 e)) else sNo
      | none => sNo)
    | .Tuple ts _ _ => (match e with
      | .Tuple vs _ _ => if c.hot then sNo else (match parNames c ts vs with
        | some [(x, i), (y, j)] => if i ≠ j ∧ [x, y].eraseDups.length = 2 then sPar2 i j (vs.map (compT eFuel c).1) else sNo
        | some [(x, i), (y, j), (z, l)] => if (i ≠ j ∧ i ≠ l ∧ j ≠ l) ∧ [x, y, z].eraseDups.length = 3 then sPar3 i j l (vs.map (compT eFuel c).1) else sNo
        | _ => sNo)
      | e => if noComp e && !c.hot then (match compTg c 8 t with
        | some tg => sTgt tg ((compT eFuel c).1 e)
        | none => sNo) else sNo)
    | _ => sNo)
  | .AugAssign (.Name x _) op e _ => (match op, c.store x with
    | .Add, some i => sAug i ((compT eFuel c).1 e)
    | _, _ => sNo)
  | .If t a b _ => sIf ((compT eFuel c).2 t) (seqs (a.map (rec c))) (seqs (b.map (rec c)))
  | .While t body [] _ => sWhile ((compT eFuel c).2 t) (seqs (body.map (rec c)))
  | .Raise (some (.Call (.Name x _) [a] [] _)) none _ => if c.hot || !c.glo x then sNo else (match c.cl.lookup x with
    | some k => (match fldOf k with
      | none => (match a with
        | .Constant (.str _) _ _ => sRaise k
        | _ => sNo)
      | some f => if noStar a then sRaiseF k f ((compT eFuel c).1 a) else sNo)
    | none => sNo)
  | .Try body (h :: hs) [] [] _ => if c.hot || !c.top then sNo else (match (h :: hs).mapM (compH rec c) with
    | some cl => sTry (seqs (body.map (rec c))) cl
    | none => sNo)
  | .For tg it body [] _ => if c.hot then sNo else (match compSrc c (compT eFuel c).1 tg it, compTg c 8 tg with
    | some src, some t => sForX src t (seqs (body.map (rec c)))
    | _, _ => sNo)
  | _ => sNo
noncomputable def compS : Nat → Rs'
  | 0, _, _ => sNo
  | n + 1, c, st => compSt (compS n) c st

/-- a statement's right reading -/
def StOk (rec : Rs') (c : Ctx) : Prop := ∀ X Z cs W, Good c X Z cs → Takes X W → PassesOwn (model X.prog X.w) X.A X.env X.xe → ∀ st, PS X st (denS Z cs (rec c st) W)
section
variable {c : Ctx} {X : Cx} {Z : Sur} {cs : Cs} {W : WX}
theorem seqs_pss {f : Stmt → M Fl} (hf : ∀ st, PS X st (denS Z cs (f st) W)) : ∀ l : List Stmt, PSs X l (denS Z cs (seqs (l.map f)) W)
  | [] => PSs.imp pss_nil fun D σ H h => den_pass h
  | [st] => pss_one (hf st)
  | st :: st' :: l => PSs.imp (pss_cons (hf st) (seqs_pss hf (st' :: l))) fun D σ H h => den_seq h
theorem no_ps {st : Stmt} : PS X st (denS Z cs sNo W) := PS.never fun D σ H => no_denS
theorem store_ok1 (g : Good c X Z cs) {x : Str} {i : Nat} (h : c.store x = some i) : X.N.Nodup ∧ X.N[i]? = some x ∧ Loc X.env.scope x ∧ (X.fn x = true ∨ X.env.scope.names.lookup x = some .local) := by
  unfold Ctx.store at h
  split at h
  · rename_i hl
    obtain ⟨l1, l2⟩ := g.loc x hl
    exact ⟨by rw [g.hN]; exact g.nd, by rw [g.hN]; exact findIx_get h, l1, l2⟩
  · cases h
theorem swaps_no {e : Expr} (h : noComp e = true) (t : Option Expr) (l : Nat) (env : Env) : swapsWith e t l env = pure false := by
  cases e <;> first | rfl | cases h
/-- name = e, a comprehension or not -/
theorem asg_ps (g : Good c X Z cs) (tk : Takes X W) (htop : c.top = true) {x : Str} {i : Nat} (h : c.store x = some i) (e : Expr) (p pos : Pos) :
    PS X (.Assign [.Name x p] e pos) (denS Z cs (sAsg i ((compT eFuel c).1 e)) W) := by
  obtain ⟨h1, h2, h3, h4⟩ := store_ok1 g h
  have hp := (compT_ok eFuel c).e X Z cs W g tk e
  have hscp := (g.scp htop).1
  by_cases hn : noComp e = true
  · exact PS.imp (ps_set (pos' := p) (pos := pos) h1 h2 h3 hp (swaps_no hn _ _ _) h4) fun D σ H q => den_asg q
  · cases e <;> first | exact absurd rfl hn | skip
    · rename_i elt gens scope cpos
      -- whether the store is within the comprehension's frame
      by_cases hb : (X.env.blockKind == .function && X.env.kindOf x == some .local && p.line == cpos.line && !(scope.names.any fun (n, k) => n == x && (k == .local || k == .cell))) = true
      · -- only a comprehension of one clause is reckoned
        have hm : (compT eFuel c).1 (.ListComp elt gens scope cpos) = compE (compT 39) c (.ListComp elt gens scope cpos) := rfl
        rw [hm]
        rw [Bool.and_eq_true, Bool.and_eq_true, Bool.and_eq_true] at hb
        obtain ⟨⟨⟨b1, b2⟩, b3⟩, b4⟩ := hb
        have b2 : X.env.scope.names.lookup x = some .local := by simpa [Env.kindOf] using b2
        have b4 : (scope.names.any fun (n, k) => n == x && (k == .local || k == .cell)) = false := by simpa using b4
        match gens with
        | [⟨tg, it, ifs, a⟩] =>
          show PS X _ (denS Z cs (sAsg i (if a = 0 then compLC (compT 39) c elt tg it ifs scope else mNo)) W)
          by_cases ha : a = 0
          · rw [if_pos ha]
            subst ha
            unfold compLC
            split
            · rename_i hh
              rw [Bool.and_eq_true, Bool.and_eq_true] at hh
              obtain ⟨⟨_, hhot⟩, hblk⟩ := hh
              have hot : c.hot = false := by simpa using hhot
              have hcalm := g.calm hot
              have hk : X.env.scope.kind = .function ∨ True := .inr trivial
              have ok : BlkOk X.N X.env.scope scope (ownOf c.N scope) := by
                rw [g.hN, hscp]
                exact blkOk_by hblk
              have tk0 : ∀ {Y : Cx}, Takes Y (fun _ _ _ _ => False) := takes0
              have pel : ∀ (s : Shared) (H : Hp) (C : Addr) (cl : List (Str × Addr)) (fp : List Addr), PE (X.blk s H scope (compEnvC scope cl C X.env) fp) elt (anyV Z.K Z.cla cs ((compT 39 (c.blk scope)).1 elt)) := fun s H C cl fp => by
                refine ⟨fun pins s' σ H' Q I h => ?_⟩
                obtain ⟨Z', h1, h2, hxx, h⟩ := h
                exact ((compT_ok 39 _).e _ Z' cs _ (blk_good g Z' h1 h2 hot hxx.1 hxx.2) tk0 elt).run pins s' σ H' Q I h
              have pb : ∀ (i : Expr) (s : Shared) (H : Hp) (C : Addr) (cl : List (Str × Addr)) (fp : List Addr), PT (X.blk s H scope (compEnvC scope cl C X.env) fp) i (anyB Z.K Z.cla cs ((compT 39 (c.blk scope)).2 i)) := fun i s H C cl fp => by
                refine ⟨fun pins s' σ H' Q I h => ?_⟩
                obtain ⟨Z', h1, h2, hxx, h⟩ := h
                exact ((compT_ok 39 _).t _ Z' cs _ (blk_good g Z' h1 h2 hot hxx.1 hxx.2) tk0 i).run pins s' σ H' Q I h
              have hsw : swapsWith (.ListComp elt [⟨tg, it, ifs, 0⟩] scope cpos) (some (.Name x p)) pos.line X.env = pure true := by
                unfold swapsWith
                show (pure (X.env.blockKind == .function && X.env.kindOf x == some .local && p.line == cpos.line && !(scope.names.any fun (n, k) => n == x && (k == .local || k == .cell))) : Sem Bool) = pure true
                have q : (X.env.kindOf x == some .local) = true := by simpa [Env.kindOf] using b2
                rw [b1, q, b3, b4]
                rfl
              have noX : ∀ {f : M Val}, (∀ cs s, f cs s = .no) → PS X (.Assign [.Name x p] (.ListComp elt [⟨tg, it, ifs, 0⟩] scope cpos) pos) (denS Z cs (sAsg i f) W) := fun {f} hf => PS.never fun D σ H ⟨G, io, s, r, q⟩ => by
                have q' : AftS Z G io W D ((f cs s).bnd fun v s1 => .ok .nx (s1.put i (some v))) := q
                rw [hf] at q'
                exact q'
              split
              · rename_i src t e1 e2
                have pg : ∀ (s : Shared) (H : Hp) (C : Addr) (cl : List (Str × Addr)) (fp : List Addr), PG (X.blk s H scope (compEnvC scope cl C X.env) fp) tg (anyG Z.K Z.cla t) := fun s H C cl fp => by
                  refine ⟨fun pins s' σ H' v u Q I r h => ?_⟩
                  obtain ⟨Z', h1, h2, hxx, h⟩ := h
                  exact (tg_pg (blk_good g Z' h1 h2 hot hxx.1 hxx.2) hcalm e2).run pins s' σ H' v u Q I r h
                have pi := src_pi (W := W) g (fun e => (compT_ok 39 c).e X Z cs W g tk e) e1
                refine PS.imp (ps_setLc (py := p) (spos := pos) hcalm h1 h2 b2 hsw pi ok pg (fun _ _ _ _ _ => pts_nil) pel (src_fold e1 X.env)) fun D σ H q => ?_
                exact den_compX (g.xs hot) (den_asg q)
              · rename_i src t ii e1 e2
                have pg : ∀ (s : Shared) (H : Hp) (C : Addr) (cl : List (Str × Addr)) (fp : List Addr), PG (X.blk s H scope (compEnvC scope cl C X.env) fp) tg (anyG Z.K Z.cla t) := fun s H C cl fp => by
                  refine ⟨fun pins s' σ H' v u Q I r h => ?_⟩
                  obtain ⟨Z', h1, h2, hxx, h⟩ := h
                  exact (tg_pg (blk_good g Z' h1 h2 hot hxx.1 hxx.2) hcalm e2).run pins s' σ H' v u Q I r h
                have pi := src_pi (W := W) g (fun e => (compT_ok 39 c).e X Z cs W g tk e) e1
                refine PS.imp (ps_setLc (py := p) (spos := pos) hcalm h1 h2 b2 hsw pi ok pg (fun s H C cl fp => pts_one (pb ii s H C cl fp)) pel (src_fold e1 X.env)) fun D σ H q => ?_
                exact den_compX (g.xs hot) (den_asg q)
              · exact noX fun _ _ => rfl
            · exact PS.never fun D σ H ⟨G, io, s, r, q⟩ => q
          · rw [if_neg ha]
            exact PS.never fun D σ H ⟨G, io, s, r, q⟩ => q
        | [] => exact PS.never fun D σ H ⟨G, io, s, r, q⟩ => q
        | ⟨_, _, _, _⟩ :: _ :: _ => exact PS.never fun D σ H ⟨G, io, s, r, q⟩ => q
      · have hsw : swapsWith (.ListComp elt gens scope cpos) (some (.Name x p)) pos.line X.env = pure false := by
          unfold swapsWith
          show (pure (X.env.blockKind == .function && X.env.kindOf x == some .local && p.line == cpos.line && !(scope.names.any fun (n, k) => n == x && (k == .local || k == .cell))) : Sem Bool) = pure false
          rw [Bool.not_eq_true] at hb
          rw [hb]
        exact PS.imp (ps_set (pos' := p) (pos := pos) h1 h2 h3 hp hsw h4) fun D σ H q => den_asg q
    · exact PS.never fun D σ H ⟨G, io, s, r, q⟩ => q
    · exact PS.never fun D σ H ⟨G, io, s, r, q⟩ => q
theorem par_names {ts vs : List Expr} {l : List (Str × Nat)} (h : parNames c ts vs = some l) (g : Good c X Z cs) :
    vs.all noStar = true ∧ vs.length = ts.length ∧ (∀ k2 pt2 kt pt, (l.map (·.1)).eraseDups.length = (l.map (·.1)).length → swappedStores [.Tuple ts kt pt] (.Tuple vs k2 pt2) X.env = pure (some (l.map (·.1)))) ∧
      ts.length = l.length ∧ ∀ (j : Nat) (p : Str × Nat), l[j]? = some p → X.N[p.2]? = some p.1 ∧ X.env.scope.names.lookup p.1 = some .local ∧ ∃ pos, ts[j]? = some (.Name p.1 pos) := by
  unfold parNames at h
  split at h
  · rename_i hh
    simp only [Bool.and_eq_true, Bool.or_eq_true, beq_iff_eq, Bool.not_eq_true'] at hh
    obtain ⟨⟨⟨⟨⟨h1, h2⟩, h3⟩, h4⟩, h5⟩, htop⟩ := hh
    have scp := (g.scp htop).1
    -- the names, one by one
    have key : ∀ (line : Nat) (ts : List Expr) (l : List (Str × Nat)), (ts.mapM fun e => match e with
        | .Name x pos => if c.sc.names.lookup x = some .local && pos.line == line then (findIx x c.N 0).map fun i => (x, i) else none
        | _ => none) = some l →
        ts.length = l.length ∧ (ts.filterMap fun
          | .Name id pos => if X.env.kindOf id == some .local && pos.line == line then some id else none
          | _ => none) = l.map (·.1) ∧ ∀ (j : Nat) (p : Str × Nat), l[j]? = some p → X.N[p.2]? = some p.1 ∧ X.env.scope.names.lookup p.1 = some .local ∧ ∃ pos, ts[j]? = some (.Name p.1 pos) := by
      intro line ts
      induction ts with
      | nil =>
        intro l h
        cases h
        exact ⟨rfl, rfl, fun j p h => by simp at h⟩
      | cons e ts ih =>
        intro l h
        obtain ⟨b, bs, e1, e2, rfl⟩ := mapM_cons_some h
        obtain ⟨i1, i2, i3⟩ := ih bs e2
        cases e with
        | Name x pos =>
          simp only at e1
          split at e1
          · rename_i hc
            rw [Bool.and_eq_true] at hc
            obtain ⟨i, hi, rfl⟩ := map_some e1
            have hl : c.sc.names.lookup x = some .local := of_decide_eq_true hc.1
            have hl' : X.env.scope.names.lookup x = some .local := by rw [scp]; exact hl
            have hk : (X.env.kindOf x == some .local && pos.line == line) = true := by
              rw [Bool.and_eq_true]
              refine ⟨?_, hc.2⟩
              have : X.env.kindOf x = some .local := hl'
              rw [this]
              rfl
            refine ⟨congrArg (· + 1) i1, ?_, fun j p hj => ?_⟩
            · rw [List.filterMap_cons]
              simp only [hk, if_true]
              rw [i2]
              rfl
            · cases j with
              | zero =>
                simp at hj
                subst hj
                exact ⟨by rw [g.hN]; exact findIx_get hi, hl', pos, rfl⟩
              | succ j => exact i3 j p (by simpa using hj)
          · cases e1
        | _ => cases e1
    obtain ⟨k1, k2, k3⟩ := key _ ts l h
    refine ⟨h3, h2, fun k2' pt2 kt pt nd => ?_, k1, k3⟩
    have bk : X.env.blockKind = .function := by unfold Env.blockKind; rw [(g.scp htop).2]; rfl
    have c1 : (!(ts.length == 2 || ts.length == 3) || vs.length != ts.length || X.env.blockKind != .function) = false := by
      have a1 : (ts.length == 2 || ts.length == 3) = true := by simpa using h1
      have a2 : (vs.length != ts.length) = false := by simp [h2]
      rw [a1, a2, bk]
      rfl
    have c2 : (vs.any fun | .Starred .. => true | _ => false) = false := by
      rw [List.any_eq_false]
      intro e he
      have := List.all_eq_true.mp h3 e he
      cases e <;> first | exact Bool.false_ne_true | cases this
    have c3 : ((l.map (·.1)).length != ts.length || (l.map (·.1)).eraseDups.length != (l.map (·.1)).length) = false := by
      rw [nd]
      simp [k1]
    show (if (!(ts.length == 2 || ts.length == 3) || vs.length != ts.length || X.env.blockKind != .function) = true then pure none else
      if (vs.any fun | .Starred .. => true | _ => false) = true then pure none else
      if ((ts.filterMap fun
          | .Name id pos => if X.env.kindOf id == some .local && pos.line == (ts.head?.map (·.pos.line)).getD 0 then some id else none
          | _ => none).length != ts.length || (ts.filterMap fun
          | .Name id pos => if X.env.kindOf id == some .local && pos.line == (ts.head?.map (·.pos.line)).getD 0 then some id else none
          | _ => none).eraseDups.length != (ts.filterMap fun
          | .Name id pos => if X.env.kindOf id == some .local && pos.line == (ts.head?.map (·.pos.line)).getD 0 then some id else none
          | _ => none).length) = true then pure none else _ : Sem (Option (List Str))) = _
    rw [if_neg (by rw [c1]; exact Bool.false_ne_true), if_neg (by rw [c2]; exact Bool.false_ne_true), k2, if_neg (by rw [c3]; exact Bool.false_ne_true)]
    rw [if_neg (by rw [h4]; exact Bool.false_ne_true), if_neg (by rw [h5]; exact Bool.false_ne_true)]
    exact congrArg (fun z => (pure (some z) : Sem (Option (List Str)))) k2
  · cases h
theorem tr_good (g : Good c X Z cs) (hot : c.hot = false) (qs : List (Addr × Obj)) (xe : Value → Shared → Prop) : Good c (X.tr qs xe) Z cs where
  hK := g.hK
  hN := g.hN
  nd := g.nd
  vis := g.vis
  loc := g.loc
  gl := g.gl
  calm := g.calm
  units := g.units
  fns := fun h x d hx => by
    obtain ⟨k, f, fd, ps, F, r⟩ := (g.fns h x d hx).ok
    exact ⟨k, f, fd, ps, F, r⟩
  gcs := g.gcs
  frs := g.frs
  scp := g.scp
  xs := g.xs
  stk := g.stk
  kxo := g.kxo
  cls := g.cls
  mkf := g.mkf
  hot := fun h _ => by
    rw [hot] at h
    cases h
  fhs := fun x d hx => by
    obtain ⟨k, f, fd, ps, F, r⟩ := (g.fhs x d hx).ok
    exact ⟨k, f, fd, ps, F, r⟩
  htp := fun h => by
    rw [hot] at h
    cases h
  ocs := fun h hl x id hx => by
    obtain ⟨hm, k, f, fd, ps, M, F, r⟩ := g.ocs h hl x id hx
    exact ⟨hm, k, f, fd, ps, M, F, r⟩
  flo := fun h hl x d hx => by
    obtain ⟨k', f, fd, ps, F, r⟩ := g.flo h hl x d hx
    exact ⟨k', f, fd, ps, F, r⟩
  iso := g.iso
  mlo := fun h hl m k d hm => by
    obtain ⟨k', f, fd, ps, M, F, r⟩ := g.mlo h hl m k d hm
    exact ⟨k', f, fd, ps, M, F, r⟩
  mts := fun h m k d hm => by
    obtain ⟨c1, k', f, fd, ps, M, F, r⟩ := g.mts h m k d hm
    exact ⟨c1, k', f, fd, ps, M, F, r⟩
  ats := g.ats
theorem hot_good (g : Good c X Z cs) (hx : Option (Str × Nat)) (xs : Option (Nat × Addr)) (xf : Option (Addr × Str × V × PyData)) {p : Addr} {ob : Obj} {qs : List (Addr × Obj)} {cls : Value} {d : Option Addr} {e : Exn} (hz : Zc cls d ob) (hf : ∃ fs, ob.data = .fields fs) (xh : XH Z e cls d xf)
    (hi : ∀ n i, hx = some (n, i) → xs = some (i, p)) : Good (c.inHot hx) (X.suite p ((p, ob) :: qs)) (Z.hot xs xf) { cs with xn := some e } where
  hK := g.hK
  hN := g.hN
  nd := g.nd
  vis := g.vis
  loc := g.loc
  gl := g.gl
  calm := fun h => by cases h
  units := g.units
  fns := fun h => by cases h
  gcs := g.gcs
  frs := g.frs
  scp := g.scp
  xs := fun h => by cases h
  stk := g.stk
  kxo := g.kxo
  cls := g.cls
  mkf := fun h => by cases h
  hot := fun _ _ => ⟨X, p, ob, qs, cls, d, e, rfl, hz, hf, rfl, xh, hi⟩
  fhs := fun x d hx => by
    obtain ⟨k, f, fd, ps, F, r, q⟩ := (g.fhs x d hx).ok
    exact ⟨k, f, fd, ps, F, ⟨r.dp, r.un⟩, q⟩
  htp := fun _ => ⟨(p, ob), rfl, List.mem_cons_self⟩
  ocs := fun h => by cases h
  mts := fun h => by cases h
  mlo := fun h => by cases h
  flo := fun h => by cases h
  iso := g.iso
  ats := g.ats
def cvOf (Z : Sur) (n : Nat) : Value := match Z.cla n with
  | some C => .ref C
  | none => .none
theorem cvOf_eq {n : Nat} {C : Addr} (h : Z.cla n = some C) : cvOf Z n = .ref C := by
  unfold cvOf
  rw [h]
theorem mix_ok {rec : Rs'} (hr : ∀ c, StOk rec c) (g : Good c X Z cs) (top : c.top = true) : ∀ {hs : List ExceptHandler} {cl : List (Nat × Option Nat × M Fl)}, hs.mapM (compH rec c) = some cl →
    MixOk X hs (cl.map fun q => (cvOf Z q.1, q.2.1, tsOf Z cs q.2.1 q.2.2)) ∧ ∀ q ∈ cl, ∃ C, Z.cla q.1 = some C
  | [], cl, h => by
    rw [List.mapM_nil] at h
    cases h
    exact ⟨.nil, fun q hq => by cases hq⟩
  | hd :: hs, cl, h => by
    obtain ⟨q, qs, h1, h2, rfl⟩ := mapM_cons_some h
    obtain ⟨ih1, ih2⟩ := mix_ok hr g top h2
    unfold compH at h1
    split at h1
    · rename_i x px st sts pos
      split at h1
      · rename_i hg
        cases hk : c.cl.lookup x with
        | none => rw [hk] at h1; cases h1
        | some k =>
          rw [hk] at h1
          cases h1
          obtain ⟨C, c1, c2⟩ := g.cls x k hk
          obtain ⟨g1, g2, _⟩ := glo_gl g hg
          refine ⟨?_, fun q hq => ?_⟩
          · rw [List.map_cons]
            refine .only (c := cvOf Z k) ⟨g1, g2, .inl (by rw [cvOf_eq c1]; exact c2)⟩ (fun p ob cls d ps hz hf => ⟨fun pins s σ H D I h => ?_⟩) ih1
            obtain ⟨e, xf, xh, h⟩ := h
            exact (seqs_pss (fun st => hr (c.inHot none) _ (Z.hot none xf) { cs with xn := some e } _ (hot_good g none none xf hz hf xh fun n i z => by cases z) takes_none5 PassesOwn.never st) (st :: sts)).run pins s σ H D I h
          · rcases List.mem_cons.mp hq with rfl | hq
            · exact ⟨C, c1⟩
            · exact ih2 q hq
      · cases h1
    · rename_i x px n st sts pos
      split at h1
      · rename_i hh
        rw [Bool.and_eq_true, decide_eq_true_eq] at hh
        obtain ⟨hg, hn⟩ := hh
        split at h1
        · rename_i k i hk hi
          cases h1
          obtain ⟨C, c1, c2⟩ := g.cls x k hk
          obtain ⟨g1, g2, _⟩ := glo_gl g hg
          refine ⟨?_, fun q hq => ?_⟩
          · rw [List.map_cons]
            refine .named (c := cvOf Z k) ⟨g1, g2, .inl (by rw [cvOf_eq c1]; exact c2)⟩ (by rw [g.hN]; exact findIx_get hi) (by show X.env.scope.names.lookup n = _; rw [(g.scp top).1]; exact hn) (fun p ob cls d ps hz hf => ⟨fun pins s σ H D I h => ?_⟩) ih1
            obtain ⟨e, xf, xh, h⟩ := h
            exact (seqs_pss (fun st => hr (c.inHot (some (n, i))) _ (Z.hot (some (i, p)) xf) { cs with xn := some e } _ (hot_good g (some (n, i)) (some (i, p)) xf hz hf xh fun n' i' z => by cases z; rfl) takes_none5 PassesOwn.never st) (st :: sts)).run pins s σ H D I h
          · rcases List.mem_cons.mp hq with rfl | hq
            · exact ⟨C, c1⟩
            · exact ih2 q hq
        · cases h1
      · cases h1
    · cases h1
theorem asO_pe (hf : ∀ e, PE X e (denV Z cs ((compT eFuel c).1 e) W)) (e : Expr) : PE X e (denV Z cs (asO c e) W) := by
  have h1 : ∀ e, PE X e (denV Z cs (mToO ((compT eFuel c).1 e)) W) := fun e => PE.imp (hf e) fun σ H Q q => den_toO q
  unfold asO
  split
  · rename_i x es p
    split
    · rename_i hh
      rw [Bool.and_eq_true, decide_eq_true_eq] at hh
      have hns : (x :: es).all noStar = true := by
        rw [List.all_eq_true]
        intro y hy
        have := List.all_eq_true.mp hh.1 y hy
        cases y <;> first | rfl | cases this
      exact PE.imp (pe_lst (args_pa (f := fun e => mToO ((compT eFuel c).1 e)) h1 hns)) fun σ H Q q => den_mix (by rw [List.length_map]; exact hh.2) q
    · exact h1 _
  · exact h1 e
theorem compSt_ps {rec : Rs'} (hr : ∀ c, StOk rec c) (g : Good c X Z cs) (tk : Takes X W) (hp : PassesOwn (model X.prog X.w) X.A X.env X.xe) (st : Stmt) : PS X st (denS Z cs (compSt rec c st) W) := by
  have hf : ∀ e, PE X e (denV Z cs ((compT eFuel c).1 e) W) := fun e => (compT_ok eFuel c).e X Z cs W g tk e
  have ht : ∀ e, PT X e (denB Z cs ((compT eFuel c).2 e) W) := fun e => (compT_ok eFuel c).t X Z cs W g tk e
  have hs : ∀ l : List Stmt, PSs X l (denS Z cs (seqs (l.map (rec c))) W) := fun l => seqs_pss (fun st => hr c X Z cs W g tk hp st) l
  unfold compSt
  split
  · rename_i e pos
    exact PS.imp (ps_ret (hf e)) fun D σ H q => den_ret q
  · exact PS.imp ps_retN fun D σ H q => den_retN q
  · exact PS.imp ps_pass fun D σ H q => den_pass q
  · exact PS.imp ps_break fun D σ H q => den_break q
  · exact PS.imp ps_continue fun D σ H q => den_cont q
  · rename_i e pos
    split
    · rename_i x px m apos a cpos
      split
      · exact PS.imp (ps_expr (hf _) rfl) fun D σ H q => den_expr q
      split
      · rename_i hh
        rw [Bool.and_eq_true] at hh
        obtain ⟨hl, hst⟩ := hh
        split
        · rename_i i hi
          have pa : PA X [a] (denA Z cs (mArgs [(compT eFuel c).1 a]) W) := args_pa (es := [a]) hf (by rw [List.all_cons, hst]; rfl)
          have few : ((backTo cpos (starEach [a] X.env)).all (fun x => !x.1) && (backToKw cpos (keywordEach [] X.env)).all (fun x => x.1.isSome) && decide ([a].length + ([] : List Keyword).length + (if ([] : List Keyword).isEmpty then 0 else 1) < 30)) = true := by
            rw [star_cons hst]
            rfl
          have sw : swapsWith (.Call (.Attribute (.Name x px) m apos) [a] [] cpos) none pos.line X.env = pure false := rfl
          split
          · rename_i e
            subst e
            refine PS.imp (ps_expr (pe_bm PySem.F.plainAttrs_list PySem.F.slot_list_append PySem.F.type_list_append mt_append (slot_pe (pos := px) g hi) pa rfl few hl (star_cons hst) rfl) sw) fun D σ H q => ?_
            rw [g.hK]
            exact den_app q
          · split
            · rename_i e
              subst e
              refine PS.imp (ps_expr (pe_bm PySem.F.plainAttrs_list PySem.F.slot_list_extend PySem.F.type_list_extend mt_extend (slot_pe (pos := px) g hi) pa rfl few hl (star_cons hst) rfl) sw) fun D σ H q => ?_
              rw [g.hK]
              exact den_ext q
            · exact no_ps
        · exact no_ps
      · exact no_ps
    · rename_i x px m apos a b cpos
      split
      · exact PS.imp (ps_expr (hf _) rfl) fun D σ H q => den_expr q
      split
      · rename_i hh
        rw [Bool.and_eq_true, Bool.and_eq_true] at hh
        obtain ⟨hl, hst, hst2⟩ := hh
        split
        · rename_i i hi
          have pa : PA X [a, b] (denA Z cs (mArgs [(compT eFuel c).1 a, (compT eFuel c).1 b]) W) := args_pa (es := [a, b]) hf (by rw [List.all_cons, hst, List.all_cons, hst2]; rfl)
          have few : ((backTo cpos (starEach [a, b] X.env)).all (fun x => !x.1) && (backToKw cpos (keywordEach [] X.env)).all (fun x => x.1.isSome) && decide ([a, b].length + ([] : List Keyword).length + (if ([] : List Keyword).isEmpty then 0 else 1) < 30)) = true := by
            rw [star_cons hst, star_cons hst2]
            rfl
          have sw : swapsWith (.Call (.Attribute (.Name x px) m apos) [a, b] [] cpos) none pos.line X.env = pure false := rfl
          split
          · rename_i e
            subst e
            refine PS.imp (ps_expr (pe_bm PySem.F.plainAttrs_list PySem.F.slot_list_insert PySem.F.type_list_insert mt_insert (slot_pe (pos := px) g hi) pa rfl few hl (star_cons hst) (star_any (by rw [List.all_cons, hst2]; rfl))) sw) fun D σ H q => ?_
            rw [g.hK]
            exact den_ins q
          · exact no_ps
        · exact no_ps
      · exact no_ps
    · split
      · rename_i hn
        exact PS.imp (ps_expr (hf e) (swaps_no hn _ _ _)) fun D σ H q => den_expr q
      · exact no_ps
  · rename_i t e pos
    split
    · rename_i n pn f pf
      split
      · exact no_ps
      · split
        · rename_i k hk
          split
          · rename_i hn
            refine PS.imp (ps_fld (hf (.Name n pn)) (hf e) (swaps_no hn _ _ _)) fun D σ H q => ?_
            have := g.ats f k hk
            rw [g.hK] at this ⊢
            exact den_fset this q
          · exact no_ps
        · exact no_ps
    · rename_i x p
      split
      · rename_i i hi
        split
        · rename_i htop
          split
          · split
            · rename_i hn
              obtain ⟨h1, h2, h3, h4⟩ := store_ok1 g hi
              exact PS.imp (ps_set (pos' := p) (pos := pos) h1 h2 h3 (asO_pe hf e) (swaps_no hn _ _ _) h4) fun D σ H q => den_asg q
            · exact no_ps
          · exact asg_ps g tk htop hi e p pos
        · exact no_ps
      · exact no_ps
    · rename_i ts kt pt
      split
      · rename_i vs k2 pt2
        split
        · exact no_ps
        · rename_i hhot
          have hcalm := g.calm (by simpa using hhot)
          have nd : X.N.Nodup := by rw [g.hN]; exact g.nd
          split
          · rename_i x i y j hpn
            split
            · rename_i hij
              obtain ⟨p1, p2, p3, p4, p5⟩ := par_names hpn g
              obtain ⟨n1, l1, pos1, t1⟩ := p5 0 (x, i) rfl
              obtain ⟨n2, l2, pos2, t2⟩ := p5 1 (y, j) rfl
              have sw := p3 k2 pt2 kt pt hij.2
              match ts, p4 with
              | [a1, a2], _ =>
                cases t1
                cases t2
                match vs, p2 with
                | [v1, v2], _ =>
                  exact PS.imp (ps_par hcalm nd n1 n2 hij.1 l1 l2 (args_pa hf p1) sw rfl) fun D σ H q => den_par2 q
            · exact no_ps
          · rename_i x i y j z l hpn
            split
            · rename_i hij
              obtain ⟨p1, p2, p3, p4, p5⟩ := par_names hpn g
              obtain ⟨n1, l1, pos1, t1⟩ := p5 0 (x, i) rfl
              obtain ⟨n2, l2, pos2, t2⟩ := p5 1 (y, j) rfl
              obtain ⟨n3, l3, pos3, t3⟩ := p5 2 (z, l) rfl
              have sw := p3 k2 pt2 kt pt hij.2
              match ts, p4 with
              | [a1, a2, a3], _ =>
                cases t1
                cases t2
                cases t3
                match vs, p2 with
                | [v1, v2, v3], _ =>
                  exact PS.imp (ps_par3 hcalm nd n1 n2 n3 hij.1.1 hij.1.2.1 hij.1.2.2 l1 l2 l3 (args_pa hf p1) sw rfl) fun D σ H q => den_par3 q
            · exact no_ps
          · exact no_ps
      · rename_i hnt
        split
        · rename_i hh
          rw [Bool.and_eq_true] at hh
          have hcalm := g.calm (by simpa using hh.2)
          split
          · rename_i tg htg
            have sw : swappedStores [.Tuple ts kt pt] e X.env = pure none := by
              cases e <;> first | rfl | exact absurd rfl (hnt _ _ _)
            exact PS.imp (ps_asg (hf e) (tg_pg g hcalm htg) (show swapsWithSole [.Tuple ts kt pt] e pos.line X.env = pure false from swaps_no hh.1 (some (.Tuple ts kt pt)) pos.line X.env) sw rfl) fun D σ H q => den_tgt q
          · exact no_ps
        · exact no_ps
    · exact no_ps
  · rename_i x p op e pos
    split
    · rename_i i hi
      obtain ⟨h1, h2, h3, h4⟩ := store_ok1 g hi
      exact PS.imp (ps_aug h1 h2 h3 (hf e) ip_add h4) fun D σ H q => den_aug q
    · exact no_ps
  · rename_i t a b pos
    exact PS.imp (ps_if (ht t) (hs a) (hs b)) fun D σ H q => den_ifS q
  · rename_i t body pos
    exact PS.imp (ps_while hp (ht t) (hs body)) fun D σ H q => den_while q
  · rename_i x px a pc pr
    split
    · exact no_ps
    · rename_i hh
      rw [Bool.or_eq_true, not_or] at hh
      have hot : c.hot = false := by simpa using hh.1
      have hg : c.glo x = true := by simpa using hh.2
      obtain ⟨g1, g2, _⟩ := glo_gl g hg
      split
      · rename_i k hk
        obtain ⟨C, c1, c2⟩ := g.cls x k hk
        have kx := g.kxo.kx k C c1
        have rs : Raises X (.ref C) := raises_own kx.sb kx.ty
        split
        · rename_i hfl
          split
          · exact PS.imp (ps_raise (g.calm hot) tk (pmk_own PySem.F.excBase_ValueError (g.kxo.k0 k C c1 hfl) c2 kx.kp rs g1 g2)) fun D σ H q => den_raise c1 q
          · exact no_ps
        · rename_i f hfl
          split
          · rename_i hst
            by_cases hlv : 2 ≤ cs.lv
            · obtain ⟨fI, fd, i1, i2, FI, hr2, hb⟩ := g.mkf hot hlv k C f c1 hfl
              obtain ⟨no, T⟩ := g.kxo.kf k C f c1 hfl
              have pa : PA X [a] (denA Z cs (mArgs [(compT eFuel c).1 a]) W) := args_pa (es := [a]) hf (by rw [List.all_cons, hst]; rfl)
              refine PS.imp (ps_raise (g.calm hot) tk (pmk_oex T i1 i2 FI hr2 hb .nil (fun pins σ H s e s' I c => takes_none5 _ _ (XE.of_call I (fun _ _ _ h => h) c)) g1 c2 pa g2 (star_cons hst) rfl)) fun D σ H q => ?_
              rw [g.hK] at T no ⊢
              exact den_raiseF hlv c1 T no q
            · refine PS.never fun D σ H q => ?_
              obtain ⟨G, io, s, r, q⟩ := q
              unfold sRaiseF at q
              rw [if_neg hlv] at q
              exact q
          · exact no_ps
      · exact no_ps
  · rename_i body h hs' pos
    split
    · exact no_ps
    · rename_i hh
      rw [Bool.or_eq_true, not_or] at hh
      have hot : c.hot = false := by simpa using hh.1
      have top : c.top = true := by simpa using hh.2
      split
      · rename_i cl hcl
        obtain ⟨m1, m2⟩ := mix_ok hr g top hcl
        refine PS.imp (ps_try_mix (tb := fun V => denS Z cs (seqs (body.map (rec c))) V) (g.stk top).1 (g.stk top).2 (by rw [g.hN]; exact g.nd) tk (fun V qs xe tkV hpV => seqs_pss (fun st => hr c _ Z cs V (tr_good g hot qs xe) tkV hpV st) body) m1) fun D σ H q => ?_
        rw [g.hK]
        refine den_try (cv := cvOf Z) (g.xs hot).1 (g.xs hot).2 (fun q hq n C hn => ?_) q
        obtain ⟨D', d1⟩ := m2 q hq
        rw [cvOf_eq d1, ← g.hK]
        exact (g.kxo.kr n C q.1 D' hn d1).1
      · exact no_ps
  · rename_i tg it body pos
    split
    · exact no_ps
    · rename_i hhot
      have hcalm := g.calm (by simpa using hhot)
      split
      · rename_i src t e1 e2
        exact PS.imp (ps_for hp hcalm (src_pi g hf e1) (tg_pg g hcalm e2) (hs body) (src_fold e1 X.env)) fun D σ H q => den_forX q
      · exact no_ps
  · exact no_ps
end
theorem compS_ok : ∀ (n : Nat) (c : Ctx), StOk (compS n) c
  | 0, c => fun X Z cs W g tk hp st => no_ps
  | n + 1, c => fun X Z cs W g tk hp st => compSt_ps (compS_ok n) g tk hp st
end CH

/-! CH10: the reckoning of calls (sem), and that each def of the text keeps it; a law's end. -/
namespace CH
open PySem L2

structure FnDef where
  np : Nat
  nsl : Nat
  body : M Fl
def runDef (cs : Cs) (d : FnDef) (args : List Val) (ob : List Ob) : C :=
  if args.length = d.np then match d.body cs ⟨args.map some ++ List.replicate (d.nsl - d.np) none, ob⟩ with
    | .ok (.rt v) s => .ok v s.ob
    | .ok .nx s => .ok (.dat .none) s.ob
    | .ok _ _ => .no
    | .ex e s => .ex e s.ob
    | .no => .no
  else .no
def sem (T : Nat → Option FnDef) : Nat → Cs
  | 0 => ⟨0, fun _ _ _ => .no, none, fun _ _ _ => .no⟩
  | n + 1 => ⟨n + 1, fun id args ob => match T id with
    | some d => runDef (sem T n) d args ob
    | none => .no, none, (sem T n).run⟩
theorem sem_low (T : Nat → Option FnDef) (n : Nat) : (sem T (n + 1)).low = (sem T n).run := rfl
theorem sem_lv (T : Nat → Option FnDef) : ∀ n, (sem T n).lv = n
  | 0 => rfl
  | _ + 1 => rfl
theorem sem_xn (T : Nat → Option FnDef) : ∀ n, (sem T n).xn = none
  | 0 => rfl
  | _ + 1 => rfl
theorem sem_run {T : Nat → Option FnDef} {id : Nat} {d : FnDef} (h : T id = some d) (n : Nat) (args : List Val) (ob : List Ob) : (sem T (n + 1)).run id args ob = runDef (sem T n) d args ob := by
  show (match T id with
    | some d => runDef (sem T n) d args ob
    | none => .no) = _
  rw [h]

def Entry.fnd (e : Entry) : Fnd := ⟨e.id, e.ps.length, e.dfl, e.kw⟩
def fnsOf (es : List Entry) : List (Str × Fnd) := es.filterMap fun e => match e.of_ with
  | none => some (e.x, e.fnd)
  | some _ => none
def ocOf (es : List Entry) : List (Str × Nat) := es.filterMap fun e => match e.of_ with
  | none => none
  | some (c, _) => if e.x = "__init__" then some (c, e.id) else none
def msOf (es : List Entry) : List (Str × (Str × Fnd)) := es.filterMap fun e => match e.of_ with
  | none => none
  | some (c, _) => some (e.x, (c, e.fnd))
def atOf (es : List Entry) : List (Str × Str) := es.flatMap fun e => match e.of_ with
  | none => []
  | some (c, _) => e.flds.map fun f => (f, c)
def ctxOf (es hs : List Entry) (gc : List (Str × PyData)) (fr : List Str) (cl : List (Str × Nat)) (e : Entry) : Ctx :=
  ⟨e.N, defScope e.st, fnsOf es, fnsOf hs, gc, fr, true, false, cl, none, ocOf es, msOf es, atOf es, e.ol, e.oi⟩
/-- the same in an except clause -/
def ctxH (es hs : List Entry) (gc : List (Str × PyData)) (fr : List Str) (cl : List (Str × Nat)) (e : Entry) : Ctx := { ctxOf es hs gc fr cl e with hot := true }
def sFuel : Nat := 20
noncomputable def defOf (es hs : List Entry) (gc : List (Str × PyData)) (fr : List Str) (cl : List (Str × Nat)) (e : Entry) : FnDef :=
  ⟨e.ps.length, e.N.length, seqs ((defBody e.st).map (compS sFuel (ctxOf es hs gc fr cl e)))⟩
noncomputable def defH (es hs : List Entry) (gc : List (Str × PyData)) (fr : List Str) (cl : List (Str × Nat)) (e : Entry) : FnDef :=
  ⟨e.ps.length, e.N.length, seqs ((defBody e.st).map (compS sFuel (ctxH es hs gc fr cl e)))⟩
/-- the def stands behind the top as the text says -/
structure EntryOk (K : PySem.W.Frag) (mg : Str → Option Value) (e : Entry) (f : Addr) (fd : FuncData) : Prop where
  fn : ∃ dvs kws, FunD K e.nm e.qn (defArgs e.st) (defBody e.st) (defScope e.st) dvs kws f fd ∧ (e.dfl = [] → dvs = [])
  mt : ∀ c q, e.of_ = some (c, q) → mg c = some (.ref (He.ga K c)) ∧ Cls K (He.ga K c) ∧ Meth K (He.ga K c) e.x f ∧ (e.x = "__init__" → Mk K (He.ga K c) f ∧ e.ps.length = 1 ∧ e.dfl = [] ∧ IsoOk K (He.ga K c)) ∧ ∀ g ∈ e.flds, NoAttr K (He.ga K c) g
  mg : e.of_ = none → mg e.x = some (.ref f)
  sc : FnScope e.N e.ps (defScope e.st)
  bn : ∀ m, e.ps.length ≤ m + e.dfl.length → m ≤ e.ps.length → ∃ ds dvs, cVs (e.dfl.drop (m + e.dfl.length - e.ps.length)) = some dvs ∧ m + dvs.length = e.ps.length ∧ Vals dvs ds ∧ Binds K fd e.ps ds
  kb : ∀ n q, e.kw = some (n, q) → KBn K fd e.ps n [q] (· ++ ·) (· ++ ·)
section
variable {Z : Sur} {σ : St} {G H : Hp} {io : List Addr} {s : S} {w : V} {v : Val}
theorem SR.drop (r : SR Z G io σ s H) (hx : Z.xs = none) (hf : Z.xf = none) : SR Z G io [] ⟨[], s.ob⟩ H where
  sub := r.sub
  old := r.old
  gold := r.gold
  iold := r.iold
  kept := r.kept
  slot := fun i v h => by simp [S.at_] at h
  mine := fun i xs a h => by simp [S.at_] at h
  ol := r.ol
  ond := r.ond
  ofr := r.ofr
  ob := r.ob
  len := rfl
  xx := xs_none hx hf
theorem VT.drop (t : VT Z G io σ s H w v) : VT Z G io [] ⟨[], s.ob⟩ H w v :=
  ⟨t.1, fun xs a e1 e2 => ⟨(t.2 xs a e1 e2).1, fun j ys h => by simp [S.at_] at h⟩⟩
theorem at_start {vals : List Val} {k i : Nat} {ob : List Ob} {v : Val} (h : (⟨vals.map some ++ List.replicate k none, ob⟩ : S).at_ i = some v) : vals[i]? = some v := by
  unfold S.at_ at h
  simp only at h
  by_cases hi : i < (vals.map some).length
  · rw [List.getElem?_append_left hi, List.getElem?_map] at h
    cases e : vals[i]? with
    | none => rw [e] at h; cases h
    | some u => rw [e] at h; exact h
  · rw [List.getElem?_append_right (by omega), List.getElem?_replicate] at h
    split at h
    · rename_i o e
      split at e
      · cases e; cases h
      · cases e
    · cases h
theorem VBs.get {K : PySem.W.Frag} : ∀ {ws : List V} {vs : List Val} {i : Nat} {v : Val}, VBs K G H io ws vs → vs[i]? = some v → ∃ w, ws[i]? = some w ∧ VB K G H io w v ∧ ∀ xs, v ≠ .own xs
  | [], [], _, _, _, e => by simp at e
  | w :: ws, u :: vs, 0, v, h, e => by
    simp at e
    subst e
    exact ⟨w, rfl, h.1⟩
  | w :: ws, u :: vs, i + 1, v, h, e => by
    obtain ⟨w', h1, h2⟩ := VBs.get (i := i) h.2 (by simpa using e)
    exact ⟨w', by simpa using h1, h2⟩
  | [], _ :: _, _, _, h, _ => h.elim
  | _ :: _, [], _, _, h, _ => h.elim
/-- the slots at a def's entry -/
theorem SR.start {N : List Str} {vs : List V} {vals : List Val} {ob : List Ob} (r : SR Z G io [] ⟨[], ob⟩ H) (hv : VBs Z.K G H io vs vals) (hl : vs.length ≤ N.length) (hx : Z.xs = none) (hf : Z.xf = none) : SR Z G io (start N vs) ⟨vals.map some ++ List.replicate (N.length - vals.length) none, ob⟩ H where
  sub := r.sub
  old := r.old
  gold := r.gold
  iold := r.iold
  kept := r.kept
  slot := fun i v h => by
    obtain ⟨w, h1, h2, _⟩ := VBs.get hv (at_start h)
    refine ⟨w, ?_, h2⟩
    unfold L2.start
    have hi : i < (vs.map some).length := by
      rw [List.length_map]
      exact (List.getElem?_eq_some_iff.mp h1).1
    rw [List.getElem?_append_left hi, List.getElem?_map, h1]
    rfl
  mine := fun i xs a h e => by
    obtain ⟨w, h1, h2, n⟩ := VBs.get hv (at_start h)
    exact absurd rfl (n xs)
  ol := r.ol
  ond := r.ond
  ofr := r.ofr
  ob := r.ob
  len := by
    unfold L2.start
    have := VBs.length hv
    simp [this]
  xx := xs_none hx hf
end
section
variable {P : Program} {w : World} {K : PySem.W.Frag} {mg : Str → Option Value} {base : Heap} {cla : Nat → Option Addr} {T : Nat → Option FnDef} {es : List Entry} {gc : List (Str × PyData)} {fr : List Str} {cl : List (Str × Nat)}
theorem lookup_mem0 {α : Type} {x : Str} {d : α} : ∀ {l : List (Str × α)}, l.lookup x = some d → (x, d) ∈ l
  | [], h => by cases h
  | (y, e) :: l, h => by
    rw [List.lookup_cons] at h
    cases q : x == y with
    | true =>
      rw [q] at h
      cases h
      rw [eq_of_beq q]
      exact List.mem_cons_self
    | false =>
      rw [q] at h
      exact List.mem_cons_of_mem _ (lookup_mem0 h)
theorem fns_mem {es : List Entry} {x : Str} {d : Fnd} (h : (fnsOf es).lookup x = some d) : ∃ e ∈ es, e.x = x ∧ d = ⟨e.id, e.ps.length, e.dfl, e.kw⟩ ∧ e.of_ = none := by
  obtain ⟨e, he, q⟩ := List.mem_filterMap.mp (lookup_mem0 h)
  cases ho : e.of_ with
  | none => rw [ho] at q; cases q; exact ⟨e, he, rfl, rfl, ho⟩
  | some z => rw [ho] at q; cases q
theorem oc_mem {es : List Entry} {x : Str} {id : Nat} (h : (ocOf es).lookup x = some id) : ∃ e ∈ es, ∃ q, e.of_ = some (x, q) ∧ e.x = "__init__" ∧ e.id = id := by
  obtain ⟨e, he, q⟩ := List.mem_filterMap.mp (lookup_mem0 h)
  cases ho : e.of_ with
  | none => rw [ho] at q; cases q
  | some z =>
    obtain ⟨c, qn⟩ := z
    rw [ho] at q
    simp only at q
    split at q
    · rename_i hi
      cases q
      exact ⟨e, he, qn, ho, hi, rfl⟩
    · cases q
theorem ms_mem {es : List Entry} {m k : Str} {d : Fnd} (h : (msOf es).lookup m = some (k, d)) : ∃ e ∈ es, ∃ q, e.of_ = some (k, q) ∧ e.x = m ∧ d = e.fnd := by
  obtain ⟨e, he, q⟩ := List.mem_filterMap.mp (lookup_mem0 h)
  cases ho : e.of_ with
  | none => rw [ho] at q; cases q
  | some z =>
    obtain ⟨c, qn⟩ := z
    rw [ho] at q
    cases q
    exact ⟨e, he, qn, ho, rfl, rfl⟩
theorem at_mem {es : List Entry} {f k : Str} (h : (atOf es).lookup f = some k) : ∃ e ∈ es, ∃ q, e.of_ = some (k, q) ∧ f ∈ e.flds := by
  obtain ⟨e, he, q⟩ := List.mem_flatMap.mp (lookup_mem0 h)
  cases ho : e.of_ with
  | none => rw [ho] at q; cases q
  | some z =>
    obtain ⟨c, qn⟩ := z
    rw [ho] at q
    obtain ⟨g, hg, eg⟩ := List.mem_map.mp q
    cases eg
    exact ⟨e, he, qn, ho, hg⟩
/-- what a class with a field needs to be called -/
def IniOk (K : PySem.W.Frag) (mg : Str → Option Value) (C : Addr) (f : Str) : Prop := ∃ fI fd, PySem.W.findIn K (.ref C) "__init__" = some (some (.ref fI)) ∧ PySem.W.typeIn K (.ref fI) = some (.type "function") ∧ (∀ (P : Program) (w : World) (base : Heap), FnOk P w K mg base (L2.CX P w) 1 fI fd ["self", f] (spIni K C f)) ∧ Binds K fd ["self", f] []
/-- an entry's def stands -/
theorem EntryOk.at_id {K : PySem.W.Frag} {mg : Str → Option Value} {e : Entry} {f : Addr} {fd : FuncData} (h : EntryOk K mg e f fd) (k : Nat) : EntryOk K mg { e with id := k } f fd := ⟨h.fn, h.mt, h.mg, h.sc, h.bn, h.kb⟩
def SemA (K : PySem.W.Frag) (mg : Str → Option Value) (cla : Nat → Option Addr) (P : Program) (w : World) (base : Heap) (T : Nat → Option FnDef) (es : List Entry) (n : Nat) : Prop := ∀ e ∈ es, ∃ f fd, EntryOk K mg e f fd ∧ FnOk P w K mg base (L2.CX P w) n f fd e.ps (spOf K cla e.ps.length ((sem T n).run e.id))
def SemH (K : PySem.W.Frag) (mg : Str → Option Value) (cla : Nat → Option Addr) (P : Program) (w : World) (base : Heap) (T : Nat → Option FnDef) (hs : List Entry) (n : Nat) : Prop := ∀ e ∈ hs, ∃ f fd, EntryOk K mg e f fd ∧ FnC P w K mg base (L2.CX P w) n f fd e.ps (spOf K cla e.ps.length fun a o => noXC ((sem T n).run e.id a o))
theorem semA_zero (hF : ∀ e ∈ es, ∃ f fd, EntryOk K mg e f fd) : SemA K mg cla P w base T es 0 := fun e he => by
  obtain ⟨f, fd, E⟩ := hF e he
  have no : ∀ vs H Q E', ¬ spOf K cla e.ps.length ((sem T 0).run e.id) vs H Q E' := fun vs H Q E' ⟨_, _, _, _, _, _, _, h⟩ => h
  exact ⟨f, fd, E, fun vs H Q E' h => absurd h (no vs H Q E'), fun A outer s H args us vs Q E' _ _ _ _ h => absurd h (no vs H Q E')⟩
theorem semH_zero (hF : ∀ e ∈ hs, ∃ f fd, EntryOk K mg e f fd) : SemH K mg cla P w base T hs 0 := fun e he => by
  obtain ⟨f, fd, E⟩ := hF e he
  have no : ∀ vs H Q E', ¬ spOf K cla e.ps.length (fun a o => noXC ((sem T 0).run e.id a o)) vs H Q E' := fun vs H Q E' ⟨_, _, _, _, _, _, _, h⟩ => h
  exact ⟨f, fd, E, fun vs H Q E' h => absurd h (no vs H Q E'), fun A out s H as us vs Q E' z _ _ _ _ _ _ h => absurd h (no vs H Q E')⟩
theorem fh_ok (IH : SemH K mg cla P w base T hs n) {x : Str} {d : Fnd} (hx : (fnsOf hs).lookup x = some d) (hdf : ∀ e ∈ hs, e.dfl = []) {X : Cx} {Z : Sur} (e1 : X.prog = P) (e2 : X.w = w) (e3 : X.K = K) (e4 : X.mg = mg) (e5 : X.base = base) (e6 : Z.K = K) (e7 : Z.cla = cla) (hr : L2H.RoomH n X.A) : CallH X Z (sem T n) x d := by
  obtain ⟨e', h1, h2, rfl, ho⟩ := fns_mem hx
  obtain ⟨f', fd', E2, F2⟩ := IH e' h1
  obtain ⟨dvs', kws', F3, _⟩ := E2.fn
  obtain ⟨ds, dvs, b1, b2, b3, b4⟩ := E2.bn e'.ps.length (by omega) (Nat.le_refl _)
  have e0 : dvs = [] := List.eq_nil_of_length_eq_zero (by omega)
  subst e0
  cases b3
  refine ⟨n, f', fd', e'.ps, ?_, hr, by rw [← h2, e4]; exact E2.mg ho, by rw [e3]; exact F3.kp, by rw [e3]; exact b4⟩
  rw [e1, e2, e3, e4, e5, e6, e7]
  exact F2
theorem semA_succ (hkx : KxOk K cla) (hcl : ∀ x n, cl.lookup x = some n → ∃ C, cla n = some C ∧ mg x = some (.ref C)) (hmk : ∀ n C f, cla n = some C → fldOf n = some f → IniOk K mg C f) (hT : ∀ e ∈ es, T e.id = some (defOf es hs gc fr cl e)) (hF : ∀ e ∈ es, ∃ f fd, EntryOk K mg e f fd) (hdf : ∀ e ∈ hs, e.dfl = [])
    (hg : ∀ x d, gc.lookup x = some d → ∃ v u, mg x = some u ∧ RelV v u ∧ ∀ G, DR K G v d) (hfr : ∀ x, fr.contains x = true → mg x = none) (IA : SemA K mg cla P w base T es n) (IB : ∀ m, n = m + 1 → SemA K mg cla P w base T es m) (IH : SemH K mg cla P w base T hs n) : SemA K mg cla P w base T es (n + 1) := fun e he => by
  obtain ⟨f, fd, E⟩ := hF e he
  refine ⟨f, fd, E, ?_⟩
  obtain ⟨dvs, kws, F, _⟩ := E.fn
  refine FunD.ok (CX := L2.CX P w) F E.sc (fun vs H Q E' ⟨_, _, _, _, hl, _⟩ => hl) fun cdv A outer s H vs Q E' hr h => ?_
  obtain ⟨G, io, vals, ob, hl, r, hv, h⟩ := h
  rw [sem_run (hT e he)] at h
  refine ⟨denS (Zin K cla G io H) (sem T n) (defOf es hs gc fr cl e).body (fun cls d _ H => E' cls d H), ?_, ?_⟩
  · -- the body's own derivation
    refine seqs_pss (f := compS sFuel (ctxOf es hs gc fr cl e)) (fun st => compS_ok sFuel (ctxOf es hs gc fr cl e) _ (Zin K cla G io H) (sem T n) _ ?_ (takes_of rfl rfl rfl rfl) (passes_of rfl) st) (defBody e.st)
    exact {
      hK := rfl
      hN := rfl
      nd := E.sc.nd
      vis := fun x hx => by
        have hx : isVis ((defScope e.st).names.lookup x) = true := hx
        show Vis (defScope e.st) x
        cases q : (defScope e.st).names.lookup x with
        | none => rw [q] at hx; cases hx
        | some k =>
          rw [q] at hx
          cases k <;> first | cases hx | skip
          · exact .inl q
          · exact .inr (.inl q)
          · exact .inr (.inr q)
      loc := fun x hx => by
        have hx : isLoc ((defScope e.st).names.lookup x) = true := hx
        refine ⟨?_, .inl rfl⟩
        show Loc (defScope e.st) x
        cases q : (defScope e.st).names.lookup x with
        | none => rw [q] at hx; cases hx
        | some k =>
          rw [q] at hx
          cases k <;> first | cases hx | skip
          · exact .inl q
          · exact .inr q
      gl := fun x hx => by
        have hx : isGlo ((defScope e.st).names.lookup x) = true := hx
        show (defScope e.st).names.lookup x = some .globalImplicit
        cases q : (defScope e.st).names.lookup x with
        | none => rw [q] at hx; cases hx
        | some k =>
          rw [q] at hx
          cases k <;> first | rfl | cases hx
      calm := fun _ => rfl
      units := by
        have := hr.un
        unfold rm
        rw [sem_lv]
        show (A.deeper _).units + (200 + 16 * n) < cLine
        omega
      fns := fun _ x d hx => by
        obtain ⟨e', h1, h2, rfl, ho⟩ := fns_mem hx
        obtain ⟨f', fd', E2, F2⟩ := IA e' h1
        obtain ⟨dvs', kws', F3, _⟩ := E2.fn
        exact ⟨n, f', fd', e'.ps, F2, hr, by rw [← h2]; exact E2.mg ho, F3.kp, E2.bn, E2.kb⟩
      gcs := hg
      frs := hfr
      scp := fun _ => ⟨rfl, E.sc.kind⟩
      xs := fun _ => ⟨rfl, rfl⟩
      stk := fun _ => ⟨rfl, rfl⟩
      kxo := hkx
      cls := hcl
      mkf := fun _ hlv n' C f h1 h2 => by
        obtain ⟨fI, fd', i1, i2, i3, i4⟩ := hmk n' C f h1 h2
        rw [sem_lv] at hlv
        exact ⟨fI, fd', i1, i2, i3 _ _ _, hr.mono hlv, i4⟩
      hot := fun h => by cases h
      fhs := fun x d hx => fh_ok IH hx hdf rfl rfl rfl rfl rfl rfl rfl (L2H.roomH_of hr)
      htp := fun h => by cases h
      ocs := fun _ hl x id hx => by
        obtain ⟨e', h1, q, ho, hi, rfl⟩ := oc_mem hx
        rw [sem_lv] at hl
        obtain ⟨m, rfl⟩ : ∃ m, n = m + 1 := ⟨n - 1, by omega⟩
        obtain ⟨f', fd', E2, F2⟩ := IB m rfl e' h1
        obtain ⟨m1, m2, m3, m4, m5⟩ := E2.mt x q ho
        obtain ⟨m6, m7, m8, _⟩ := m4 hi
        obtain ⟨ds, dvs, b1, b2, b3, b4⟩ := E2.bn e'.ps.length (by omega) (Nat.le_refl _)
        have e0 : dvs = [] := List.eq_nil_of_length_eq_zero (by omega)
        subst e0
        cases b3
        refine ⟨m1, m, f', fd', e'.ps, m6, ?_, hr, b4⟩
        rw [sem_low, ← m7]
        exact F2
      flo := fun _ hl x d hx => by
        obtain ⟨e', h1, rfl, rfl, ho⟩ := fns_mem hx
        rw [sem_lv] at hl
        obtain ⟨m, rfl⟩ : ∃ m, n = m + 1 := ⟨n - 1, by omega⟩
        obtain ⟨f', fd', E2, F2⟩ := IB m rfl e' h1
        refine ⟨m, f', fd', e'.ps, ?_, hr, E2.mg ho, fun hd => ?_⟩
        · rw [sem_low]
          exact F2
        · obtain ⟨ds, dvs, b1, b2, b3, b4⟩ := E2.bn e'.ps.length (by omega) (Nat.le_refl _)
          have e0 : dvs = [] := List.eq_nil_of_length_eq_zero (by omega)
          subst e0
          cases b3
          exact b4
      iso := fun x id hx => by
        obtain ⟨e', h1, q, ho, hi, _⟩ := oc_mem hx
        obtain ⟨f', fd', E2⟩ := hF e' h1
        obtain ⟨m1, m2, m3, m4, m5⟩ := E2.mt x q ho
        exact ⟨m1, m2, (m4 hi).2.2.2⟩
      mlo := fun _ hl m k d hx => by
        obtain ⟨e', h1, q, ho, rfl, rfl⟩ := ms_mem hx
        rw [sem_lv] at hl
        obtain ⟨m, rfl⟩ : ∃ m, n = m + 1 := ⟨n - 1, by omega⟩
        obtain ⟨f', fd', E2, F2⟩ := IB m rfl e' h1
        obtain ⟨m1, m2, m3, m4, m5⟩ := E2.mt k q ho
        refine ⟨m, f', fd', e'.ps, m3, ?_, hr, fun hd => ?_⟩
        · rw [sem_low]
          exact F2
        · obtain ⟨ds, dvs, b1, b2, b3, b4⟩ := E2.bn e'.ps.length (by omega) (Nat.le_refl _)
          have e0 : dvs = [] := List.eq_nil_of_length_eq_zero (by omega)
          subst e0
          cases b3
          exact b4
      mts := fun _ m k d hx => by
        obtain ⟨e', h1, q, ho, rfl, rfl⟩ := ms_mem hx
        obtain ⟨f', fd', E2, F2⟩ := IA e' h1
        obtain ⟨m1, m2, m3, m4, m5⟩ := E2.mt k q ho
        exact ⟨m2, n, f', fd', e'.ps, m3, F2, hr, E2.bn, m3.kp, E2.kb⟩
      ats := fun f k hx => by
        obtain ⟨e', h1, q, ho, hf⟩ := at_mem hx
        obtain ⟨f', fd', E2⟩ := hF e' h1
        obtain ⟨m1, m2, m3, m4, m5⟩ := E2.mt k q ho
        exact ⟨m2, m5 f hf⟩ }
  · -- its reading
    have hvl := VBs.length hv
    have hN : e.ps.length ≤ e.N.length := by
      have := congrArg List.length E.sc.pre
      rw [List.length_take] at this
      omega
    have r2 := SR.start (N := e.N) r hv (by rw [hl]; exact hN) rfl rfl
    refine ⟨G, io, _, r2, ?_⟩
    unfold runDef at h
    have hla : vals.length = (defOf es hs gc fr cl e).np := by rw [← hvl]; exact hl
    rw [if_pos hla] at h
    have e0 : (defOf es hs gc fr cl e).nsl - (defOf es hs gc fr cl e).np = e.N.length - vals.length := by rw [hla]; rfl
    rw [e0] at h
    cases q : (defOf es hs gc fr cl e).body (sem T n) ⟨vals.map some ++ List.replicate (e.N.length - vals.length) none, ob⟩ with
    | no => rw [q] at h; exact h.elim
    | ex x s' =>
      rw [q] at h
      exact fun σ' cls d G' io' H' r' e' xr => h cls d G' io' H' (r'.drop rfl rfl) e' xr
    | ok a s' =>
      rw [q] at h
      cases a with
      | nx => exact fun σ' G' io' H' r' e' => h .non G' io' H' (r'.drop rfl rfl) e' (.dat .non)
      | rt v => exact fun σ' G' io' H' r' e' wv t => h wv G' io' H' (r'.drop rfl rfl) e' t.drop
      | bk => exact h.elim
      | ct => exact h.elim
theorem semH_succ (hkx : KxOk K cla) (hcl : ∀ x n, cl.lookup x = some n → ∃ C, cla n = some C ∧ mg x = some (.ref C)) (hT : ∀ e ∈ hs, T e.id = some (defH es hs gc fr cl e)) (hF : ∀ e ∈ hs, ∃ f fd, EntryOk K mg e f fd) (hFe : ∀ e ∈ es, ∃ f fd, EntryOk K mg e f fd) (hdf : ∀ e ∈ hs, e.dfl = [])
    (hg : ∀ x d, gc.lookup x = some d → ∃ v u, mg x = some u ∧ RelV v u ∧ ∀ G, DR K G v d) (hfr : ∀ x, fr.contains x = true → mg x = none) (IH : SemH K mg cla P w base T hs n) : SemH K mg cla P w base T hs (n + 1) := fun e he => by
  obtain ⟨f, fd, E⟩ := hF e he
  refine ⟨f, fd, E, ?_⟩
  obtain ⟨dvs, kws, F, _⟩ := E.fn
  refine funD_c (CX := L2.CX P w) F E.sc (fun vs H Q E' ⟨_, _, _, _, hl, _⟩ => hl) fun cdv A outer s H vs Q E' z hz hr h => ?_
  obtain ⟨G, io, vals, ob, hl, r, hv, h⟩ := h
  simp only [sem_run (hT e he)] at h
  refine ⟨denS (Zin K cla G io H) (sem T n) (defH es hs gc fr cl e).body (fun _ _ _ _ => False), ?_, ?_⟩
  · -- the body's own derivation
    refine seqs_pss (f := compS sFuel (ctxH es hs gc fr cl e)) (fun st => compS_ok sFuel (ctxH es hs gc fr cl e) _ (Zin K cla G io H) (sem T n) _ ?_ takes_none5 (passes_of rfl) st) (defBody e.st)
    exact {
      hK := rfl
      hN := rfl
      nd := E.sc.nd
      vis := fun x hx => by
        have hx : isVis ((defScope e.st).names.lookup x) = true := hx
        show Vis (defScope e.st) x
        cases q : (defScope e.st).names.lookup x with
        | none => rw [q] at hx; cases hx
        | some k =>
          rw [q] at hx
          cases k <;> first | cases hx | skip
          · exact .inl q
          · exact .inr (.inl q)
          · exact .inr (.inr q)
      loc := fun x hx => by
        have hx : isLoc ((defScope e.st).names.lookup x) = true := hx
        refine ⟨?_, .inl rfl⟩
        show Loc (defScope e.st) x
        cases q : (defScope e.st).names.lookup x with
        | none => rw [q] at hx; cases hx
        | some k =>
          rw [q] at hx
          cases k <;> first | cases hx | skip
          · exact .inl q
          · exact .inr q
      gl := fun x hx => by
        have hx : isGlo ((defScope e.st).names.lookup x) = true := hx
        show (defScope e.st).names.lookup x = some .globalImplicit
        cases q : (defScope e.st).names.lookup x with
        | none => rw [q] at hx; cases hx
        | some k =>
          rw [q] at hx
          cases k <;> first | rfl | cases hx
      calm := fun h => by cases h
      units := by
        have := hr.un
        unfold rm
        rw [sem_lv]
        show (A.deeper _).units + (200 + 16 * n) < cLine
        omega
      fns := fun h => by cases h
      gcs := hg
      frs := hfr
      scp := fun _ => ⟨rfl, E.sc.kind⟩
      xs := fun h => by cases h
      stk := fun _ => ⟨rfl, rfl⟩
      kxo := hkx
      cls := hcl
      mkf := fun h => by cases h
      hot := fun _ h => absurd rfl h
      fhs := fun x d hx => fh_ok IH hx hdf rfl rfl rfl rfl rfl rfl rfl hr
      htp := fun _ => ⟨z, hz, List.mem_cons_self⟩
      ocs := fun h => by cases h
      mts := fun h => by cases h
      mlo := fun h => by cases h
      flo := fun h => by cases h
      iso := fun x id hx => by
        obtain ⟨e', h1, q, ho, hi, _⟩ := oc_mem hx
        obtain ⟨f', fd', E2⟩ := hFe e' h1
        obtain ⟨m1, m2, m3, m4, m5⟩ := E2.mt x q ho
        exact ⟨m1, m2, (m4 hi).2.2.2⟩
      ats := fun f k hx => by
        obtain ⟨e', h1, q, ho, hf⟩ := at_mem hx
        obtain ⟨f', fd', E2⟩ := hFe e' h1
        obtain ⟨m1, m2, m3, m4, m5⟩ := E2.mt k q ho
        exact ⟨m2, m5 f hf⟩ }
  · -- its reading
    have hvl := VBs.length hv
    have hN : e.ps.length ≤ e.N.length := by
      have := congrArg List.length E.sc.pre
      rw [List.length_take] at this
      omega
    have r2 := SR.start (N := e.N) r hv (by rw [hl]; exact hN) rfl rfl
    refine ⟨G, io, _, r2, ?_⟩
    unfold runDef at h
    have hla : vals.length = (defH es hs gc fr cl e).np := by rw [← hvl]; exact hl
    rw [if_pos hla] at h
    have e0 : (defH es hs gc fr cl e).nsl - (defH es hs gc fr cl e).np = e.N.length - vals.length := by rw [hla]; rfl
    rw [e0] at h
    cases q : (defH es hs gc fr cl e).body (sem T n) ⟨vals.map some ++ List.replicate (e.N.length - vals.length) none, ob⟩ with
    | no => rw [q] at h; exact h.elim
    | ex x s' =>
      rw [q] at h
      exact h.elim
    | ok a s' =>
      rw [q] at h
      cases a with
      | nx => exact fun σ' G' io' H' r' e' => h .non G' io' H' (r'.drop rfl rfl) e' (.dat .non)
      | rt v => exact fun σ' G' io' H' r' e' wv t => h wv G' io' H' (r'.drop rfl rfl) e' t.drop
      | bk => exact h.elim
      | ct => exact h.elim
/-- every def keeps its reckoning, so many calls deep -/
theorem sem_ok (hkx : KxOk K cla) (hcl : ∀ x n, cl.lookup x = some n → ∃ C, cla n = some C ∧ mg x = some (.ref C)) (hmk : ∀ n C f, cla n = some C → fldOf n = some f → IniOk K mg C f) (hT : ∀ e ∈ es, T e.id = some (defOf es hs gc fr cl e)) (hTh : ∀ e ∈ hs, T e.id = some (defH es hs gc fr cl e)) (hF : ∀ e ∈ es, ∃ f fd, EntryOk K mg e f fd) (hFh : ∀ e ∈ hs, ∃ f fd, EntryOk K mg e f fd) (hdf : ∀ e ∈ hs, e.dfl = [])
    (hg : ∀ x d, gc.lookup x = some d → ∃ v u, mg x = some u ∧ RelV v u ∧ ∀ G, DR K G v d) (hfr : ∀ x, fr.contains x = true → mg x = none) :
    ∀ n : Nat, SemA K mg cla P w base T es n ∧ SemH K mg cla P w base T hs n ∧ ∀ m, n = m + 1 → SemA K mg cla P w base T es m
  | 0 => ⟨semA_zero hF, semH_zero hFh, fun _ z => by cases z⟩
  | n + 1 =>
    let ⟨a, b, c⟩ := sem_ok hkx hcl hmk hT hTh hF hFh hdf hg hfr n
    ⟨semA_succ hkx hcl hmk hT hF hdf hg hfr a c b, semH_succ hkx hcl hTh hFh hF hdf hg hfr b, fun m z => by cases z; exact a⟩
end
/-- a law's end: the law's call gives True at every script -/
theorem law_walk {l : PySem.W.OpenLaw} {q : Program} {loose : List Str} {XP : (Str → Option Value) → Heap → Prop} {YP : World → Heap → Prop} {d : DefRec} {T : Nat → Option FnDef} {es hs : List Entry} {gc : List (Str × PyData)} {fr : List Str} {cl : List (Str × Nat)} {lawE : Entry} (n : Nat)
    (hn : l.most = some 63) (hdf : d.params.defaults = []) (hr : Room n callerA) (hT : ∀ e ∈ es, T e.id = some (defOf es hs gc fr cl e)) (hTh : ∀ e ∈ hs, T e.id = some (defH es hs gc fr cl e)) (hhs : ∀ h ∈ hs, h.dfl = [] ∧ ∃ e ∈ es, h = { e with id := h.id }) (hl : lawE ∈ es) (hlo : lawE.of_ = none) (hps : lawE.ps = [("script" : Str)]) (hdfl : lawE.dfl = []) (hnm : d.name = lawE.x)
    (F : ∀ (w : World) (mg : Str → Option Value) (h : Heap), YP w h → h.Ns mainGlobals mg → ∃ (K : PySem.W.Frag) (cla : Nat → Option Addr), K.In h ∧ (KxOk K cla ∧ (∀ x n, cl.lookup x = some n → ∃ C, cla n = some C ∧ mg x = some (.ref C)) ∧ ∀ n C f, cla n = some C → fldOf n = some f → IniOk K mg C f) ∧ (∀ e ∈ es, ∃ f fd, EntryOk K mg e f fd) ∧ (∀ f fd, EntryOk K mg lawE f fd → ∀ (s : Shared) (u : Value), BindsTo s fd ⟨[u], []⟩ [(("script" : Str), u)]) ∧
      (∀ x d, gc.lookup x = some d → ∃ v u, mg x = some u ∧ RelV v u ∧ ∀ G, DR K G v d) ∧ (∀ x, fr.contains x = true → mg x = none))
    (L : ∀ ns : List Int, ns.length ≤ 63 → ∃ ob, (sem T n).run lawE.id [.scr ns] [] = .ok (.dat (.bool true)) ob) :
    PySem.W.WalkO q loose XP YP l.row.toRowW d [] (fun f vs => PySem.call f vs) := by
  refine L2.walk_ofE (l := l) (n := 63) (k := n) (x := "script") (CX := CX0) hn (by rw [sizeLine_eq]; decide) hdf hr ?_ (fun _ _ _ _ z => z)
  intro w mg fa h hY hG hfa
  obtain ⟨K, cla, hK, ⟨x1, x2, x3⟩, hE, hB, hgc, hfr⟩ := F w mg h hY hG
  obtain ⟨f0, fd0, E0'⟩ := hE lawE hl
  -- one function object, whatever the base
  have uniq : ∀ f fd f' fd', EntryOk K mg lawE f fd → EntryOk K mg lawE f' fd' → f = f' ∧ fd = fd' := fun f fd f' fd' a b => by
    have e : f = f' := by
      have := a.mg hlo
      rw [b.mg hlo] at this
      cases this
      rfl
    subst e
    obtain ⟨_, _, Fa, _⟩ := a.fn
    obtain ⟨_, _, Fb, _⟩ := b.fn
    obtain ⟨_, _, _, _, _, _, _, _, _, _, _, l1, _⟩ := Fa.ex
    obtain ⟨_, _, _, _, _, _, _, _, _, _, _, l2, _⟩ := Fb.ex
    rw [l1] at l2
    cases l2
    exact ⟨rfl, rfl⟩
  have ef : f0 = fa := by
    have := E0'.mg hlo
    rw [← hnm, hfa] at this
    cases this
    rfl
  subst ef
  refine ⟨K, fd0, fun vs H Q _ => spOf K cla 1 ((sem T n).run lawE.id) vs H Q (fun _ _ _ => False), hK, hB f0 fd0 E0', fun H a ns hns _ hS => ?_, fun base hb hG' => ?_⟩
  · obtain ⟨ob, hL⟩ := L ns hns
    refine ⟨H, [], [.scr ns], [], rfl, ?_, ⟨⟨⟨a, rfl, hS⟩, fun _ z => by cases z⟩, trivial⟩, ?_⟩
    · exact {
        sub := Sub.refl _
        old := fun _ _ h _ => h
        gold := fun _ _ _ h => h
        iold := fun _ h => .inl h
        kept := fun _ _ h => by cases h
        slot := fun i v h => by simp [S.at_] at h
        mine := fun i xs a h => by simp [S.at_] at h
        ol := rfl
        ond := List.nodup_nil
        ofr := fun a h => by simp at h
        ob := fun n a o h => by simp at h
        len := rfl
        xx := xs_none rfl rfl }
    · rw [hL]
      intro w' G' io' H' _ _ t
      exact DR.bl_ t.1
  · obtain ⟨f1, fd1, E1, F1⟩ := (sem_ok (P := l.prog) (w := w) (base := base) (cla := cla) x1 x2 x3 hT hTh hE (fun h hh => by
      obtain ⟨_, e, he, eh⟩ := hhs h hh
      obtain ⟨f, fd, E⟩ := hE e he
      rw [eh]
      exact ⟨f, fd, E.at_id h.id⟩) (fun h hh => (hhs h hh).1) hgc hfr n).1 lawE hl
    obtain ⟨rfl, rfl⟩ := uniq _ _ _ _ E1 E0'
    rw [hps] at F1
    refine ⟨fun vs H Q E h => F1.len vs H Q _ h, fun A outer s H args us vs Q E hr' he hb' hv hs => ?_⟩
    refine codeAny_mono (F1.run A outer s H args us vs Q (fun _ _ _ => False) hr' he hb' hv hs) fun r s' hq => ?_
    cases r with
    | ok fl =>
      cases fl with
      | ret u => exact hq
      | next => exact hq
      | brk => exact hq
      | cont => exact hq
    | error e =>
      obtain ⟨_, _, _, _, _, _, _, _, _, _, _, _, z⟩ := hq
      exact z
end CH

/-! CH11: what the head tells (by names), brought to law_walk. -/
namespace CH
open PySem L2

/-- an __init__ takes nothing but self -/
def selfB (e : Entry) : Bool := match e.of_ with
  | none => true
  | some _ => if e.x = "__init__" then decide (e.ps.length = 1) && e.dfl.isEmpty else true
def scB (e : Entry) : Bool := decide ((defScope e.st).kind = .function) && !(defScope e.st).isCoroutine && !(defScope e.st).isGenerator && decide e.N.Nodup && decide (e.N.take e.ps.length = e.ps) &&
  e.ps.all (fun x => isLoc ((defScope e.st).names.lookup x)) && (defScope e.st).names.all (fun y => decide (y.2 ≠ .free))
theorem scB_ok {e : Entry} (h : scB e = true) : FnScope e.N e.ps (defScope e.st) := by
  unfold scB at h
  simp only [Bool.and_eq_true, decide_eq_true_eq, Bool.not_eq_true', List.all_eq_true] at h
  obtain ⟨⟨⟨⟨⟨⟨h1, h2⟩, h3⟩, h4⟩, h5⟩, h6⟩, h7⟩ := h
  refine ⟨h1, h2, h3, h4, h5, fun x hx => ?_, fun y hy => h7 y hy⟩
  have q := h6 x hx
  cases e1 : (defScope e.st).names.lookup x with
  | none => rw [e1] at q; cases q
  | some k =>
    rw [e1] at q
    cases k <;> first | cases q | skip
    · exact .inl rfl
    · exact .inr rfl
theorem drB_ok {K : PySem.W.Frag} : ∀ {n : Nat} {u : Value} {d : PyData}, drB K n u d = true → ∃ v, RelV v u ∧ ∀ G, DR K G v d
  | 0, _, _, h => by cases h
  | n + 1, u, d, h => by
    unfold drB at h
    split at h
    · exact ⟨.non, rfl, fun _ => .non⟩
    · rename_i b c
      have e : b = c := of_decide_eq_true h
      subst e
      exact ⟨.bl b, rfl, fun _ => .bl b⟩
    · rename_i i t j
      have e : i = j := of_decide_eq_true h
      subst e
      exact ⟨.int i, ⟨t, rfl⟩, fun _ => .int i⟩
    · rename_i x t y
      rw [Bool.and_eq_true] at h
      have e : x = y := of_decide_eq_true h.1
      subst e
      exact ⟨.str x, ⟨t, rfl⟩, fun _ => .str x h.2⟩
    · rename_i a ds
      split at h
      · rename_i c dd its m sl hk
        rw [Bool.and_eq_true, Bool.and_eq_true, Bool.and_eq_true] at h
        obtain ⟨h1, h2, h3, h4⟩ := h
        have e : c = "tuple" := of_decide_eq_true h1
        subst e
        have key : ∀ (us : List Value) (ds : List PyData), us.length = ds.length → ((us.zip ds).all fun p => drB K n p.1 p.2) = true → ∃ vs, Vals vs us ∧ ∀ G, DRs K G vs ds := by
          intro us
          induction us with
          | nil =>
            intro ds hl _
            cases ds with
            | nil => exact ⟨[], .nil, fun _ => .nil⟩
            | cons _ _ => cases hl
          | cons u us ih =>
            intro ds hl ha
            cases ds with
            | nil => cases hl
            | cons d ds =>
              rw [List.zip_cons_cons, List.all_cons, Bool.and_eq_true] at ha
              obtain ⟨v, r1, r2⟩ := drB_ok ha.1
              obtain ⟨vs, r3, r4⟩ := ih ds (by simpa using hl) ha.2
              exact ⟨v :: vs, .cons r1 r3, fun G => .cons (r2 G) (r4 G)⟩
        obtain ⟨vs, r1, r2⟩ := key its.toList ds (of_decide_eq_true h3) h4
        exact ⟨.ref a, rfl, fun G => .tup (.inr ⟨_, its, m, hk, rfl, rfl, of_decide_eq_true h2, r1⟩) (r2 G)⟩
      · cases h
    · cases h
theorem lookup_mem_of {α : Type} {x : Str} {d : α} : ∀ {l : List (Str × α)}, l.lookup x = some d → (x, d) ∈ l
  | [], h => by simp at h
  | (y, e) :: l, h => by
    rw [List.lookup_cons] at h
    cases q : x == y with
    | true =>
      rw [q] at h
      cases h
      have : x = y := by simpa using q
      subst this
      exact List.mem_cons_self
    | false =>
      rw [q] at h
      exact List.mem_cons_of_mem _ (lookup_mem_of h)
/-- how the arguments of a def come to its parameters -/
def BnOk (K : PySem.W.Frag) (e : Entry) : Prop := ∀ f fd kws, FunD K e.nm e.qn (defArgs e.st) (defBody e.st) (defScope e.st) (e.dfl.map fun d => (toDv d).v K) kws f fd →
  (∀ m, e.ps.length ≤ m + e.dfl.length → m ≤ e.ps.length → ∃ ds dvs, cVs (e.dfl.drop (m + e.dfl.length - e.ps.length)) = some dvs ∧ m + dvs.length = e.ps.length ∧ Vals dvs ds ∧ Binds K fd e.ps ds) ∧
  ∀ n q, e.kw = some (n, q) → KBn K fd e.ps n [q] (· ++ ·) (· ++ ·)
theorem bn0 {K : PySem.W.Frag} {e : Entry} (hd : e.dfl = []) (hk : e.kw = none) (h : ∀ f fd kws, FunD K e.nm e.qn (defArgs e.st) (defBody e.st) (defScope e.st) [] kws f fd → Binds K fd e.ps []) : BnOk K e := by
  intro f fd kws F
  refine ⟨fun m h1 h2 => ?_, fun n q z => by rw [hk] at z; cases z⟩
  rw [hd] at F h1 ⊢
  have hm : m = e.ps.length := by simp at h1; omega
  refine ⟨[], [], by simp [cVs], by simp [hm], .nil, h f fd kws F⟩
/-! ### the classes of exceptions -/
def claK (K : PySem.W.Frag) (cl : List (Str × Nat)) (n : Nat) : Option Addr := (cl.find? fun q => q.2 == n).map fun q => He.ga K q.1
theorem exkB_ok {K : PySem.W.Frag} {C : Addr} (h : exkB K C = true) : ExK K C := by
  unfold exkB at h
  simp only [Bool.and_eq_true] at h
  obtain ⟨h1, h2, h3, h4, h5, h6, h7, h8, h9⟩ := h
  exact ⟨h1, eqB_ok h2, eqB_ok h3, h4, h5, He.eqO_ok h6, He.eqO_ok h7, He.eqO_ok h8, eqB_ok h9⟩
theorem oexB_ok {K : PySem.W.Frag} {C : Addr} {f : Str} (E : ExK K C) (h : oexB K C f = true) : PySem.W.findIn K (.ref C) f = some none ∧ OexC K C := by
  unfold oexB at h
  rw [Bool.and_eq_true, Bool.and_eq_true] at h
  obtain ⟨h1, h2, h3⟩ := h
  refine ⟨He.eqO_ok h3, ?_, He.eqO_ok h2, E.sb, E.ty, E.kp⟩
  split at h1
  · rename_i t dd cd sl ho
    rw [Bool.and_eq_true, decide_eq_true_eq] at h1
    obtain ⟨rfl, h1⟩ := h1
    split at h1
    · rename_i C' bm k0 k1 k2 k3 n k5 hm hs
      simp only [Bool.and_eq_true, decide_eq_true_eq, Bool.not_eq_true'] at h1
      obtain ⟨rfl, rfl, hdel, hdict, hre⟩ := h1
      obtain ⟨nm, bs, mro, ns, qn, hd, sn, sb, ab, col, del⟩ := cd
      dsimp only at hm hdel hdict
      subst hm hdel hdict
      have hsl : sl = #[k0, k1, k2, k3, some (.builtin "ValueError.__new__"), k5] := by
        obtain ⟨l⟩ := sl
        simp only at hs
        rw [hs]
      subst hsl
      exact ⟨nm, qn, ns, bs, bm, sn, sb, ab, col, dd, k0, k1, k2, k3, k5, ho, hre⟩
    · cases h1
  · cases h1
theorem baseB_ok {K : PySem.W.Frag} {B : Addr} (h : baseB K B = true) : ClX.CRead K B (.type "type") ∧ PySem.W.findCls K (.ref B) (.type "type") "__init__" = some (.val (.builtin "ValueError.__init__")) := by
  unfold baseB at h
  rw [Bool.and_eq_true, Bool.and_eq_true] at h
  obtain ⟨h1, h2, h3⟩ := h
  refine ⟨⟨h1, He.eqO_ok h2⟩, ?_⟩
  split at h3
  · rename_i v e
    rw [e, of_decide_eq_true h3]
  · cases h3
theorem claK_mem {K : PySem.W.Frag} {cl : List (Str × Nat)} {n : Nat} {C : Addr} (h : claK K cl n = some C) : ∃ x, (x, n) ∈ cl ∧ C = He.ga K x := by
  unfold claK at h
  cases e : cl.find? fun q => q.2 == n with
  | none => rw [e] at h; cases h
  | some q =>
    rw [e] at h
    cases h
    have h1 := List.mem_of_find?_eq_some e
    have h2 := List.find?_some e
    have h2 : q.2 = n := by simpa using h2
    obtain ⟨x, m⟩ := q
    cases h2
    exact ⟨x, h1, rfl⟩
theorem clsB_kx {K : PySem.W.Frag} {cl : List (Str × Nat)} {ins : List Ini} (h : clsB cl ins K = true) : KxOk K (claK K cl) := by
  unfold clsB at h
  rw [Bool.and_eq_true, Bool.and_eq_true, Bool.and_eq_true] at h
  obtain ⟨h1, _, h3, h4⟩ := h
  have key : ∀ {x n}, (x, n) ∈ cl → ExK K (He.ga K x) ∧ ((match fldOf n with
    | none => PySem.W.excIn K (He.ga K x) He.veBase "ValueError.__new__"
    | some f => oexB K (He.ga K x) f) = true) ∧ PySem.W.kitOne K (.ref (He.ga K x)) (.type "ValueError") = some true ∧
      ∀ {y m}, (y, m) ∈ cl → PySem.W.exmOne K (.ref (He.ga K x)) (.ref (He.ga K y)) = some (subc n m) ∧ PySem.W.kitOne K (.ref (He.ga K x)) (.ref (He.ga K y)) = some (subc n m) := fun {x n} hm => by
    have q := List.all_eq_true.mp h1 (x, n) hm
    simp only [Bool.and_eq_true] at q
    obtain ⟨_, q2, q3, q4, q5⟩ := q
    refine ⟨exkB_ok q2, q3, eqB_ok q4, fun {y m} hy => ?_⟩
    have z := List.all_eq_true.mp q5 (y, m) hy
    simp only [Bool.and_eq_true] at z
    exact ⟨eqB_ok z.1, eqB_ok z.2⟩
  refine ⟨fun n C hC => ?_, fun n C f hC hf => ?_, fun n C hC hf => ?_, fun n C m D hC hD => ?_, fun n C hC => ?_, He.eqO_ok h3, eqB_ok h4⟩
  · obtain ⟨x, hx, rfl⟩ := claK_mem hC
    exact (key hx).1
  · obtain ⟨x, hx, rfl⟩ := claK_mem hC
    obtain ⟨k1, k2, _⟩ := key hx
    rw [hf] at k2
    exact oexB_ok k1 k2
  · obtain ⟨x, hx, rfl⟩ := claK_mem hC
    obtain ⟨k1, k2, _⟩ := key hx
    rw [hf] at k2
    exact k2
  · obtain ⟨x, hx, rfl⟩ := claK_mem hC
    obtain ⟨y, hy, rfl⟩ := claK_mem hD
    exact (key hx).2.2.2 hy
  · obtain ⟨x, hx, rfl⟩ := claK_mem hC
    exact (key hx).2.2.1
/-- the text of such an __init__ -/
def IniT (i : Ini) : Prop := ∃ (j : Nat) (m : Str) (q1 q2 q3 q4 q5 q6 q7 q8 q9 q10 : Pos),
  defBody i.st = [.Expr (.Call (.Attribute (.Name "CopyError" q1) "__init__" q2) [.Name "self" q3, .Constant (.str m) j q4] [] q5) q6, .Assign [.Attribute (.Name "self" q7) i.f q8] (.Name i.f q9) q10] ∧
  (∀ env : Env, ∃ pl : Sem Bool, eval (.Call (.Attribute (.Name "CopyError" q1) "__init__" q2) [.Name "self" q3, .Constant (.str m) j q4] [] q5) env = (do
      let bv ← eval (.Name "CopyError" q1) env
      standAt q2.atName
      let (fn, fst) ← holding [bv] (getMethod bv "__init__" pl)
      callWith q5 fn fst (backTo q5 (starEach [.Name "self" q3, .Constant (.str m) j q4] env)) (backToKw q5 (keywordEach [] env)))) ∧
  (∀ (kV doc pm : Value) (an : Option Addr) (cdv ct u0 u1 : Value), bindArgs (PySem.W.fnOf "__init__" i.q (defArgs i.st) (defBody i.st) (defScope i.st) .none kV doc pm an cdv ct) ⟨[u0, u1], []⟩ = pure [(("self" : Str), u0), (i.f, u1)])
def iniB (i : Ini) : Bool := scB ⟨"__init__", 0, ["self", i.f], ["self", i.f], [], i.st, none, none, [], [], "__init__", []⟩ && (decide (i.f ≠ "self") && (isVis ((defScope i.st).names.lookup ("self" : Str)) && (isVis ((defScope i.st).names.lookup i.f) && (decide ((defScope i.st).names.lookup ("CopyError" : Str) = some .globalImplicit) && (!dbg i.f && decide (fldOf i.n = some i.f))))))
theorem isVis_ok {sc : Scope} {x : Str} (h : isVis (sc.names.lookup x) = true) : Vis sc x := by
  cases e : sc.names.lookup x with
  | none => rw [e] at h; cases h
  | some k =>
    rw [e] at h
    cases k <;> first | cases h | skip
    · exact .inl e
    · exact .inr (.inl e)
    · exact .inr (.inr e)
theorem ini_facts {K : PySem.W.Frag} {cl : List (Str × Nat)} {ins : List Ini} {h : Heap} {mg : Str → Option Value} {fn : List He.DefD} {fa : List He.Fa} (X : K.In h) (G : h.Ns mainGlobals mg) (hc : clsB cl ins K = true) (cd : He.SaysD fa fn K) (hfn : ∀ i ∈ ins, ddI i ∈ fn)
    (hall : ∀ q ∈ cl, ∀ f, fldOf q.2 = some f → ∃ i ∈ ins, i.x = q.1 ∧ i.f = f) (hT : ∀ i ∈ ins, IniT i) (hB : ∀ i ∈ ins, iniB i = true) : ∀ n C f, claK K cl n = some C → fldOf n = some f → IniOk K mg C f := by
  intro n C f hC hf
  obtain ⟨x, hx, rfl⟩ := claK_mem hC
  obtain ⟨i, hi, rfl, rfl⟩ := hall (x, n) hx f hf
  have hkx := clsB_kx hc
  unfold clsB at hc
  rw [Bool.and_eq_true, Bool.and_eq_true, Bool.and_eq_true] at hc
  have hi2 := List.all_eq_true.mp hc.2.1 i hi
  rw [Bool.and_eq_true, Bool.and_eq_true] at hi2
  obtain ⟨m1, m2, m3⟩ := hi2
  have M := He.meth_ok m1
  have gB := He.glo_ok X G m2
  obtain ⟨rd, at_⟩ := baseB_ok m3
  obtain ⟨fd, F⟩ := cd.defs (hfn i hi)
  obtain ⟨j, m, q1, q2, q3, q4, q5, q6, q7, q8, q9, q10, t1, t2, t3⟩ := hT i hi
  have b := hB i hi
  unfold iniB at b
  simp only [Bool.and_eq_true, decide_eq_true_eq, Bool.not_eq_true'] at b
  obtain ⟨b1, b2, b3, b4, b5, b6, b7⟩ := b
  obtain ⟨d1, d2, _⟩ := dbg_no b6
  have F' : FunD K "__init__" i.q (defArgs i.st) (defBody i.st) (defScope i.st) [] [] (He.ma K (He.ga K i.x) "__init__") fd := F
  have ty : PySem.W.typeIn K (.ref (He.ma K (He.ga K i.x) "__init__")) = some (.type "function") := by
    have := M.fn
    unfold PySem.W.isFn at this
    exact beq_iff_eq.mp this
  refine ⟨_, fd, M.at_, ty, fun P w base => ?_, ?_⟩
  · exact ini_ok F' b2 t1 (scB_ok b1) (isVis_ok b3) (isVis_ok b4) b5 (by decide) ⟨d1, d2⟩ t2 gB rd at_
  · exact F'.bindsN (ps := ["self", i.f]) fun kV doc pm an cdv ct us hl => match us, hl with
      | [u0, u1], _ => t3 kV doc pm an cdv ct u0 u1
theorem head_facts {es : List Entry} {gc : List (Str × PyData)} {fr : List Str} {cl : List (Str × Nat)} {ins : List Ini} {K : PySem.W.Frag} {h : Heap} {mg : Str → Option Value} (cd : He.SaysD (faOf es fr) (es.map ddOf ++ ins.map ddI) K) (mo : exB gc cl ins es K = true) (X : K.In h) (G : h.Ns mainGlobals mg)
    (sc : ∀ e ∈ es, scB e = true) (slf : ∀ e ∈ es, selfB e = true) (bn : ∀ e ∈ es, BnOk K e) (hall : ∀ q ∈ cl, ∀ f, fldOf q.2 = some f → ∃ i ∈ ins, i.x = q.1 ∧ i.f = f) (hT : ∀ i ∈ ins, IniT i) (hB : ∀ i ∈ ins, iniB i = true) (hfi : ∀ q ∈ cl, cl.find? (fun r => r.2 == q.2) = some q) :
    (KxOk K (claK K cl) ∧ (∀ x n, cl.lookup x = some n → ∃ C, claK K cl n = some C ∧ mg x = some (.ref C)) ∧ ∀ n C f, claK K cl n = some C → fldOf n = some f → IniOk K mg C f) ∧
    (∀ e ∈ es, ∃ f fd, EntryOk K mg e f fd) ∧ (∀ x d, gc.lookup x = some d → ∃ v u, mg x = some u ∧ RelV v u ∧ ∀ G, DR K G v d) ∧ (∀ x, fr.contains x = true → mg x = none) := by
  unfold exB at mo
  rw [Bool.and_eq_true, Bool.and_eq_true] at mo
  obtain ⟨⟨mo1, mo2⟩, mo3⟩ := mo
  refine ⟨⟨clsB_kx mo2, fun x n hx => ?_, ini_facts X G mo2 cd (fun i hi => List.mem_append_right _ (List.mem_map.mpr ⟨i, hi, rfl⟩)) hall hT hB⟩, fun e he => ?_, fun x d hx => ?_, fun x hx => ?_⟩
  · have hm := lookup_mem_of hx
    refine ⟨He.ga K x, ?_, ?_⟩
    · unfold claK
      rw [hfi (x, n) hm]
      rfl
    · have q := id mo2
      unfold clsB at q
      rw [Bool.and_eq_true] at q
      have q := List.all_eq_true.mp q.1 (x, n) hm
      rw [Bool.and_eq_true] at q
      exact He.glo_ok X G q.1
  · obtain ⟨fd, F⟩ := cd.defs (d := ddOf e) (List.mem_append_left _ (List.mem_map.mpr ⟨e, he, rfl⟩))
    have q : (ddOf e).dvs K = e.dfl.map fun d => (toDv d).v K := by
      show (e.dfl.map toDv).map (He.Dv.v K) = _
      rw [List.map_map]
      rfl
    have fa : ∀ a ∈ faE e, a.ok K = true := fun a ha => cd.facts (List.mem_append_left _ (List.mem_flatMap.mpr ⟨e, he, ha⟩))
    have sl := slf e he
    cases ho : e.of_ with
    | none =>
      have fa1 : faE e = [.glo e.x] := by unfold faE; rw [ho]
      have g := He.glo_ok X G (x := e.x) (fa _ (by rw [fa1]; exact List.mem_cons_self))
      have F' : FunD K e.nm e.qn (defArgs e.st) (defBody e.st) (defScope e.st) (e.dfl.map fun d => (toDv d).v K) ((ddOf e).kws K) (He.fAd K (ddOf e).at_) fd := by
        rw [← q]
        exact F
      have ea : He.fAd K (ddOf e).at_ = He.ga K e.x := by
        show He.fAd K (match e.of_ with | none => (e.x, none) | some (c, _) => (c, some e.x)) = _
        rw [ho]
        rfl
      rw [ea] at F'
      exact ⟨He.ga K e.x, fd, ⟨⟨_, _, F', fun z => by rw [z]; rfl⟩, fun c q z => (by rw [ho] at z; cases z), fun _ => g, scB_ok (sc e he), (bn e he _ fd _ F').1, (bn e he _ fd _ F').2⟩⟩
    | some cq =>
      obtain ⟨c, qn⟩ := cq
      have fa1 : faE e = [.glo c, .cls c, .meth c e.x] ++ ((if e.x = "__init__" then [.mkr c] else []) ++ e.flds.map (.noat c)) := by unfold faE; rw [ho]
      have g := He.glo_ok X G (x := c) (fa _ (by rw [fa1]; simp))
      have k1 := He.cls_ok (x := c) (fa _ (by rw [fa1]; simp))
      have k2 := He.meth_ok (x := c) (m := e.x) (fa _ (by rw [fa1]; simp))
      have F' : FunD K e.nm e.qn (defArgs e.st) (defBody e.st) (defScope e.st) (e.dfl.map fun d => (toDv d).v K) ((ddOf e).kws K) (He.fAd K (ddOf e).at_) fd := by
        rw [← q]
        exact F
      have ea : He.fAd K (ddOf e).at_ = He.ma K (He.ga K c) e.x := by
        show He.fAd K (match e.of_ with | none => (e.x, none) | some (c, _) => (c, some e.x)) = _
        rw [ho]
        rfl
      rw [ea] at F'
      refine ⟨He.ma K (He.ga K c) e.x, fd, ⟨⟨_, _, F', fun z => by rw [z]; rfl⟩, fun c' q' z => ?_, fun z => (by rw [ho] at z; cases z), scB_ok (sc e he), (bn e he _ fd _ F').1, (bn e he _ fd _ F').2⟩⟩
      rw [ho] at z
      cases z
      refine ⟨g, k1, k2, fun hi => ?_, fun f hf => He.noat_ok (fa _ (by rw [fa1]; simp [hf]))⟩
      unfold selfB at sl
      rw [ho] at sl
      simp only [hi, if_true, Bool.and_eq_true, decide_eq_true_eq, List.isEmpty_iff] at sl
      have iso : IsoOk K (He.ga K c) := by
        have z := List.all_eq_true.mp mo3 e he
        unfold isoE at z
        rw [ho] at z
        simp only [hi, if_true] at z
        unfold isoB at z
        rw [Bool.and_eq_true, Bool.and_eq_true, Bool.and_eq_true] at z
        exact ⟨z.1, eqB_ok z.2.1, He.eqO_ok z.2.2.1, eqB_ok z.2.2.2⟩
      refine ⟨?_, sl.1, sl.2, iso⟩
      have := He.mkr_ok (x := c) (fa _ (by rw [fa1, if_pos hi]; simp))
      rw [hi]
      exact this
  · have m := mo1
    unfold gcB at m
    have q := List.all_eq_true.mp m (x, d) (lookup_mem_of hx)
    simp only at q
    cases e1 : PySem.W.nsIn K mainGlobals x with
    | none => rw [e1] at q; cases q
    | some o =>
      cases o with
      | none => rw [e1] at q; cases q
      | some u =>
        rw [e1] at q
        obtain ⟨v, r1, r2⟩ := drB_ok q
        exact ⟨v, u, PySem.W.mg_of X G e1, r1, r2⟩
  · have hx : x ∈ fr := by simpa using hx
    exact He.free_ok X G (cd.facts (List.mem_append_right _ (List.mem_map.mpr ⟨x, hx, rfl⟩)))
/-- the law's def takes its script -/
theorem law_binds {K : PySem.W.Frag} {mg : Str → Option Value} {e : Entry} {f : Addr} {fd : FuncData} (E : EntryOk K mg e f fd) (hd : e.dfl = []) (hps : e.ps = [("script" : Str)])
    (h : ∀ (kV doc pm : Value) (an : Option Addr) (cdv ct : Value) (u : Value) (kws : List (Str × V)), bindArgs (PySem.W.fnOf e.nm e.qn (defArgs e.st) (defBody e.st) (defScope e.st) .none kV doc pm an cdv ct) ⟨[u], []⟩ = pure [(("script" : Str), u)]) (s : Shared) (u : Value) : BindsTo s fd ⟨[u], []⟩ [(("script" : Str), u)] := by
  obtain ⟨dvs, kws, F, hv⟩ := E.fn
  have := hv hd
  subst this
  exact FunD.bindsA (ps := [("script" : Str)]) F (fun kV doc pm an cdv ct us hl => match us, hl with | [u], _ => h kV doc pm an cdv ct u kws) s [u] rfl
end CH

/-! CH12: how a reckoning goes on, as rules for simp. -/
namespace CH
open PySem L2
abbrev oNot : Cs → Val → Option Val := fun _ v => bV ((vTru v).map (!·))
abbrev oCmp (op : CmpOp) : Cs → Val → Val → Option Val := fun cs x y => bV (vCmp cs op x y)
abbrev oIsa (ty : Ty) : Cs → Val → Option Val := fun _ v => bV (isa ty v)
@[simp] theorem x_oNot (cs : Cs) (v : Val) : oNot cs v = bV ((vTru v).map (!·)) := rfl
@[simp] theorem x_oCmp (op : CmpOp) (cs : Cs) (a b : Val) : oCmp op cs a b = bV (vCmp cs op a b) := rfl
@[simp] theorem x_oIsa (ty : Ty) (cs : Cs) (v : Val) : oIsa ty cs v = bV (isa ty v) := rfl
section
variable (cs : Cs) (s : S)
@[simp] theorem x_no {α : Type} : (mNo : M α) cs s = .no := rfl
@[simp] theorem x_con (d : PyData) : mCon d cs s = .ok (.dat d) s := rfl
@[simp] theorem x_var (i : Nat) : mVar i cs s = (match s.at_ i with
  | some (.own xs) => .ok (.dat (.list xs)) (s.put i (some (.dat (.list xs))))
  | some v => .ok v s
  | none => .no) := rfl
@[simp] theorem x_args_nil : mArgs [] cs s = .ok [] s := rfl
@[simp] theorem x_args_cons (f : M Val) (fs : List (M Val)) : mArgs (f :: fs) cs s = (f cs s).bnd fun v s1 => (mArgs fs cs s1).bnd fun vs s2 => .ok (frz v :: vs) s2 := rfl
@[simp] theorem x_tup (es : List (M Val)) : mTup es cs s = (mArgs es cs s).bnd fun vs s1 => match toDs vs with
  | some ds => .ok (.dat (.tuple ds)) s1
  | none => .no := rfl
@[simp] theorem x_lst (es : List (M Val)) : mLst es cs s = (mArgs es cs s).bnd fun vs s1 => match toDs vs with
  | some ds => .ok (.own ds) s1
  | none => .no := rfl
@[simp] theorem x_ev1_ev {β : Type} (f : M Val) (k : Val → S → R β) : ev1 (.ev f) k cs s = (f cs s).bnd fun x s1 => k (see s1.ob (frz x)) s1 := rfl
@[simp] theorem x_ev1_pk {β : Type} (i : Nat) (k : Val → S → R β) : ev1 (.pk i) k cs s = (match s.at_ i with
  | some x => k (see s.ob x) s
  | none => .no) := rfl
@[simp] theorem x_ev2_ev {β : Type} (f : M Val) (b : Opd) (k : Val → Val → S → R β) : ev2 (.ev f) b k cs s = (f cs s).bnd fun x s1 => ev1 b (fun y s2 => k (see s2.ob (frz x)) y s2) cs s1 := rfl
@[simp] theorem x_ev2_pk {β : Type} (i : Nat) (b : Opd) (k : Val → Val → S → R β) : ev2 (.pk i) b k cs s = (match s.at_ i with
  | some _ => ev1 b (fun y s2 => match s2.at_ i with
    | some x => k (see s2.ob x) y s2
    | none => .no) cs s
  | none => .no) := rfl
@[simp] theorem x_see_dat (ob : List Ob) (d : PyData) : see ob (.dat d) = .dat d := rfl
@[simp] theorem x_see_own (ob : List Ob) (d : List PyData) : see ob (.own d) = .own d := rfl
@[simp] theorem x_see_scr (ob : List Ob) (d : List Int) : see ob (.scr d) = .scr d := rfl
@[simp] theorem x_see_exn (ob : List Ob) (d : Exn) : see ob (.exn d) = .exn d := rfl
@[simp] theorem x_giv (v : Val) : giv s (some v) = .ok v s := rfl
@[simp] theorem x_giv0 : giv s none = .no := rfl
@[simp] theorem x_givI (v : List PyData) : givI s (some v) = .ok v s := rfl
@[simp] theorem x_givI0 : givI s none = .no := rfl
@[simp] theorem x_un (op : Cs → Val → Option Val) (a : Opd) : mUn op a cs s = ev1 a (fun x s1 => giv s1 (op cs x)) cs s := rfl
@[simp] theorem x_bin (op : Cs → Val → Val → Option Val) (a b : Opd) : mBin op a b cs s = ev2 a b (fun x y s1 => giv s1 (op cs x y)) cs s := rfl
@[simp] theorem x_and (f g : M Val) : mAnd f g cs s = (f cs s).bnd fun v s1 => match vTru v with
  | some true => g cs s1
  | some false => .ok v s1
  | none => .no := rfl
@[simp] theorem x_or (f g : M Val) : mOr f g cs s = (f cs s).bnd fun v s1 => match vTru v with
  | some true => .ok v s1
  | some false => g cs s1
  | none => .no := rfl
@[simp] theorem x_if (t : M Bool) (f g : M Val) : mIf t f g cs s = (t cs s).bnd fun b s1 => if b then f cs s1 else g cs s1 := rfl
@[simp] theorem x_bTru (a : Opd) : bTru a cs s = ev1 a (fun v s1 => match vTru v with
  | some b => .ok b s1
  | none => .no) cs s := rfl
@[simp] theorem x_bVal (f : M Val) : bVal f cs s = (f cs s).bnd fun v s1 => match v with
  | .dat (.bool b) => .ok b s1
  | _ => .no := rfl
@[simp] theorem x_bAnd (f g : M Bool) : bAnd f g cs s = (f cs s).bnd fun b s1 => if b then g cs s1 else .ok false s1 := rfl
@[simp] theorem x_bOr (f g : M Bool) : bOr f g cs s = (f cs s).bnd fun b s1 => if b then .ok true s1 else g cs s1 := rfl
@[simp] theorem x_bNot (f : M Bool) : bNot f cs s = (f cs s).bnd fun b s1 => .ok (!b) s1 := rfl
@[simp] theorem x_chain (o o' : CmpOp) (a b c : Opd) : mChain o o' a b c cs s = ev2 a b (fun x y s1 => match vCmp cs o x y with
  | some true => (match y with
    | .own _ => .no
    | _ => ev1 c (fun z s2 => giv s2 (bV (vCmp cs o' y z))) cs s1)
  | some false => .ok (.dat (.bool false)) s1
  | none => .no) cs s := rfl
@[simp] theorem x_evO_none {β : Type} (k : Option Int → S → R β) : evO none k cs s = k none s := rfl
@[simp] theorem x_evO_some {β : Type} (f : M Val) (k : Option Int → S → R β) : evO (some f) k cs s = (f cs s).bnd fun v s1 => match v with
  | .dat (.int i) => k (some i) s1
  | _ => .no := rfl
@[simp] theorem x_sl_ev (f : M Val) (lo hi : Option (M Val)) : mSl (.ev f) lo hi cs s = (f cs s).bnd fun x s1 => evO lo (fun l s2 => evO hi (fun h s3 => giv s3 (vSl (frz x) l h)) cs s2) cs s1 := rfl
@[simp] theorem x_sl_pk (i : Nat) (lo hi : Option (M Val)) : mSl (.pk i) lo hi cs s = (match s.at_ i with
  | some _ => evO lo (fun l s2 => evO hi (fun h s3 => match s3.at_ i with
    | some x => giv s3 (vSl x l h)
    | none => .no) cs s2) cs s
  | none => .no) := rfl
@[simp] theorem x_call (id : Nat) (es : List (M Val)) (dfl : List PyData) : mCall id es dfl cs s = (mArgs es cs s).bnd fun vs s1 => match cs.run id (vs ++ dfl.map .dat) s1.ob with
  | .ok v ob => .ok v { s1 with ob := ob }
  | .ex e ob => .ex e { s1 with ob := ob }
  | .no => .no := rfl
@[simp] theorem x_comp (src : Src) (tg : Tg) (own : List Nat) (t : Option (M Bool)) (elt : M Val) : mComp src tg own t elt cs s = (itemsOf src cs s).bnd fun items s1 =>
  if s1.calm own = true ∧ (tgSlots tg).all (fun i => own.contains i) = true then match compLoop tg own t elt cs items [] (s1.wipe own) with
    | .ok acc s2 => .ok (.own acc) (s2.back s1 own)
    | _ => .no
  else .no := rfl
@[simp] theorem x_i_seq (f : M Val) : itemsOf (.seq f) cs s = (mArgs [f] cs s).bnd fun vs s1 => givI s1 (match vs with | [v] => seqOf v | _ => none) := rfl
@[simp] theorem x_i_range1 (f : M Val) : itemsOf (.range1 f) cs s = (mArgs [f] cs s).bnd fun vs s1 => givI s1 (match vs with | [.dat (.int j)] => if small62 j then some (nums 0 j.toNat) else none | _ => none) := rfl
@[simp] theorem x_i_range2 (f g : M Val) : itemsOf (.range2 f g) cs s = (mArgs [f, g] cs s).bnd fun vs s1 => givI s1 (match vs with | [.dat (.int i), .dat (.int j)] => if small62 i && small62 j then some (nums i (j - i).toNat) else none | _ => none) := rfl
@[simp] theorem x_i_range3 (f g h : M Val) : itemsOf (.range3 f g h) cs s = (mArgs [f, g, h] cs s).bnd fun vs s1 => givI s1 (match vs with | [.dat (.int i), .dat (.int j), .dat (.int c)] => if decide (c = -1) && (small62 i && small62 j) then some (downs i (i - j).toNat) else none | _ => none) := rfl
@[simp] theorem x_i_enum (f : M Val) : itemsOf (.enum f) cs s = (mArgs [f] cs s).bnd fun vs s1 => givI s1 (match vs with | [v] => (lstOf v).map pairs | _ => none) := rfl
@[simp] theorem x_i_rev (f : M Val) : itemsOf (.rev f) cs s = (mArgs [f] cs s).bnd fun vs s1 => givI s1 (match vs with | [v] => (lstOf v).map List.reverse | _ => none) := rfl
@[simp] theorem x_pass : sPass cs s = .ok .nx s := rfl
@[simp] theorem x_break : sBreak cs s = .ok .bk s := rfl
@[simp] theorem x_cont : sCont cs s = .ok .ct s := rfl
@[simp] theorem x_sNo : sNo cs s = .no := rfl
@[simp] theorem x_seq (f g : M Fl) : sSeq f g cs s = (f cs s).bnd fun x s1 => match x with
  | .nx => g cs s1
  | y => .ok y s1 := rfl
@[simp] theorem x_sIf (t : M Bool) (f g : M Fl) : sIf t f g cs s = (t cs s).bnd fun b s1 => if b then f cs s1 else g cs s1 := rfl
@[simp] theorem x_ret (f : M Val) : sRet f cs s = (f cs s).bnd fun v s1 => .ok (.rt v) s1 := rfl
@[simp] theorem x_retN : sRetN cs s = .ok (.rt (.dat .none)) s := rfl
@[simp] theorem x_expr (f : M Val) : sExpr f cs s = (f cs s).bnd fun _ s1 => .ok .nx s1 := rfl
@[simp] theorem x_asg (i : Nat) (f : M Val) : sAsg i f cs s = (f cs s).bnd fun v s1 => .ok .nx (s1.put i (some v)) := rfl
@[simp] theorem x_tgt (t : Tg) (f : M Val) : sTgt t f cs s = (f cs s).bnd fun v s1 => match frz v with
  | .dat d => (match tgPut t d s1 with
    | some s2 => .ok .nx s2
    | none => .no)
  | _ => .no := rfl
@[simp] theorem x_par2 (i j : Nat) (es : List (M Val)) : sPar2 i j es cs s = (mArgs es cs s).bnd fun vs s1 => match vs with
  | [v, w] => .ok .nx ((s1.put i (some v)).put j (some w))
  | _ => .no := rfl
@[simp] theorem x_par3 (i j l : Nat) (es : List (M Val)) : sPar3 i j l es cs s = (mArgs es cs s).bnd fun vs s1 => match vs with
  | [v, w, u] => .ok .nx (((s1.put i (some v)).put j (some w)).put l (some u))
  | _ => .no := rfl
@[simp] theorem x_own (i : Nat) (k : List PyData → List Val → Option (List PyData)) (fs : List (M Val)) : sOwn i k fs cs s = (match s.at_ i with
  | some (.own _) => (mArgs fs cs s).bnd fun vs s1 => (match s1.at_ i with
    | some (.own xs) => (match k xs vs with
      | some ys => R.ok Fl.nx (s1.put i (some (.own ys)))
      | none => .no)
    | _ => .no)
  | _ => .no) := rfl
@[simp] theorem x_aug (i : Nat) (f : M Val) : sAug i f cs s = (match s.at_ i with
  | some (.dat (.int a)) => (f cs s).bnd fun v s1 => match v with
    | .dat (.int b) => .ok .nx (s1.put i (some (.dat (.int (a + b)))))
    | _ => .no
  | _ => .no) := rfl
@[simp] theorem x_for (src : Src) (tg : Tg) (body : M Fl) : sFor src tg body cs s = (itemsOf src cs s).bnd fun items s1 => forLoop tg body cs items s1 := rfl
@[simp] theorem x_for_nil (tg : Tg) (body : M Fl) : forLoop tg body cs [] s = .ok .nx s := rfl
theorem x_for_cons (tg : Tg) (body : M Fl) (d : PyData) (ds : List PyData) : forLoop tg body cs (d :: ds) s = (match tgPut tg d s with
    | none => .no
    | some s1 => (body cs s1).bnd fun x s2 => match x with
      | .nx => forLoop tg body cs ds s2
      | .ct => forLoop tg body cs ds s2
      | .bk => .ok .nx s2
      | .rt v => .ok (.rt v) s2) := rfl
@[simp] theorem x_raise (id : Nat) : sRaise id cs s = .ex ⟨id, none⟩ s := rfl
@[simp] theorem x_raiseF (id : Nat) (f : Str) (a : M Val) : sRaiseF id f a cs s = if 2 ≤ cs.lv then (mArgs [a] cs s).bnd fun vs s1 => (match vs with
  | [.dat d] => .ex ⟨id, some (f, d)⟩ s1
  | _ => .no) else .no := rfl
@[simp] theorem x_try (body : M Fl) (cl : List (Nat × Option Nat × M Fl)) : sTry body cl cs s = match body cs s with
  | .ex e s1 => runCl cl cs e s1
  | r => r := rfl
@[simp] theorem x_cl_nil (e : Exn) : runCl [] cs e s = .ex e s := rfl
@[simp] theorem x_cl_none (c : Nat) (f : M Fl) (r : List (Nat × Option Nat × M Fl)) (e : Exn) : runCl ((c, none, f) :: r) cs e s = if subc e.cls c then noX (f { cs with xn := some e } s) else runCl r cs e s := rfl
@[simp] theorem x_cl_some (c i : Nat) (f : M Fl) (r : List (Nat × Option Nat × M Fl)) (e : Exn) : runCl ((c, some i, f) :: r) cs e s = if subc e.cls c then (if i < s.sl.length then offR i (f { cs with xn := some e } (s.put i none)) else .no) else runCl r cs e s := rfl
@[simp] theorem x_noX (x : Fl) : noX (.ok x s) = .ok x s := rfl
@[simp] theorem x_offR (i : Nat) (x : Fl) : offR i (.ok x s) = .ok x (s.put i none) := rfl
@[simp] theorem x_isE (i : Nat) (k : Option Nat) : mIsE i k cs s = (match s.at_ i, cs.xn with
  | none, some e => .ok (.dat (.bool (match k with
    | some c => subc e.cls c
    | none => true))) s
  | _, _ => .no) := rfl
@[simp] theorem x_fldE (i : Nat) (f : Str) : mFldE i f cs s = (match s.at_ i, cs.xn with
  | none, some ⟨c, some (g, d)⟩ => if f = g ∧ fldOf c = some f then .ok (.dat d) s else .no
  | _, _ => .no) := rfl
@[simp] theorem x_while (t : M Bool) (body : M Fl) : sWhile t body cs s = whileLoop t body cs wFuel s := rfl
theorem x_while_succ (t : M Bool) (body : M Fl) (n : Nat) : whileLoop t body cs (n + 1) s = (t cs s).bnd fun b s1 => if b then (body cs s1).bnd fun x s2 => (match x with
      | .nx => whileLoop t body cs n s2
      | .ct => whileLoop t body cs n s2
      | .bk => .ok .nx s2
      | .rt v => .ok (.rt v) s2) else .ok .nx s1 := rfl
@[simp] theorem x_cloop_nil (tg : Tg) (own : List Nat) (t : Option (M Bool)) (elt : M Val) (acc : List PyData) : compLoop tg own t elt cs [] acc s = .ok acc s := rfl
theorem x_cloop_cons (tg : Tg) (own : List Nat) (t : Option (M Bool)) (elt : M Val) (d : PyData) (ds acc : List PyData) : compLoop tg own t elt cs (d :: ds) acc s = (match tgPut tg d s with
    | none => .no
    | some s1 => match (match t with
        | none => R.ok true s1
        | some f => f cs s1) with
      | .ok true s2 => (match elt cs s2 with
        | .ok v s3 => (match toD v with
          | some y => if acc.length < big then compLoop tg own t elt cs ds (acc ++ [y]) (s3.wipe own) else .no
          | none => .no)
        | _ => .no)
      | .ok false s2 => compLoop tg own t elt cs ds acc (s2.wipe own)
      | _ => .no) := rfl
end
@[simp] theorem x_frz_dat (d : PyData) : frz (.dat d) = .dat d := rfl
@[simp] theorem x_frz_own (xs : List PyData) : frz (.own xs) = .dat (.list xs) := rfl
@[simp] theorem x_frz_scr (xs : List Int) : frz (.scr xs) = .scr xs := rfl
@[simp] theorem x_toDs_nil : toDs [] = some [] := rfl
@[simp] theorem x_toDs_cons (d : PyData) (vs : List Val) : toDs (.dat d :: vs) = (toDs vs).map (d :: ·) := rfl
@[simp] theorem x_toD_dat (d : PyData) : toD (.dat d) = some d := rfl
@[simp] theorem x_toD_own (xs : List PyData) : toD (.own xs) = some (.list xs) := rfl
@[simp] theorem x_asL_own (xs : List PyData) : asL (.own xs) = some xs := rfl
@[simp] theorem x_asL_list (xs : List PyData) : asL (.dat (.list xs)) = some xs := rfl
@[simp] theorem x_bV (b : Bool) : bV (some b) = some (.dat (.bool b)) := rfl
@[simp] theorem x_bV0 : bV none = none := rfl
@[simp] theorem x_at0 (o : Option Val) (l : List (Option Val)) (ob : List Ob) : (⟨o :: l, ob⟩ : S).at_ 0 = o := rfl
@[simp] theorem x_at1 (o : Option Val) (l : List (Option Val)) (ob : List Ob) (n : Nat) : (⟨o :: l, ob⟩ : S).at_ (n + 1) = (⟨l, ob⟩ : S).at_ n := by
  unfold S.at_
  simp
@[simp] theorem x_put (l : List (Option Val)) (ob : List Ob) (i : Nat) (o : Option Val) : (⟨l, ob⟩ : S).put i o = ⟨l.set i o, ob⟩ := rfl
@[simp] theorem x_wipe_nil (s : S) : s.wipe [] = s := rfl
@[simp] theorem x_wipe_cons (s : S) (i : Nat) (l : List Nat) : s.wipe (i :: l) = (s.wipe l).put i none := rfl
@[simp] theorem x_back_nil (s s0 : S) : s.back s0 [] = s := rfl
@[simp] theorem x_back_cons (s s0 : S) (i : Nat) (l : List Nat) : s.back s0 (i :: l) = (s.back s0 l).put i (s0.at_ i) := rfl
@[simp] theorem x_calm_nil (s : S) : s.calm [] = true := rfl
@[simp] theorem x_calm_cons (s : S) (i : Nat) (l : List Nat) : s.calm (i :: l) = ((match s.at_ i with
  | some (.own _) => false
  | _ => true) && s.calm l) := rfl
@[simp] theorem x_tgSlots_nm (i : Nat) : tgSlots (.nm i) = [i] := by unfold tgSlots; rfl
@[simp] theorem x_tgPut_nm (i : Nat) (d : PyData) (s : S) : tgPut (.nm i) d s = some (s.put i (some (.dat d))) := by unfold tgPut; rfl
@[simp] theorem x_tgPut_tup (ts : List Tg) (ds : List PyData) (s : S) : tgPut (.tup ts) (.tuple ds) s = tgPuts ts ds s := by unfold tgPut; rfl
@[simp] theorem x_tgPuts_nil (s : S) : tgPuts [] [] s = some s := by unfold tgPuts; rfl
@[simp] theorem x_tgPuts_cons (t : Tg) (ts : List Tg) (d : PyData) (ds : List PyData) (s : S) : tgPuts (t :: ts) (d :: ds) s = (tgPut t d s).bind fun s' => tgPuts ts ds s' := by
  show tgPuts (t :: ts) (d :: ds) s = _
  conv => lhs; unfold tgPuts
@[simp] theorem x_vBin_add (a b : Val) : vBin .Add a b = vAdd a b := rfl
@[simp] theorem x_vBin_sub (a b : Val) : vBin .Sub a b = vSub a b := rfl
@[simp] theorem x_vBin_mul (a b : Val) : vBin .Mult a b = vMul a b := rfl
@[simp] theorem x_vBin_div (a b : Val) : vBin .FloorDiv a b = vDiv a b := rfl
@[simp] theorem x_vBin_mod (a b : Val) : vBin .Mod a b = vMod a b := rfl
@[simp] theorem x_vBin_pow (a b : Val) : vBin .Pow a b = vPow a b := rfl
@[simp] theorem x_add_int (i j : Int) : vAdd (.dat (.int i)) (.dat (.int j)) = some (.dat (.int (i + j))) := rfl
@[simp] theorem x_add_tup (xs ys : List PyData) : vAdd (.dat (.tuple xs)) (.dat (.tuple ys)) = if xs.length + ys.length ≤ big then some (.dat (.tuple (xs ++ ys))) else none := rfl
@[simp] theorem x_add_str (x y : Str) : vAdd (.dat (.str x)) (.dat (.str y)) = if x.length + y.length ≤ big then some (.dat (.str (x ++ y))) else none := rfl
@[simp] theorem x_add_ol (xs ys : List PyData) : vAdd (.own xs) (.dat (.list ys)) = if xs.length + ys.length ≤ big then some (.own (xs ++ ys)) else none := rfl
@[simp] theorem x_add_ll (xs ys : List PyData) : vAdd (.dat (.list xs)) (.dat (.list ys)) = if xs.length + ys.length ≤ big then some (.own (xs ++ ys)) else none := rfl
@[simp] theorem x_add_lo (xs ys : List PyData) : vAdd (.dat (.list xs)) (.own ys) = if xs.length + ys.length ≤ big then some (.own (xs ++ ys)) else none := rfl
@[simp] theorem x_add_oo (xs ys : List PyData) : vAdd (.own xs) (.own ys) = if xs.length + ys.length ≤ big then some (.own (xs ++ ys)) else none := rfl
@[simp] theorem x_sub_int (i j : Int) : vSub (.dat (.int i)) (.dat (.int j)) = some (.dat (.int (i - j))) := rfl
@[simp] theorem x_mul_int (i j : Int) : vMul (.dat (.int i)) (.dat (.int j)) = if i.natAbs < 18446744073709551616 ∨ j.natAbs < 18446744073709551616 then some (.dat (.int (i * j))) else none := rfl
@[simp] theorem x_mul_str (x : Str) (j : Int) : vMul (.dat (.str x)) (.dat (.int j)) = if 0 ≤ j ∧ j ≤ 1000 ∧ x.length ≤ 1000 then some (.dat (.str (rep j.toNat x))) else none := rfl
@[simp] theorem x_mul_list (xs : List PyData) (j : Int) : vMul (.dat (.list xs)) (.dat (.int j)) = if 0 ≤ j ∧ j ≤ 1000 ∧ xs.length ≤ 1000 then some (.own (List.replicate j.toNat xs).flatten) else none := rfl
@[simp] theorem x_div_int (i j : Int) : vDiv (.dat (.int i)) (.dat (.int j)) = if 0 < j ∧ j < 1073741824 then some (.dat (.int (i / j))) else none := rfl
@[simp] theorem x_mod_int (i j : Int) : vMod (.dat (.int i)) (.dat (.int j)) = if 0 < j then some (.dat (.int (i % j))) else none := rfl
@[simp] theorem x_pow_int (i j : Int) : vPow (.dat (.int i)) (.dat (.int j)) = if 0 ≤ j ∧ j ≤ 1000000 ∧ i.natAbs < 2 ^ 64 then some (.dat (.int (i ^ j.toNat))) else none := rfl
@[simp] theorem x_neg_int (i : Int) : vNeg (.dat (.int i)) = some (.dat (.int (-i))) := rfl
@[simp] theorem x_len_tup (ds : List PyData) : vLen (.dat (.tuple ds)) = some (.dat (.int ds.length)) := rfl
@[simp] theorem x_len_own (ds : List PyData) : vLen (.own ds) = some (.dat (.int ds.length)) := rfl
@[simp] theorem x_len_list (ds : List PyData) : vLen (.dat (.list ds)) = some (.dat (.int ds.length)) := rfl
@[simp] theorem x_len_scr (ns : List Int) : vLen (.scr ns) = some (.dat (.int ns.length)) := rfl
@[simp] theorem x_len_str (z : Str) : vLen (.dat (.str z)) = if z.length ≤ big then some (.dat (.int z.length)) else none := rfl
@[simp] theorem x_tru_none : vTru (.dat .none) = some false := rfl
@[simp] theorem x_tru_bool (b : Bool) : vTru (.dat (.bool b)) = some b := rfl
@[simp] theorem x_tru_int (i : Int) : vTru (.dat (.int i)) = some (i != 0) := rfl
@[simp] theorem x_tru_str (z : Str) : vTru (.dat (.str z)) = if z.length ≤ big then some ((z.length : Int) != 0) else none := rfl
@[simp] theorem x_tru_tup (ds : List PyData) : vTru (.dat (.tuple ds)) = some (!ds.isEmpty) := rfl
@[simp] theorem x_tru_list (ds : List PyData) : vTru (.dat (.list ds)) = some (!ds.isEmpty) := rfl
@[simp] theorem x_tru_own (ds : List PyData) : vTru (.own ds) = some (!ds.isEmpty) := rfl
@[simp] theorem x_idx_tup (ds : List PyData) (i : Int) : vIdx (.dat (.tuple ds)) (.dat (.int i)) = (atI ds i).map .dat := rfl
@[simp] theorem x_idx_list (ds : List PyData) (i : Int) : vIdx (.dat (.list ds)) (.dat (.int i)) = (atI ds i).map .dat := rfl
@[simp] theorem x_idx_own (ds : List PyData) (i : Int) : vIdx (.own ds) (.dat (.int i)) = (atI ds i).map .dat := rfl
@[simp] theorem x_idx_scr (ns : List Int) (i : Int) : vIdx (.scr ns) (.dat (.int i)) = (atI ns i).map fun n => .dat (.int n) := rfl
@[simp] theorem x_idx_str (z : Str) (i : Int) : vIdx (.dat (.str z)) (.dat (.int i)) = if z.length ≤ big then (atI z.cps.toList i).map fun c => .dat (.str ⟨#[c]⟩) else none := rfl
@[simp] theorem x_atI0 {α : Type} (a : α) (l : List α) : atI (a :: l) 0 = some a := by
  have := atI_nat (xs := a :: l) (j := 0) (v := a) rfl
  simpa using this
@[simp] theorem x_atI1 {α : Type} (a b : α) (l : List α) : atI (a :: b :: l) 1 = some b := by
  have := atI_nat (xs := a :: b :: l) (j := 1) (v := b) rfl
  simpa using this
@[simp] theorem x_atI2 {α : Type} (a b c : α) (l : List α) : atI (a :: b :: c :: l) 2 = some c := by
  have := atI_nat (xs := a :: b :: c :: l) (j := 2) (v := c) rfl
  simpa using this
@[simp] theorem x_atI3 {α : Type} (a0 a1 a2 a3 : α) (l : List α) : atI (a0 :: a1 :: a2 :: a3 :: l) 3 = some a3 := by
  have := atI_nat (xs := a0 :: a1 :: a2 :: a3 :: l) (j := 3) (v := a3) rfl
  simpa using this
@[simp] theorem x_atI4 {α : Type} (a0 a1 a2 a3 a4 : α) (l : List α) : atI (a0 :: a1 :: a2 :: a3 :: a4 :: l) 4 = some a4 := by
  have := atI_nat (xs := a0 :: a1 :: a2 :: a3 :: a4 :: l) (j := 4) (v := a4) rfl
  simpa using this
@[simp] theorem x_atI5 {α : Type} (a0 a1 a2 a3 a4 a5 : α) (l : List α) : atI (a0 :: a1 :: a2 :: a3 :: a4 :: a5 :: l) 5 = some a5 := by
  have := atI_nat (xs := a0 :: a1 :: a2 :: a3 :: a4 :: a5 :: l) (j := 5) (v := a5) rfl
  simpa using this
@[simp] theorem x_atI6 {α : Type} (a0 a1 a2 a3 a4 a5 a6 : α) (l : List α) : atI (a0 :: a1 :: a2 :: a3 :: a4 :: a5 :: a6 :: l) 6 = some a6 := by
  have := atI_nat (xs := a0 :: a1 :: a2 :: a3 :: a4 :: a5 :: a6 :: l) (j := 6) (v := a6) rfl
  simpa using this
@[simp] theorem x_atI7 {α : Type} (a0 a1 a2 a3 a4 a5 a6 a7 : α) (l : List α) : atI (a0 :: a1 :: a2 :: a3 :: a4 :: a5 :: a6 :: a7 :: l) 7 = some a7 := by
  have := atI_nat (xs := a0 :: a1 :: a2 :: a3 :: a4 :: a5 :: a6 :: a7 :: l) (j := 7) (v := a7) rfl
  simpa using this
@[simp] theorem x_atI8 {α : Type} (a0 a1 a2 a3 a4 a5 a6 a7 a8 : α) (l : List α) : atI (a0 :: a1 :: a2 :: a3 :: a4 :: a5 :: a6 :: a7 :: a8 :: l) 8 = some a8 := by
  have := atI_nat (xs := a0 :: a1 :: a2 :: a3 :: a4 :: a5 :: a6 :: a7 :: a8 :: l) (j := 8) (v := a8) rfl
  simpa using this
@[simp] theorem x_atI9 {α : Type} (a0 a1 a2 a3 a4 a5 a6 a7 a8 a9 : α) (l : List α) : atI (a0 :: a1 :: a2 :: a3 :: a4 :: a5 :: a6 :: a7 :: a8 :: a9 :: l) 9 = some a9 := by
  have := atI_nat (xs := a0 :: a1 :: a2 :: a3 :: a4 :: a5 :: a6 :: a7 :: a8 :: a9 :: l) (j := 9) (v := a9) rfl
  simpa using this
@[simp] theorem x_atI10 {α : Type} (a0 a1 a2 a3 a4 a5 a6 a7 a8 a9 a10 : α) (l : List α) : atI (a0 :: a1 :: a2 :: a3 :: a4 :: a5 :: a6 :: a7 :: a8 :: a9 :: a10 :: l) 10 = some a10 := by
  have := atI_nat (xs := a0 :: a1 :: a2 :: a3 :: a4 :: a5 :: a6 :: a7 :: a8 :: a9 :: a10 :: l) (j := 10) (v := a10) rfl
  simpa using this
@[simp] theorem x_atI11 {α : Type} (a0 a1 a2 a3 a4 a5 a6 a7 a8 a9 a10 a11 : α) (l : List α) : atI (a0 :: a1 :: a2 :: a3 :: a4 :: a5 :: a6 :: a7 :: a8 :: a9 :: a10 :: a11 :: l) 11 = some a11 := by
  have := atI_nat (xs := a0 :: a1 :: a2 :: a3 :: a4 :: a5 :: a6 :: a7 :: a8 :: a9 :: a10 :: a11 :: l) (j := 11) (v := a11) rfl
  simpa using this
@[simp] theorem x_atI12 {α : Type} (a0 a1 a2 a3 a4 a5 a6 a7 a8 a9 a10 a11 a12 : α) (l : List α) : atI (a0 :: a1 :: a2 :: a3 :: a4 :: a5 :: a6 :: a7 :: a8 :: a9 :: a10 :: a11 :: a12 :: l) 12 = some a12 := by
  have := atI_nat (xs := a0 :: a1 :: a2 :: a3 :: a4 :: a5 :: a6 :: a7 :: a8 :: a9 :: a10 :: a11 :: a12 :: l) (j := 12) (v := a12) rfl
  simpa using this
theorem atI_of {α : Type} {xs : List α} {i : Int} {v : α} (h0 : 0 ≤ i) (h : xs[i.toNat]? = some v) : atI xs i = some v := by
  have := atI_nat h
  rwa [Int.toNat_of_nonneg h0] at this
@[simp] theorem x_isa_int_int (i : Int) : isa .int (.dat (.int i)) = some true := rfl
@[simp] theorem x_sl_tup (ds : List PyData) (lo hi : Option Int) : vSl (.dat (.tuple ds)) lo hi = some (.dat (.tuple (cutL ds lo hi))) := rfl
@[simp] theorem x_sl_list (ds : List PyData) (lo hi : Option Int) : vSl (.dat (.list ds)) lo hi = some (.own (cutL ds lo hi)) := rfl
@[simp] theorem x_sl_own (ds : List PyData) (lo hi : Option Int) : vSl (.own ds) lo hi = some (.own (cutL ds lo hi)) := rfl
@[simp] theorem x_cut1 {α : Type} (a : α) (l : List α) : cutL (a :: l) (some 1) none = l := by
  unfold cutL HT.sIx
  simp
@[simp] theorem x_rev_own (ds : List PyData) : vRev (.own ds) = some (.own ds.reverse) := rfl
@[simp] theorem x_rev_list (ds : List PyData) : vRev (.dat (.list ds)) = some (.own ds.reverse) := rfl
@[simp] theorem x_rev_str (z : Str) : vRev (.dat (.str z)) = if z.length ≤ big then some (.dat (.str (revS z))) else none := rfl
@[simp] theorem x_sl_str (z : Str) (lo hi : Option Int) : vSl (.dat (.str z)) lo hi = if z.length ≤ big then some (.dat (.str (cutS z lo hi))) else none := rfl
@[simp] theorem x_seqOf_list (ds : List PyData) : seqOf (.dat (.list ds)) = some ds := rfl
@[simp] theorem x_seqOf_tup (ds : List PyData) : seqOf (.dat (.tuple ds)) = some ds := rfl
@[simp] theorem x_seqOf_str (z : Str) : seqOf (.dat (.str z)) = some (signs z) := rfl
@[simp] theorem x_lstOf (ds : List PyData) : lstOf (.dat (.list ds)) = some ds := rfl
@[simp] theorem x_kApp (xs : List PyData) (d : PyData) : kApp xs [.dat d] = if xs.length < big then some (xs ++ [d]) else none := rfl
@[simp] theorem x_kExt (xs ys : List PyData) : kExt xs [.dat (.list ys)] = if xs.length + ys.length ≤ big then some (xs ++ ys) else none := rfl
section
variable (cs : Cs)
@[simp] theorem x_cmp_eq (a b : Val) : vCmp cs .Eq a b = vEq cs a b := rfl
@[simp] theorem x_cmp_ne (a b : Val) : vCmp cs .NotEq a b = (vEq cs a b).map (!·) := rfl
@[simp] theorem x_cmp_lt (i j : Int) : vCmp cs .Lt (.dat (.int i)) (.dat (.int j)) = some (decide (i < j)) := rfl
@[simp] theorem x_cmp_le (i j : Int) : vCmp cs .LtE (.dat (.int i)) (.dat (.int j)) = some (decide (i ≤ j)) := rfl
@[simp] theorem x_cmp_gt (i j : Int) : vCmp cs .Gt (.dat (.int i)) (.dat (.int j)) = some (decide (j < i)) := rfl
@[simp] theorem x_cmp_ge (i j : Int) : vCmp cs .GtE (.dat (.int i)) (.dat (.int j)) = some (decide (j ≤ i)) := rfl
@[simp] theorem x_cmp_in (a b : Val) : vCmp cs .In a b = vIn cs a b := rfl
@[simp] theorem x_cmp_nin (a b : Val) : vCmp cs .NotIn a b = (vIn cs a b).map (!·) := rfl
@[simp] theorem x_cmp_is (a b : Val) : vCmp cs .Is a b = vIs a b := rfl
@[simp] theorem x_cmp_isnot (a b : Val) : vCmp cs .IsNot a b = (vIs a b).map (!·) := rfl
theorem vEq_dat {d e : PyData} (h : min d.depth e.depth ≤ rm cs) : vEq cs (.dat d) (.dat e) = some (d.eqv e) := by
  unfold vEq
  simp [h]
/-- == with a text, an int, a bool, None -/
@[simp] theorem x_eq_str (d : PyData) (z : Str) : vEq cs (.dat d) (.dat (.str z)) = some (d.eqv (.str z)) := vEq_dat cs (by simp [PyData.depth])
@[simp] theorem x_eq_int (d : PyData) (i : Int) : vEq cs (.dat d) (.dat (.int i)) = some (d.eqv (.int i)) := vEq_dat cs (by simp [PyData.depth])
@[simp] theorem x_eq_bool (d : PyData) (b : Bool) : vEq cs (.dat d) (.dat (.bool b)) = some (d.eqv (.bool b)) := vEq_dat cs (by simp [PyData.depth])
@[simp] theorem x_eq_none (d : PyData) : vEq cs (.dat d) (.dat .none) = some (d.eqv .none) := vEq_dat cs (by simp [PyData.depth])
@[simp] theorem x_eq_tup0 (d : PyData) : vEq cs (.dat d) (.dat (.tuple [])) = some (d.eqv (.tuple [])) := vEq_dat cs (by simp only [PyData.depth, PyData.depthAll]; unfold rm; omega)
end
def isNone : PyData → Bool
  | .none => true
  | _ => false
@[simp] theorem x_is_none (d : PyData) : vIs (.dat d) (.dat .none) = some (isNone d) := by cases d <;> rfl
@[simp] theorem x_isNone : isNone .none = true := rfl
@[simp] theorem x_isNone_str (z : Str) : isNone (.str z) = false := rfl
@[simp] theorem x_isNone_int (z : Int) : isNone (.int z) = false := rfl
@[simp] theorem x_isNone_bool (z : Bool) : isNone (.bool z) = false := rfl
@[simp] theorem x_isNone_tup (z : List PyData) : isNone (.tuple z) = false := rfl
@[simp] theorem x_isNone_list (z : List PyData) : isNone (.list z) = false := rfl
def fin : R Fl → C
  | .ok (.rt v) s => .ok v s.ob
  | .ok .nx s => .ok (.dat .none) s.ob
  | .ok _ _ => .no
  | .ex e s => .ex e s.ob
  | .no => .no
@[simp] theorem fin_rt (v : Val) (s : S) : fin (.ok (.rt v) s) = .ok v s.ob := rfl
@[simp] theorem fin_nx (s : S) : fin (.ok .nx s) = .ok (.dat .none) s.ob := rfl
@[simp] theorem fin_ex (e : Exn) (s : S) : fin (.ex e s) = .ex e s.ob := rfl
theorem runDef_fin (cs : Cs) (np nsl : Nat) (body : M Fl) (args : List Val) (ob : List Ob) (h : args.length = np) : runDef cs ⟨np, nsl, body⟩ args ob = fin (body cs ⟨args.map some ++ List.replicate (nsl - np) none, ob⟩) := by
  unfold runDef
  rw [if_pos h]
  dsimp only
  generalize body cs ⟨args.map some ++ List.replicate (nsl - np) none, ob⟩ = r
  cases r with
  | ok f s => cases f <;> rfl
  | ex e s => rfl
  | no => rfl
@[simp] theorem x_is_none_own (xs : List PyData) : vIs (.own xs) (.dat .none) = some false := rfl
@[simp] theorem x_isa_tup (d : List PyData) : isa .tuple (.dat (.tuple d)) = some true := rfl
@[simp] theorem x_isa_tup_str (z : Str) : isa .tuple (.dat (.str z)) = some false := rfl
@[simp] theorem x_isa_str_str (z : Str) : isa .str (.dat (.str z)) = some true := rfl
@[simp] theorem x_isa_str_tup (d : List PyData) : isa .str (.dat (.tuple d)) = some false := rfl
@[simp] theorem x_isa_bool_int (i : Int) : isa .bool (.dat (.int i)) = some false := rfl
@[simp] theorem x_sem_lv (T : Nat → Option FnDef) (n : Nat) : (sem T n).lv = n := sem_lv T n
end CH

/-! CH13: terms: the program's defs of terms.py by combinators, their mirrors. -/
namespace CH
open PySem L2
def d_is_within : FnDef := ⟨3, 3, sRet (mAnd (mUn (oIsa .int) (.pk 0)) (mAnd (mUn oNot (.ev (mUn (oIsa .bool) (.pk 0)))) (mChain .LtE .LtE (.pk 1) (.pk 0) (.pk 2))))⟩
def d_is_name : FnDef := ⟨1, 2, sRet (mAnd (mUn (oIsa .str) (.pk 0)) (mAnd (mChain .LtE .LtE (.ev (mCon (.int (1)))) (.ev (mUn (fun _ => vLen) (.pk 0))) (.ev (mCon (.int (3))))) (mUn oNot (.ev (mComp (.seq (mVar 0)) (.nm 1) [1] (some (bVal (mBin (oCmp .NotIn) (.pk 1) (.ev (mCon (.str "abcdefghijklmnopqrstuvwxyz")))))) (mVar 1))))))⟩
def d_is_leaf : FnDef := ⟨1, 1, sRet (mAnd (mUn (oIsa .str) (.pk 0)) (mOr (mBin (oCmp .Eq) (.pk 0) (.ev (mCon (.str "K")))) (mOr (mBin (oCmp .Eq) (.pk 0) (.ev (mCon (.str "S")))) (mCall 0 [mVar 0] []))))⟩
def d_left_of : FnDef := ⟨2, 2, sSeq (sIf (bTru (.ev (mUn (oIsa .tuple) (.pk 0)))) (sSeq (sIf (bOr (bVal (mBin (oCmp .NotEq) (.ev (mUn (fun _ => vLen) (.pk 0))) (.ev (mCon (.int (2)))))) (bVal (mBin (oCmp .Lt) (.pk 1) (.ev (mCon (.int (2))))))) (sRet (mUn (fun _ => vNeg) (.ev (mCon (.int (1)))))) sPass) (sSeq (sAsg 1 (mCall 2 [mBin (fun _ => vIdx) (.pk 0) (.ev (mCon (.int (0)))), mBin (fun _ => vBin .Sub) (.pk 1) (.ev (mCon (.int (1))))] [])) (sRet (mIf (bVal (mBin (oCmp .Lt) (.pk 1) (.ev (mCon (.int (0)))))) (mUn (fun _ => vNeg) (.ev (mCon (.int (1))))) (mCall 2 [mBin (fun _ => vIdx) (.pk 0) (.ev (mCon (.int (1)))), mBin (fun _ => vBin .Add) (.pk 1) (.ev (mCon (.int (1))))] []))))) sPass) (sRet (mIf (bTru (.ev (mCall 1 [mVar 0] []))) (mBin (fun _ => vBin .Sub) (.pk 1) (.ev (mCon (.int (1))))) (mUn (fun _ => vNeg) (.ev (mCon (.int (1)))))))⟩
def d_is_term : FnDef := ⟨1, 1, sRet (mBin (oCmp .GtE) (.ev (mCall 2 [mVar 0, mCon (.int (200))] [])) (.ev (mCon (.int (0)))))⟩
def d_checked : FnDef := ⟨1, 1, sSeq (sIf (bNot (bTru (.ev (mCall 3 [mVar 0] [])))) (sRaise 1) sPass) (sRet (mVar 0))⟩
def d_looked : FnDef := ⟨1, 1, sSeq (sIf (bNot (bTru (.ev (mCall 3 [mVar 0] [])))) (sRaise 9) sPass) (sRet (mVar 0))⟩
/-! ### names -/
def small (c : Nat) : Bool := decide (97 ≤ c) && decide (c ≤ 122)
def allSmall (x : Str) : Bool := x.cps.toList.all small
def isNm (x : Str) : Bool := decide (1 ≤ x.length) && (decide (x.length ≤ 3) && allSmall x)
def leafB (x : Str) : Bool := x == "K" || (x == "S" || isNm x)
theorem alpha_cps : ("abcdefghijklmnopqrstuvwxyz" : Str).cps.toList = [97, 98, 99, 100, 101, 102, 103, 104, 105, 106, 107, 108, 109, 110, 111, 112, 113, 114, 115, 116, 117, 118, 119, 120, 121, 122] := by decide +kernel
theorem mem_alpha (c : Nat) : decide (c ∈ ("abcdefghijklmnopqrstuvwxyz" : Str).cps.toList) = small c := by
  rw [alpha_cps]
  unfold small
  rw [← Bool.decide_and]
  apply decide_eq_decide.mpr
  simp
  omega
theorem vIn_sign (cs : Cs) (c : Nat) : vIn cs (.dat (.str ⟨#[c]⟩)) (.dat (.str "abcdefghijklmnopqrstuvwxyz")) = some (small c) := by
  show some (decide (c ∈ ("abcdefghijklmnopqrstuvwxyz" : Str).cps.toList)) = _
  rw [mem_alpha]
/-- a comprehension that keeps what passes a test, each as it is -/
theorem loop_keep {cs : Cs} {a : Option Val} {ob : List Ob} {t : M Bool} {p : PyData → Bool} : ∀ (ds acc : List PyData) (o : Option Val), (∀ d ∈ ds, t cs ⟨[a, some (.dat d)], ob⟩ = .ok (p d) ⟨[a, some (.dat d)], ob⟩) → acc.length + ds.length ≤ big →
    compLoop (.nm 1) [1] (some t) (mVar 1) cs ds acc ⟨[a, none], ob⟩ = .ok (acc ++ ds.filter p) ⟨[a, none], ob⟩
  | [], acc, o, _, _ => by simp
  | d :: ds, acc, o, h, hl => by
    have h1 := h d List.mem_cons_self
    have h2 : ∀ d ∈ ds, t cs ⟨[a, some (.dat d)], ob⟩ = .ok (p d) ⟨[a, some (.dat d)], ob⟩ := fun d' hd => h d' (List.mem_cons_of_mem _ hd)
    rw [x_cloop_cons]
    simp only [List.length_cons] at hl
    simp [h1]
    cases e : p d with
    | true =>
      have hlt : acc.length < big := by omega
      simp [hlt]
      rw [loop_keep ds (acc ++ [d]) o h2 (by simp; omega)]
      simp [e]
    | false =>
      simp
      rw [loop_keep ds acc o h2 (by omega)]
      simp [e]
section
variable {T : Nat → Option FnDef}
theorem r_is_name (h : T 0 = some d_is_name) (n : Nat) (x : Str) (hx : x.length ≤ 1000000) (ob : List Ob) : (sem T (n + 1)).run 0 [.dat (.str x)] ob = .ok (.dat (.bool (isNm x))) ob := by
  rw [sem_run h]
  have hb : x.length ≤ big := by unfold big; omega
  have hs : ∀ d ∈ signs x, (bVal (mBin (oCmp .NotIn) (.pk 1) (.ev (mCon (.str "abcdefghijklmnopqrstuvwxyz"))))) (sem T n) ⟨[some (.dat (.str x)), some (.dat d)], ob⟩ = .ok (match d with | .str z => !((z.cps.toList.head?).any small) | _ => true) ⟨[some (.dat (.str x)), some (.dat d)], ob⟩ := by
    intro d hd
    unfold signs at hd
    obtain ⟨c, _, rfl⟩ := List.mem_map.mp hd
    simp [vIn_sign]
  have hl := loop_keep (cs := sem T n) (a := some (.dat (.str x))) (ob := ob) (signs x) [] none hs (by simp [signs]; exact hb)
  have hf : (signs x).filter (fun d => match d with | .str z => !((z.cps.toList.head?).any small) | _ => true) = [] ↔ allSmall x = true := by
    unfold signs allSmall
    rw [List.filter_eq_nil_iff, List.all_eq_true]
    simp
  unfold runDef d_is_name isNm
  by_cases h1 : 1 ≤ x.length
  · have h1' : (1 : Int) ≤ x.length := by omega
    by_cases h3 : x.length ≤ 3
    · have h3' : (x.length : Int) ≤ 3 := by omega
      simp [hb, h1', h3', h1, h3, hl]
      cases e : (signs x).filter (fun d => match d with | .str z => !((z.cps.toList.head?).any small) | _ => true) with
      | nil =>
        have := hf.mp e
        simp [this]
      | cons a l =>
        have : allSmall x = false := by
          cases z : allSmall x with
          | false => rfl
          | true =>
            rw [hf.mpr z] at e
            cases e
        simp [this]
    · have h3' : ¬ (x.length : Int) ≤ 3 := by omega
      simp [hb, h1', h3', h1, h3]
  · have h1' : ¬ (1 : Int) ≤ x.length := by omega
    simp [hb, h1', h1]
theorem r_is_leaf (h0 : T 0 = some d_is_name) (h : T 1 = some d_is_leaf) (n : Nat) (x : Str) (hx : x.length ≤ 1000000) (ob : List Ob) : (sem T (n + 2)).run 1 [.dat (.str x)] ob = .ok (.dat (.bool (leafB x))) ob := by
  rw [sem_run h]
  have hn := r_is_name h0 n x hx ob
  unfold runDef d_is_leaf leafB
  simp [PyData.eqv]
  cases h1 : x == ("K" : Str) with
  | true => simp
  | false =>
    cases h2 : x == ("S" : Str) with
    | true => simp
    | false => simp [hn]
end
/-! ### terms -/
inductive Tm where
  | K | S | nm (x : Str) | ap (a b : Tm)
  deriving DecidableEq
def Tm.ok : Tm → Bool
  | .nm x => isNm x
  | .ap a b => a.ok && b.ok
  | _ => true
def Tm.lv : Tm → Nat
  | .ap a b => a.lv + b.lv
  | _ => 1
def Tm.dep : Tm → Nat
  | .ap a b => max a.dep b.dep + 1
  | _ => 0
def tD : Tm → PyData
  | .K => .str "K"
  | .S => .str "S"
  | .nm x => .str x
  | .ap a b => .tuple [tD a, tD b]
theorem Tm.lv_pos : ∀ t : Tm, 1 ≤ t.lv
  | .K => Nat.le_refl _
  | .S => Nat.le_refl _
  | .nm _ => Nat.le_refl _
  | .ap a b => by have := a.lv_pos; unfold Tm.lv; omega
theorem Tm.dep_lv : ∀ t : Tm, t.dep + 1 ≤ t.lv
  | .K => Nat.le_refl _
  | .S => Nat.le_refl _
  | .nm _ => Nat.le_refl _
  | .ap a b => by
    have h1 := a.dep_lv
    have h2 := b.dep_lv
    have h3 := a.lv_pos
    have h4 := b.lv_pos
    unfold Tm.dep Tm.lv
    omega
theorem tD_depth : ∀ t : Tm, (tD t).depth = t.dep
  | .K => rfl
  | .S => rfl
  | .nm _ => rfl
  | .ap a b => by
    simp only [tD, PyData.depth, PyData.depthAll, tD_depth a, tD_depth b, Tm.dep]
    omega
def leftT : Tm → Int → Int
  | .ap a b, k => if k < 2 then -1 else if leftT a (k - 1) < 0 then -1 else leftT b (leftT a (k - 1) + 1)
  | _, k => k - 1
theorem leftT_eq : ∀ (t : Tm) (k : Int), 0 ≤ k → leftT t k = if (t.lv : Int) ≤ k then k - t.lv else -1 := by
  intro t
  induction t with
  | ap a b iha ihb =>
    intro k hk
    have ha := a.lv_pos
    have hb := b.lv_pos
    unfold leftT
    have el : ((Tm.ap a b).lv : Int) = a.lv + b.lv := by simp [Tm.lv]
    rw [el]
    by_cases h2 : k < 2
    · rw [if_pos h2, if_neg (by omega)]
    · rw [if_neg h2, iha (k - 1) (by omega)]
      by_cases h3 : (a.lv : Int) ≤ k - 1
      · rw [if_pos h3, if_neg (by omega), ihb _ (by omega)]
        by_cases h4 : (b.lv : Int) ≤ k - 1 - a.lv + 1
        · rw [if_pos h4, if_pos (by omega)]; omega
        · rw [if_neg h4, if_neg (by omega)]
      · rw [if_neg h3, if_pos (by omega), if_neg (by omega)]
  | K => intro k hk; unfold leftT Tm.lv; by_cases h : k = 0 <;> simp [h] <;> omega
  | S => intro k hk; unfold leftT Tm.lv; by_cases h : k = 0 <;> simp [h] <;> omega
  | nm x => intro k hk; unfold leftT Tm.lv; by_cases h : k = 0 <;> simp [h] <;> omega
/-- the table holds the defs of terms.py -/
structure HasTerms (T : Nat → Option FnDef) : Prop where
  is_name : T 0 = some d_is_name
  is_leaf : T 1 = some d_is_leaf
  left_of : T 2 = some d_left_of
  is_term : T 3 = some d_is_term
section
variable {T : Nat → Option FnDef}
theorem nm_len {x : Str} (h : isNm x = true) : x.length ≤ 3 := by
  unfold isNm at h
  simp at h
  exact h.2.1
theorem leaf_of (H : HasTerms T) : ∀ (t : Tm), t.ok = true → (∀ a b, t ≠ .ap a b) → ∀ (n : Nat) (ob : List Ob), (sem T (n + 2)).run 1 [.dat (tD t)] ob = .ok (.dat (.bool true)) ob := by
  intro t ht hn n ob
  cases t with
  | ap a b => exact absurd rfl (hn a b)
  | K => exact r_is_leaf H.is_name H.is_leaf n "K" (by decide +kernel) ob
  | S => exact r_is_leaf H.is_name H.is_leaf n "S" (by decide +kernel) ob
  | nm x =>
    have hx : isNm x = true := ht
    have := nm_len hx
    show (sem T (n + 2)).run 1 [.dat (.str x)] ob = _
    rw [r_is_leaf H.is_name H.is_leaf n x (by omega) ob]
    unfold leafB
    simp [hx]
theorem r_left_of (H : HasTerms T) : ∀ (t : Tm) (k : Int) (n : Nat) (ob : List Ob), t.ok = true → min t.dep k.toNat + 3 ≤ n → (sem T n).run 2 [.dat (tD t), .dat (.int k)] ob = .ok (.dat (.int (leftT t k))) ob := by
  intro t
  induction t with
  | ap a b iha ihb =>
    intro k n ob hok hn
    obtain ⟨m, rfl⟩ : ∃ m, n = m + 1 := ⟨n - 1, by omega⟩
    have ha : a.ok = true := by simp [Tm.ok] at hok; exact hok.1
    have hb : b.ok = true := by simp [Tm.ok] at hok; exact hok.2
    rw [sem_run H.left_of]
    unfold runDef d_left_of leftT
    by_cases h2 : k < 2
    · simp [tD, h2, PyData.eqv]
    · have hd : min (Tm.ap a b).dep k.toNat + 3 ≤ m + 1 := hn
      have hm : min a.dep (k - 1).toNat + 3 ≤ m := by
        unfold Tm.dep at hd
        omega
      have r1 := iha (k - 1) m ob ha hm
      simp [tD, h2, PyData.eqv, r1]
      by_cases h3 : leftT a (k - 1) < 0
      · simp [h3]
      · have hk1 : 0 ≤ k - 1 := by omega
        have hle : leftT a (k - 1) + 1 ≤ k - 1 := by
          have e := leftT_eq a (k - 1) hk1
          have hp := a.lv_pos
          rw [e] at h3 ⊢
          split at h3
          · rename_i z
            rw [if_pos z]
            omega
          · exact absurd (by decide) h3
        have hm2 : min b.dep (leftT a (k - 1) + 1).toNat + 3 ≤ m := by
          unfold Tm.dep at hd
          omega
        have r2 := ihb (leftT a (k - 1) + 1) m ob hb hm2
        simp [h3, r2]
  | K =>
    intro k n ob hok hn
    obtain ⟨m, rfl⟩ : ∃ m, n = (m + 2) + 1 := ⟨n - 3, by omega⟩
    rw [sem_run H.left_of]
    have hl := leaf_of H .K rfl (fun a b z => by cases z) m ob
    unfold runDef d_left_of leftT
    simp [tD] at hl ⊢
    simp [hl]
  | S =>
    intro k n ob hok hn
    obtain ⟨m, rfl⟩ : ∃ m, n = (m + 2) + 1 := ⟨n - 3, by omega⟩
    rw [sem_run H.left_of]
    have hl := leaf_of H .S rfl (fun a b z => by cases z) m ob
    unfold runDef d_left_of leftT
    simp [tD] at hl ⊢
    simp [hl]
  | nm x =>
    intro k n ob hok hn
    obtain ⟨m, rfl⟩ : ∃ m, n = (m + 2) + 1 := ⟨n - 3, by omega⟩
    rw [sem_run H.left_of]
    have hl := leaf_of H (.nm x) hok (fun a b z => by cases z) m ob
    unfold runDef d_left_of leftT
    simp [tD] at hl ⊢
    simp [hl]
theorem r_is_term (H : HasTerms T) (t : Tm) (n : Nat) (ob : List Ob) (hok : t.ok = true) (hn : 204 ≤ n) : (sem T n).run 3 [.dat (tD t)] ob = .ok (.dat (.bool (decide (t.lv ≤ 200)))) ob := by
  obtain ⟨m, rfl⟩ : ∃ m, n = m + 1 := ⟨n - 1, by omega⟩
  rw [sem_run H.is_term]
  have r := r_left_of H t 200 m ob hok (by omega)
  unfold runDef d_is_term
  simp [r, leftT_eq]
  by_cases h : t.lv ≤ 200
  · have : (t.lv : Int) ≤ 200 := by omega
    simp [h, this]
  · have : ¬ (t.lv : Int) ≤ 200 := by omega
    simp [h, this]
end
end CH

/-! CH14: steps: the program's defs of steps.py by combinators, their mirrors. -/
namespace CH
open PySem L2
def d_deed_of : FnDef := ⟨1, 1, sSeq (sIf (bAnd (bTru (.ev (mUn (oIsa .tuple) (.pk 0)))) (bTru (.ev (mUn (oIsa .tuple) (.ev (mBin (fun _ => vIdx) (.pk 0) (.ev (mCon (.int (0)))))))))) (sSeq (sIf (bVal (mBin (oCmp .Eq) (.ev (mBin (fun _ => vIdx) (.ev (mBin (fun _ => vIdx) (.pk 0) (.ev (mCon (.int (0)))))) (.ev (mCon (.int (0)))))) (.ev (mCon (.str "K"))))) (sRet (mCon (.str "K"))) sPass) (sIf (bAnd (bTru (.ev (mUn (oIsa .tuple) (.ev (mBin (fun _ => vIdx) (.ev (mBin (fun _ => vIdx) (.pk 0) (.ev (mCon (.int (0)))))) (.ev (mCon (.int (0))))))))) (bVal (mBin (oCmp .Eq) (.ev (mBin (fun _ => vIdx) (.ev (mBin (fun _ => vIdx) (.ev (mBin (fun _ => vIdx) (.pk 0) (.ev (mCon (.int (0)))))) (.ev (mCon (.int (0)))))) (.ev (mCon (.int (0)))))) (.ev (mCon (.str "S")))))) (sRet (mCon (.str "S"))) sPass)) sPass) (sRet (mCon (.str "")))⟩
def d_done : FnDef := ⟨1, 4, sSeq (sIf (bVal (mBin (oCmp .Eq) (.ev (mCall 16 [mVar 0] [])) (.ev (mCon (.str "K"))))) (sRet (mBin (fun _ => vIdx) (.ev (mBin (fun _ => vIdx) (.pk 0) (.ev (mCon (.int (0)))))) (.ev (mCon (.int (1)))))) sPass) (sSeq (sPar3 1 2 3 [mBin (fun _ => vIdx) (.ev (mBin (fun _ => vIdx) (.ev (mBin (fun _ => vIdx) (.pk 0) (.ev (mCon (.int (0)))))) (.ev (mCon (.int (0)))))) (.ev (mCon (.int (1)))), mBin (fun _ => vIdx) (.ev (mBin (fun _ => vIdx) (.pk 0) (.ev (mCon (.int (0)))))) (.ev (mCon (.int (1)))), mBin (fun _ => vIdx) (.pk 0) (.ev (mCon (.int (1))))]) (sRet (mTup [mTup [mVar 1, mVar 3], mTup [mVar 2, mVar 3]])))⟩
def d_ways_of : FnDef := ⟨1, 3, sSeq (sIf (bTru (.ev (mUn (oIsa .str) (.pk 0)))) (sRet (mLst [])) sPass) (sSeq (sAsg 1 (mIf (bTru (.ev (mCall 16 [mVar 0] []))) (mLst [mTup []]) (mLst []))) (sSeq (sOwn 1 kExt [mComp (.seq (mCall 18 [mBin (fun _ => vIdx) (.pk 0) (.ev (mCon (.int (0))))] [])) (.nm 2) [2] none (mBin (fun _ => vBin .Add) (.ev (mTup [mCon (.int (0))])) (.pk 2))]) (sRet (mBin (fun _ => vBin .Add) (.pk 1) (.ev (mComp (.seq (mCall 18 [mBin (fun _ => vIdx) (.pk 0) (.ev (mCon (.int (1))))] [])) (.nm 2) [2] none (mBin (fun _ => vBin .Add) (.ev (mTup [mCon (.int (1))])) (.pk 2))))))))⟩
def d_part_at : FnDef := ⟨2, 3, sSeq (sIf (bNot (bTru (.ev (mUn (oIsa .tuple) (.pk 1))))) (sRet (mCon (.none))) sPass) (sSeq (sFor (.seq (mVar 1)) (.nm 2) (sSeq (sIf (bOr (bNot (bTru (.ev (mUn (oIsa .tuple) (.pk 0))))) (bNot (bTru (.ev (mCall 14 [mVar 2, mCon (.int (0)), mCon (.int (1))] []))))) (sRet (mCon (.none))) sPass) (sAsg 0 (mBin (fun _ => vIdx) (.pk 0) (.pk 2))))) (sRet (mVar 0)))⟩
def d_with_part : FnDef := ⟨3, 3, sSeq (sIf (bVal (mBin (oCmp .Eq) (.pk 1) (.ev (mTup [])))) (sRet (mVar 2)) sPass) (sSeq (sIf (bVal (mBin (oCmp .Eq) (.ev (mBin (fun _ => vIdx) (.pk 1) (.ev (mCon (.int (0)))))) (.ev (mCon (.int (0)))))) (sRet (mTup [mCall 21 [mBin (fun _ => vIdx) (.pk 0) (.ev (mCon (.int (0)))), mSl (.pk 1) (some (mCon (.int (1)))) none, mVar 2] [], mBin (fun _ => vIdx) (.pk 0) (.ev (mCon (.int (1))))])) sPass) (sRet (mTup [mBin (fun _ => vIdx) (.pk 0) (.ev (mCon (.int (0)))), mCall 21 [mBin (fun _ => vIdx) (.pk 0) (.ev (mCon (.int (1)))), mSl (.pk 1) (some (mCon (.int (1)))) none, mVar 2] []])))⟩
def d_look_way : FnDef := ⟨2, 3, sSeq (sAsg 2 (mCall 20 [mVar 0, mVar 1] [])) (sSeq (sIf (bOr (bVal (mBin (oCmp .Is) (.pk 2) (.ev (mCon (.none))))) (bNot (bTru (.ev (mCall 16 [mVar 2] []))))) (sRaiseF 3 "way" (mVar 1)) sPass) (sRet (mVar 2)))⟩
def d_step_to : FnDef := ⟨2, 2, sRet (mCall 21 [mVar 0, mVar 1, mCall 17 [mCall 22 [mVar 0, mVar 1] []] []] [])⟩
def d_led : FnDef := ⟨2, 3, sSeq (sExpr (mCall 4 [mVar 0] [])) (sSeq (sFor (.seq (mVar 1)) (.nm 2) (sAsg 0 (mCall 15 [mCall 23 [mVar 0, mVar 2] []] []))) (sRet (mVar 0)))⟩
def d_played : FnDef := ⟨2, 4, sSeq (sExpr (mCall 4 [mVar 0] [])) (sSeq (sIf (bNot (bTru (.ev (mCall 14 [mVar 1, mCon (.int (0)), mCon (.int (400))] [])))) (sRaise 4) sPass) (sSeq (sAsg 2 (mLst [])) (sSeq (sWhile (bVal (mBin (oCmp .Lt) (.ev (mUn (fun _ => vLen) (.pk 2))) (.pk 1))) (sSeq (sAsg 3 (mCall 18 [mVar 0] [])) (sSeq (sIf (bOr (bNot (bTru (.pk 3))) (bNot (bTru (.ev (mCall 3 [mCall 23 [mVar 0, mBin (fun _ => vIdx) (.pk 3) (.ev (mCon (.int (0))))] []] []))))) (sRet (mTup [mVar 0, mVar 2])) sPass) (sSeq (sOwn 2 kApp [mBin (fun _ => vIdx) (.pk 3) (.ev (mCon (.int (0))))]) (sAsg 0 (mCall 23 [mVar 0, mBin (fun _ => vIdx) (.pk 3) (.ev (mCon (.int (0))))] [])))))) (sRet (mTup [mVar 0, mVar 2])))))⟩
/-! ### loops -/
theorem loop_map {cs : Cs} {i : Nat} {elt : M Val} {f : PyData → PyData} (s : S) (hw : ∀ d, (s.put i (some (.dat d))).put i none = s) : ∀ (ds acc : List PyData), (∀ d ∈ ds, elt cs (s.put i (some (.dat d))) = .ok (.dat (f d)) (s.put i (some (.dat d)))) → acc.length + ds.length ≤ big →
    compLoop (.nm i) [i] none elt cs ds acc s = .ok (acc ++ ds.map f) s
  | [], acc, _, _ => by simp
  | d :: ds, acc, h, hl => by
    have h1 := h d List.mem_cons_self
    simp only [List.length_cons] at hl
    have hlt : acc.length < big := by omega
    rw [x_cloop_cons]
    simp only [x_tgPut_nm, h1, x_toD_dat, hlt, if_true, x_wipe_cons, x_wipe_nil, hw]
    rw [loop_map s hw ds (acc ++ [f d]) (fun e he => h e (List.mem_cons_of_mem _ he)) (by simp; omega)]
    simp
theorem while_go {t : M Bool} {body : M Fl} {cs : Cs} {s s1 s2 : S} (n : Nat) (ht : t cs s = .ok true s1) (hb : body cs s1 = .ok .nx s2) : whileLoop t body cs (n + 1) s = whileLoop t body cs n s2 := by
  rw [x_while_succ, ht]
  show (body cs s1).bnd _ = _
  rw [hb]
  rfl
theorem while_end {t : M Bool} {body : M Fl} {cs : Cs} {s s1 : S} (n : Nat) (ht : t cs s = .ok false s1) : whileLoop t body cs (n + 1) s = .ok .nx s1 := by
  rw [x_while_succ, ht]
  rfl
@[simp] theorem x_pass1 (v : Val) (s : S) {α : Type} (k : Val → S → R α) : (R.ok v s).bnd k = k v s := rfl
/-! ### steps -/
theorem nm_ne {x : Str} (h : isNm x = true) : (x == "K") = false ∧ (x == "S") = false := by
  constructor
  · cases e : x == ("K" : Str) with
    | false => rfl
    | true =>
      have := eq_of_beq e
      subst this
      exact absurd h (by decide +kernel)
  · cases e : x == ("S" : Str) with
    | false => rfl
    | true =>
      have := eq_of_beq e
      subst this
      exact absurd h (by decide +kernel)
def deedT : Tm → Str
  | .ap (.ap .K _) _ => "K"
  | .ap (.ap (.ap .S _) _) _ => "S"
  | _ => ""
def isRed (t : Tm) : Bool := match t with
  | .ap (.ap .K _) _ => true
  | .ap (.ap (.ap .S _) _) _ => true
  | _ => false
def doneT : Tm → Tm
  | .ap (.ap .K x) _ => x
  | .ap (.ap (.ap .S f) g) x => .ap (.ap f x) (.ap g x)
  | t => t
def waysT : Tm → List (List Bool)
  | .ap a b => (if isRed (.ap a b) then [[]] else []) ++ (waysT a).map (false :: ·) ++ (waysT b).map (true :: ·)
  | _ => []
def bI (b : Bool) : PyData := .int (if b then 1 else 0)
def wD (w : List Bool) : PyData := .tuple (w.map bI)
def partT : Tm → List Bool → Option Tm
  | t, [] => some t
  | .ap a _, false :: w => partT a w
  | .ap _ b, true :: w => partT b w
  | _, _ :: _ => none
def withT : Tm → List Bool → Tm → Tm
  | _, [], o => o
  | .ap a b, false :: w, o => .ap (withT a w o) b
  | .ap a b, true :: w, o => .ap a (withT b w o)
  | t, _ :: _, _ => t
def stepT (t : Tm) (w : List Bool) : Tm := withT t w (doneT ((partT t w).getD t))
structure HasSteps (T : Nat → Option FnDef) : Prop extends HasTerms T where
  checked : T 4 = some d_checked
  is_within : T 14 = some d_is_within
  looked : T 15 = some d_looked
  deed_of : T 16 = some d_deed_of
  done : T 17 = some d_done
  ways_of : T 18 = some d_ways_of
  part_at : T 20 = some d_part_at
  with_part : T 21 = some d_with_part
  look_way : T 22 = some d_look_way
  step_to : T 23 = some d_step_to
section
variable {T : Nat → Option FnDef}
theorem r_is_within (h : T 14 = some d_is_within) (n : Nat) (i lo hi : Int) (ob : List Ob) : (sem T (n + 1)).run 14 [.dat (.int i), .dat (.int lo), .dat (.int hi)] ob = .ok (.dat (.bool (decide (lo ≤ i) && decide (i ≤ hi)))) ob := by
  rw [sem_run h]
  unfold runDef d_is_within
  simp
  by_cases h1 : lo ≤ i
  · simp [h1]
  · simp [h1]
theorem r_checked (H : HasSteps T) (t : Tm) (n : Nat) (ob : List Ob) (hok : t.ok = true) (hl : t.lv ≤ 200) (hn : 205 ≤ n) : (sem T n).run 4 [.dat (tD t)] ob = .ok (.dat (tD t)) ob := by
  obtain ⟨m, rfl⟩ : ∃ m, n = m + 1 := ⟨n - 1, by omega⟩
  rw [sem_run H.checked]
  have r := r_is_term H.toHasTerms t m ob hok (by omega)
  unfold runDef d_checked
  simp [r, hl]
theorem r_looked (H : HasSteps T) (t : Tm) (n : Nat) (ob : List Ob) (hok : t.ok = true) (hl : t.lv ≤ 200) (hn : 205 ≤ n) : (sem T n).run 15 [.dat (tD t)] ob = .ok (.dat (tD t)) ob := by
  obtain ⟨m, rfl⟩ : ∃ m, n = m + 1 := ⟨n - 1, by omega⟩
  rw [sem_run H.looked]
  have r := r_is_term H.toHasTerms t m ob hok (by omega)
  unfold runDef d_looked
  simp [r, hl]
def Tm.isK : Tm → Bool
  | .K => true
  | _ => false
def Tm.isS : Tm → Bool
  | .S => true
  | _ => false
theorem tD_K {t : Tm} (h : t.ok = true) : (tD t).eqv (.str "K") = t.isK := by
  cases t with
  | nm x => simp [tD, PyData.eqv, (nm_ne h).1, Tm.isK]
  | K => rfl
  | S => clear h; decide +kernel
  | ap a b => rfl
theorem tD_S {t : Tm} (h : t.ok = true) : (tD t).eqv (.str "S") = t.isS := by
  cases t with
  | nm x => simp [tD, PyData.eqv, (nm_ne h).2, Tm.isS]
  | K => clear h; decide +kernel
  | S => rfl
  | ap a b => rfl
theorem tD_leaf {t : Tm} (h : ∀ a b, t ≠ .ap a b) : ∃ x, tD t = .str x := by
  cases t with
  | ap a b => exact absurd rfl (h a b)
  | K => exact ⟨_, rfl⟩
  | S => exact ⟨_, rfl⟩
  | nm x => exact ⟨_, rfl⟩
theorem r_deed_of (h : T 16 = some d_deed_of) (t : Tm) (n : Nat) (ob : List Ob) (hok : t.ok = true) : (sem T (n + 1)).run 16 [.dat (tD t)] ob = .ok (.dat (.str (deedT t))) ob := by
  rw [sem_run h]
  unfold runDef d_deed_of
  have leaf : ∀ t : Tm, (∀ a b, t ≠ .ap a b) → isa .tuple (.dat (tD t)) = some false := by
    intro t ht
    obtain ⟨x, e⟩ := tD_leaf ht
    rw [e]; rfl
  cases t with
  | K => simp [tD, deedT]
  | S => simp [tD, deedT]
  | nm x => simp [tD, deedT]
  | ap a b =>
    cases a with
    | K => simp [tD, deedT]
    | S => simp [tD, deedT]
    | nm x => simp [tD, deedT]
    | ap c d =>
      have hc : c.ok = true := by simp [Tm.ok] at hok; exact hok.1.1
      have e1 := tD_K hc
      cases c with
      | K => simp [tD, deedT, PyData.eqv]
      | S => simp [tD, deedT, Tm.isK] at e1 ⊢; simp [e1]
      | nm x => simp [tD, deedT, Tm.isK] at e1 ⊢; simp [e1]
      | ap p q =>
        have hp : p.ok = true := by simp [Tm.ok] at hc; exact hc.1
        have e2 := tD_S hp
        simp [tD, Tm.isK] at e1
        simp [tD, e1, e2]
        cases p <;> simp [deedT, Tm.isS]
theorem deed_len (t : Tm) : (deedT t).length ≤ big ∧ (((deedT t).length : Int) != 0) = isRed t := by
  unfold deedT
  split
  · exact ⟨by decide +kernel, (by decide +kernel : (((("K" : Str).length : Nat) : Int) != 0) = true)⟩
  · exact ⟨by decide +kernel, (by decide +kernel : (((("S" : Str).length : Nat) : Int) != 0) = true)⟩
  · rename_i h1 h2
    refine ⟨by decide +kernel, ?_⟩
    have : isRed t = false := by
      unfold isRed
      split
      · exact absurd rfl (h1 _ _)
      · exact absurd rfl (h2 _ _ _)
      · rfl
    rw [this]
    decide +kernel
theorem r_done (H : HasSteps T) (t : Tm) (n : Nat) (ob : List Ob) (hok : t.ok = true) (hr : isRed t = true) : (sem T (n + 2)).run 17 [.dat (tD t)] ob = .ok (.dat (tD (doneT t))) ob := by
  rw [sem_run H.done]
  have r := r_deed_of H.deed_of t n ob hok
  unfold runDef d_done
  unfold isRed at hr
  split at hr
  · simp [tD] at r
    simp [tD, r, deedT, PyData.eqv, doneT]
  · have e : (("S" : Str) == ("K" : Str)) = false := by decide +kernel
    simp [tD] at r
    simp [tD, r, deedT, PyData.eqv, doneT, e]
  · cases hr
theorem ways_len : ∀ t : Tm, (waysT t).length + 1 ≤ t.lv
  | .K => Nat.le_refl _
  | .S => Nat.le_refl _
  | .nm _ => Nat.le_refl _
  | .ap a b => by
    have h1 := ways_len a
    have h2 := ways_len b
    unfold waysT Tm.lv
    split <;> simp <;> omega
theorem ways_wlen : ∀ (t : Tm) (w : List Bool), w ∈ waysT t → w.length ≤ t.dep
  | .ap a b, w, h => by
    unfold waysT at h
    unfold Tm.dep
    simp at h
    rcases h with h | ⟨u, hu, rfl⟩ | ⟨u, hu, rfl⟩
    · rw [h.2]; simp
    · have := ways_wlen a u hu; simp; omega
    · have := ways_wlen b u hu; simp; omega
  | .K, w, h => by cases h
  | .S, w, h => by cases h
  | .nm _, w, h => by cases h
theorem ways_part : ∀ (t : Tm) (w : List Bool), w ∈ waysT t → ∃ p, partT t w = some p ∧ isRed p = true
  | .ap a b, w, h => by
    unfold waysT at h
    simp at h
    rcases h with h | ⟨u, hu, rfl⟩ | ⟨u, hu, rfl⟩
    · rw [h.2]; exact ⟨_, by unfold partT; rfl, h.1⟩
    · obtain ⟨p, h1, h2⟩ := ways_part a u hu; exact ⟨p, by unfold partT; exact h1, h2⟩
    · obtain ⟨p, h1, h2⟩ := ways_part b u hu; exact ⟨p, by unfold partT; exact h1, h2⟩
  | .K, w, h => by cases h
  | .S, w, h => by cases h
  | .nm _, w, h => by cases h
theorem ap_ok {a b : Tm} (h : (Tm.ap a b).ok = true) : a.ok = true ∧ b.ok = true := by
  simp [Tm.ok] at h
  exact h
theorem r_ways_of (H : HasSteps T) : ∀ (t : Tm) (n : Nat) (ob : List Ob), t.ok = true → t.lv ≤ 1000 → t.dep + 2 ≤ n → (sem T n).run 18 [.dat (tD t)] ob = .ok (.own ((waysT t).map wD)) ob := by
  intro t
  have leaf : ∀ t : Tm, (∀ a b, t ≠ .ap a b) → ∀ (n : Nat) (ob : List Ob), 2 ≤ n → (sem T n).run 18 [.dat (tD t)] ob = .ok (.own ((waysT t).map wD)) ob := by
    intro t ht n ob hn
    obtain ⟨m, rfl⟩ : ∃ m, n = m + 1 := ⟨n - 1, by omega⟩
    rw [sem_run H.ways_of]
    obtain ⟨x, e⟩ := tD_leaf ht
    have : waysT t = [] := by cases t <;> first | rfl | exact absurd rfl (ht _ _)
    unfold runDef d_ways_of
    simp [e, this]
  induction t with
  | K => exact fun n ob _ _ h => leaf .K (fun a b z => by cases z) n ob (by omega)
  | S => exact fun n ob _ _ h => leaf .S (fun a b z => by cases z) n ob (by omega)
  | nm x => exact fun n ob _ _ h => leaf (.nm x) (fun a b z => by cases z) n ob (by omega)
  | ap a b iha ihb =>
    intro n ob hok hl hn
    obtain ⟨m, rfl⟩ : ∃ m, n = (m + 1) + 1 := ⟨n - 2, by omega⟩
    have hd : max a.dep b.dep + 1 + 2 ≤ m + 1 + 1 := hn
    have hlv : a.lv + b.lv ≤ 1000 := hl
    have r0 := r_deed_of H.deed_of (.ap a b) m ob hok
    have r1 := iha (m + 1) ob (ap_ok hok).1 (by omega) (by omega)
    have r2 := ihb (m + 1) ob (ap_ok hok).2 (by omega) (by omega)
    have ba := ways_len a
    have bb := ways_len b
    have hbig : 100000 ≤ big := by unfold big; omega
    have l1 : ∀ (o : Option Val) (ds : List PyData), ds.length ≤ 1000 → (∀ d ∈ ds, ∃ w : List Bool, w.length ≤ 1000 ∧ d = wD w) → compLoop (.nm 2) [2] none (mBin (fun _ => vBin .Add) (.ev (mTup [mCon (.int 0)])) (.pk 2)) (sem T (m + 1)) ds [] ⟨[some (.dat (tD (.ap a b))), o, none], ob⟩ = .ok (ds.map fun d => match d with | .tuple l => .tuple (.int 0 :: l) | d => d) ⟨[some (.dat (tD (.ap a b))), o, none], ob⟩ := by
      intro o ds hds hw
      have := loop_map (cs := sem T (m + 1)) (i := 2) (elt := mBin (fun _ => vBin .Add) (.ev (mTup [mCon (.int 0)])) (.pk 2)) (f := fun d => match d with | .tuple l => .tuple (.int 0 :: l) | d => d) ⟨[some (.dat (tD (.ap a b))), o, none], ob⟩ (fun d => rfl) ds [] (by
        intro d hd
        obtain ⟨w, hwl, rfl⟩ := hw d hd
        have : 1 + w.length ≤ big := by omega
        simp [wD, this]) (by simp; omega)
      simpa using this
    have l2 : ∀ (o : Option Val) (ds : List PyData), ds.length ≤ 1000 → (∀ d ∈ ds, ∃ w : List Bool, w.length ≤ 1000 ∧ d = wD w) → compLoop (.nm 2) [2] none (mBin (fun _ => vBin .Add) (.ev (mTup [mCon (.int 1)])) (.pk 2)) (sem T (m + 1)) ds [] ⟨[some (.dat (tD (.ap a b))), o, none], ob⟩ = .ok (ds.map fun d => match d with | .tuple l => .tuple (.int 1 :: l) | d => d) ⟨[some (.dat (tD (.ap a b))), o, none], ob⟩ := by
      intro o ds hds hw
      have := loop_map (cs := sem T (m + 1)) (i := 2) (elt := mBin (fun _ => vBin .Add) (.ev (mTup [mCon (.int 1)])) (.pk 2)) (f := fun d => match d with | .tuple l => .tuple (.int 1 :: l) | d => d) ⟨[some (.dat (tD (.ap a b))), o, none], ob⟩ (fun d => rfl) ds [] (by
        intro d hd
        obtain ⟨w, hwl, rfl⟩ := hw d hd
        have : 1 + w.length ≤ big := by omega
        simp [wD, this]) (by simp; omega)
      simpa using this
    have wa : ∀ (c : Tm), c.lv ≤ 1000 → ∀ d ∈ (waysT c).map wD, ∃ w : List Bool, w.length ≤ 1000 ∧ d = wD w := by
      intro c hc d hd
      obtain ⟨w, hw, rfl⟩ := List.mem_map.mp hd
      have := ways_wlen c w hw
      have := c.dep_lv
      exact ⟨w, by omega, rfl⟩
    have q1 := fun o => l1 o _ (by rw [List.length_map]; omega) (wa a (by omega))
    have q2 := fun o => l2 o _ (by rw [List.length_map]; omega) (wa b (by omega))
    have b1 : (waysT a).length + 1 + (waysT b).length ≤ big := by omega
    have b2 : 1 + (waysT a).length ≤ big := by omega
    have b3 : (waysT a).length + (waysT b).length ≤ big := by omega
    have b4 : (waysT a).length ≤ big := by omega
    rw [sem_run H.ways_of]
    obtain ⟨dl, de⟩ := deed_len (.ap a b)
    unfold runDef d_ways_of
    have et : tD (.ap a b) = .tuple [tD a, tD b] := rfl
    rw [et] at r0 q1 q2
    cases hr : isRed (.ap a b) with
    | true =>
      rw [hr] at de
      simp [et, r0, r1, r2, dl, de, q1, q2, b2, b1]
      simp [waysT, hr, wD, bI, Function.comp_def]
    | false =>
      rw [hr] at de
      simp [et, r0, r1, r2, dl, de, q1, q2, b3, b4]
      simp [waysT, hr, wD, bI, Function.comp_def]
end
end CH

/-! CH15: a step at a way, rows of steps, play. -/
namespace CH
open PySem L2
section
variable {T : Nat → Option FnDef}
def b_part : M Fl := sSeq (sIf (bOr (bNot (bTru (.ev (mUn (oIsa .tuple) (.pk 0))))) (bNot (bTru (.ev (mCall 14 [mVar 2, mCon (.int (0)), mCon (.int (1))] []))))) (sRet (mCon (.none))) sPass) (sAsg 0 (mBin (fun _ => vIdx) (.pk 0) (.pk 2)))
theorem part_loop (h : T 14 = some d_is_within) (n : Nat) (W : Option Val) (ob : List Ob) : ∀ (w : List Bool) (t : Tm) (o : Option Val),
    (∀ p, partT t w = some p → ∃ o', forLoop (.nm 2) b_part (sem T (n + 1)) (w.map bI) ⟨[some (.dat (tD t)), W, o], ob⟩ = .ok .nx ⟨[some (.dat (tD p)), W, o'], ob⟩) ∧
    (partT t w = none → ∃ l, forLoop (.nm 2) b_part (sem T (n + 1)) (w.map bI) ⟨[some (.dat (tD t)), W, o], ob⟩ = .ok (.rt (.dat .none)) ⟨l, ob⟩)
  | [], t, o => by
    constructor
    · intro p hp
      unfold partT at hp
      cases hp
      exact ⟨o, rfl⟩
    · intro hp
      unfold partT at hp
      cases hp
  | b :: w, t, o => by
    have e0 : ((w.map bI)) = w.map bI := rfl
    have leaf : ∀ x, tD t = .str x → ∃ l, forLoop (.nm 2) b_part (sem T (n + 1)) ((b :: w).map bI) ⟨[some (.dat (tD t)), W, o], ob⟩ = .ok (.rt (.dat .none)) ⟨l, ob⟩ := by
      intro x hx
      rw [hx, List.map_cons, x_for_cons]
      refine ⟨[some (.dat (.str x)), W, some (.dat (bI b))], ?_⟩
      simp [b_part]
    cases t with
    | K => exact ⟨fun p hp => (by cases b <;> cases hp), fun _ => leaf _ rfl⟩
    | S => exact ⟨fun p hp => (by cases b <;> cases hp), fun _ => leaf _ rfl⟩
    | nm x => exact ⟨fun p hp => (by cases b <;> cases hp), fun _ => leaf _ rfl⟩
    | ap a c =>
      cases b with
      | false =>
        have ih := part_loop h n W ob w a (some (.dat (bI false)))
        have r := r_is_within h n 0 0 1 ob
        have e : forLoop (.nm 2) b_part (sem T (n + 1)) ((false :: w).map bI) ⟨[some (.dat (tD (.ap a c))), W, o], ob⟩ = forLoop (.nm 2) b_part (sem T (n + 1)) (w.map bI) ⟨[some (.dat (tD a)), W, some (.dat (bI false))], ob⟩ := by
          rw [List.map_cons, x_for_cons]
          have eb : b_part (sem T (n + 1)) ⟨[some (.dat (tD (.ap a c))), W, some (.dat (bI false))], ob⟩ = .ok .nx ⟨[some (.dat (tD a)), W, some (.dat (bI false))], ob⟩ := by
            simp [b_part, bI, tD, r]
          simp only [x_tgPut_nm, x_put, List.set_cons_succ, List.set_cons_zero, eb]
          rfl
        rw [e]
        exact ⟨fun p hp => ih.1 p (by simpa only [partT] using hp), fun hp => ih.2 (by simpa only [partT] using hp)⟩
      | true =>
        have ih := part_loop h n W ob w c (some (.dat (bI true)))
        have r := r_is_within h n 1 0 1 ob
        have e : forLoop (.nm 2) b_part (sem T (n + 1)) ((true :: w).map bI) ⟨[some (.dat (tD (.ap a c))), W, o], ob⟩ = forLoop (.nm 2) b_part (sem T (n + 1)) (w.map bI) ⟨[some (.dat (tD c)), W, some (.dat (bI true))], ob⟩ := by
          rw [List.map_cons, x_for_cons]
          have eb : b_part (sem T (n + 1)) ⟨[some (.dat (tD (.ap a c))), W, some (.dat (bI true))], ob⟩ = .ok .nx ⟨[some (.dat (tD c)), W, some (.dat (bI true))], ob⟩ := by
            simp [b_part, bI, tD, r]
          simp only [x_tgPut_nm, x_put, List.set_cons_succ, List.set_cons_zero, eb]
          rfl
        rw [e]
        exact ⟨fun p hp => ih.1 p (by simpa only [partT] using hp), fun hp => ih.2 (by simpa only [partT] using hp)⟩
def oD : Option Tm → PyData
  | some t => tD t
  | none => .none
theorem r_part_at (H : HasSteps T) (t : Tm) (w : List Bool) (n : Nat) (ob : List Ob) : (sem T (n + 2)).run 20 [.dat (tD t), .dat (wD w)] ob = .ok (.dat (oD (partT t w))) ob := by
  rw [sem_run H.part_at]
  obtain ⟨h1, h2⟩ := part_loop H.is_within n (some (.dat (wD w))) ob w t none
  unfold runDef d_part_at
  unfold b_part at h1 h2
  cases e : partT t w with
  | some p =>
    obtain ⟨o', q⟩ := h1 p e
    simp [wD] at q
    simp [wD, q, oD]
  | none =>
    obtain ⟨l, q⟩ := h2 e
    simp [wD] at q
    simp [wD, q, oD]
theorem r_with_part (h : T 21 = some d_with_part) : ∀ (w : List Bool) (t o : Tm) (n : Nat) (ob : List Ob), (partT t w).isSome = true → w.length + 1 ≤ n → (sem T n).run 21 [.dat (tD t), .dat (wD w), .dat (tD o)] ob = .ok (.dat (tD (withT t w o))) ob
  | [], t, o, n, ob, _, hn => by
    obtain ⟨m, rfl⟩ : ∃ m, n = m + 1 := ⟨n - 1, by omega⟩
    rw [sem_run h]
    unfold runDef d_with_part
    simp [wD, PyData.eqv, withT, PyData.eqvAll]
  | b :: w, t, o, n, ob, hp, hn => by
    simp only [List.length_cons] at hn
    obtain ⟨m, rfl⟩ : ∃ m, n = m + 1 := ⟨n - 1, by omega⟩
    rw [sem_run h]
    cases t with
    | K => cases b <;> cases hp
    | S => cases b <;> cases hp
    | nm x => cases b <;> cases hp
    | ap a c =>
      cases b with
      | false =>
        have r := r_with_part h w a o m ob (by simpa only [partT] using hp) (by omega)
        simp [wD] at r
        unfold runDef d_with_part
        simp [wD, bI, PyData.eqv, PyData.eqvAll, tD, withT, r]
      | true =>
        have r := r_with_part h w c o m ob (by simpa only [partT] using hp) (by omega)
        simp [wD] at r
        unfold runDef d_with_part
        simp [wD, bI, PyData.eqv, PyData.eqvAll, tD, withT, r]
end
end CH

/-! CH16: steps, rows, play. -/
namespace CH
open PySem L2
theorem part_ok : ∀ (w : List Bool) (t p : Tm), partT t w = some p → t.ok = true → p.ok = true
  | [], t, p, h, ht => by unfold partT at h; cases h; exact ht
  | b :: w, t, p, h, ht => by
    cases t with
    | K => cases b <;> cases h
    | S => cases b <;> cases h
    | nm x => cases b <;> cases h
    | ap a c =>
      cases b with
      | false => exact part_ok w a p h (ap_ok ht).1
      | true => exact part_ok w c p h (ap_ok ht).2
theorem with_ok : ∀ (w : List Bool) (t o : Tm), t.ok = true → o.ok = true → (withT t w o).ok = true
  | [], t, o, h, ho => by unfold withT; exact ho
  | b :: w, t, o, h, ho => by
    cases t with
    | K => cases b <;> exact h
    | S => cases b <;> exact h
    | nm x => cases b <;> exact h
    | ap a c =>
      cases b with
      | false =>
        have := with_ok w a o (ap_ok h).1 ho
        simp [withT, Tm.ok, this, (ap_ok h).2]
      | true =>
        have := with_ok w c o (ap_ok h).2 ho
        simp [withT, Tm.ok, this, (ap_ok h).1]
theorem done_ok (t : Tm) (h : t.ok = true) : (doneT t).ok = true := by
  unfold doneT
  split
  · simp [Tm.ok] at h; exact h.1
  · simp [Tm.ok] at h ⊢
    exact ⟨⟨h.1.1, h.2⟩, h.1.2, h.2⟩
  · exact h
theorem step_ok (t : Tm) (w : List Bool) (h : t.ok = true) : (stepT t w).ok = true := by
  unfold stepT
  apply with_ok w t _ h
  apply done_ok
  cases e : partT t w with
  | none => exact h
  | some p => exact part_ok w t p e h
theorem part_len : ∀ (w : List Bool) (t p : Tm), partT t w = some p → w.length + p.dep ≤ t.dep
  | [], t, p, h => by unfold partT at h; cases h; simp
  | b :: w, t, p, h => by
    cases t with
    | K => cases b <;> cases h
    | S => cases b <;> cases h
    | nm x => cases b <;> cases h
    | ap a c =>
      cases b with
      | false => have := part_len w a p h; simp only [List.length_cons]; show _ ≤ max a.dep c.dep + 1; omega
      | true => have := part_len w c p h; simp only [List.length_cons]; show _ ≤ max a.dep c.dep + 1; omega
section
variable {T : Nat → Option FnDef}
theorem r_look_way (H : HasSteps T) (t : Tm) (w : List Bool) (p : Tm) (n : Nat) (ob : List Ob) (hok : t.ok = true) (hp : partT t w = some p) (hr : isRed p = true) : (sem T (n + 3)).run 22 [.dat (tD t), .dat (wD w)] ob = .ok (.dat (tD p)) ob := by
  rw [sem_run H.look_way]
  have r1 := r_part_at H t w n ob
  rw [hp] at r1
  have r2 := r_deed_of H.deed_of p (n + 1) ob (part_ok w t p hp hok)
  obtain ⟨d1, d2⟩ := deed_len p
  rw [hr] at d2
  have hn : isNone (tD p) = false := by cases p <;> rfl
  unfold runDef d_look_way
  simp [r1, oD, r2, d1, d2, hn]
theorem r_step_to (H : HasSteps T) (t : Tm) (w : List Bool) (p : Tm) (n : Nat) (ob : List Ob) (hok : t.ok = true) (hp : partT t w = some p) (hr : isRed p = true) (hn : w.length + 5 ≤ n) : (sem T n).run 23 [.dat (tD t), .dat (wD w)] ob = .ok (.dat (tD (stepT t w))) ob := by
  obtain ⟨m, rfl⟩ : ∃ m, n = (m + 3) + 1 := ⟨n - 4, by omega⟩
  rw [sem_run H.step_to]
  have r1 := r_look_way H t w p m ob hok hp hr
  have r2 := r_done H p (m + 1) ob (part_ok w t p hp hok) hr
  have r3 := r_with_part H.with_part w t (doneT p) (m + 3) ob (by rw [hp]; rfl) (by omega)
  unfold runDef d_step_to stepT
  simp [r1, r2, r3, hp]
def playT : Nat → Tm → Tm × List (List Bool)
  | 0, t => (t, [])
  | k + 1, t => match waysT t with
    | [] => (t, [])
    | w :: _ => if (stepT t w).lv ≤ 200 then let r := playT k (stepT t w); (r.1, w :: r.2) else (t, [])
def b_play : M Fl := sSeq (sAsg 3 (mCall 18 [mVar 0] [])) (sSeq (sIf (bOr (bNot (bTru (.pk 3))) (bNot (bTru (.ev (mCall 3 [mCall 23 [mVar 0, mBin (fun _ => vIdx) (.pk 3) (.ev (mCon (.int (0))))] []] []))))) (sRet (mTup [mVar 0, mVar 2])) sPass) (sSeq (sOwn 2 kApp [mBin (fun _ => vIdx) (.pk 3) (.ev (mCon (.int (0))))]) (sAsg 0 (mCall 23 [mVar 0, mBin (fun _ => vIdx) (.pk 3) (.ev (mCon (.int (0))))] []))))
def t_play : M Bool := bVal (mBin (oCmp .Lt) (.ev (mUn (fun _ => vLen) (.pk 2))) (.pk 1))
/-- the loop of play, to its return -/
theorem play_loop (H : HasSteps T) (n : Nat) (hn : 204 ≤ n) (mo : Nat) (hmo : mo ≤ 400) (ob : List Ob) : ∀ (k : Nat) (f : Nat) (t : Tm) (acc : List (List Bool)) (o : Option Val), k + acc.length = mo → k + 1 ≤ f → t.ok = true → t.lv ≤ 200 →
    fin ((sSeq (fun cs s => whileLoop t_play b_play cs f s) (sRet (mTup [mVar 0, mVar 2]))) (sem T n) ⟨[some (.dat (tD t)), some (.dat (.int mo)), some (.own (acc.map wD)), o], ob⟩) = .ok (.dat (.tuple [tD (playT k t).1, .list ((acc ++ (playT k t).2).map wD)])) ob
  | 0, f, t, acc, o, hk, hf, hok, hl => by
    obtain ⟨g, rfl⟩ : ∃ g, f = g + 1 := ⟨f - 1, by omega⟩
    have : ¬ ((acc.length : Int) < mo) := by omega
    simp [x_while_succ, t_play, this, playT]
  | k + 1, f, t, acc, o, hk, hf, hok, hl => by
    obtain ⟨g, rfl⟩ : ∃ g, f = g + 1 := ⟨f - 1, by omega⟩
    have hlt : ((acc.length : Int) < mo) := by omega
    have hd := t.dep_lv
    have r1 := r_ways_of H t n ob hok (by omega) (by omega)
    cases hw : waysT t with
    | nil =>
      rw [hw] at r1
      simp [x_while_succ, t_play, b_play, hlt, r1, playT, hw]
    | cons w ws =>
      rw [hw] at r1
      have hm : w ∈ waysT t := by rw [hw]; exact List.mem_cons_self
      obtain ⟨p, hp, hr⟩ := ways_part t w hm
      have hwl := ways_wlen t w hm
      have r2 := r_step_to H t w p n ob hok hp hr (by omega)
      have r3 := r_is_term H.toHasTerms (stepT t w) n ob (step_ok t w hok) (by omega)
      by_cases hs : (stepT t w).lv ≤ 200
      · have q := play_loop H n hn mo hmo ob k g (stepT t w) (acc ++ [w]) (some (.own ((w :: ws).map wD))) (by simp; omega) (by omega) (step_ok t w hok) hs
        have hb : acc.length < big := by unfold big; omega
        have eb : b_play (sem T n) ⟨[some (.dat (tD t)), some (.dat (.int mo)), some (.own (acc.map wD)), o], ob⟩ = .ok .nx ⟨[some (.dat (tD (stepT t w))), some (.dat (.int mo)), some (.own ((acc ++ [w]).map wD)), some (.own ((w :: ws).map wD))], ob⟩ := by
          simp [b_play, r1, r2, r3, hs, hb]
        have et : t_play (sem T n) ⟨[some (.dat (tD t)), some (.dat (.int mo)), some (.own (acc.map wD)), o], ob⟩ = .ok true ⟨[some (.dat (tD t)), some (.dat (.int mo)), some (.own (acc.map wD)), o], ob⟩ := by
          simp [t_play, hlt]
        rw [x_seq] at q ⊢
        rw [while_go g et eb]
        have e2 : playT (k + 1) t = ((playT k (stepT t w)).1, w :: (playT k (stepT t w)).2) := by
          show (match waysT t with | [] => _ | w :: _ => _) = _
          rw [hw]
          simp [hs]
        rw [e2]
        simp only [List.append_assoc, List.singleton_append] at q
        exact q
      · have e2 : playT (k + 1) t = (t, []) := by
          show (match waysT t with | [] => _ | w :: _ => _) = _
          rw [hw]
          simp [hs]
        simp [x_while_succ, t_play, b_play, hlt, r1, r2, r3, hs, e2]
theorem r_played (H : HasSteps T) (h : T 35 = some d_played) (t : Tm) (mo : Nat) (n : Nat) (ob : List Ob) (hok : t.ok = true) (hl : t.lv ≤ 200) (hmo : mo ≤ 400) (hn : 206 ≤ n) : (sem T n).run 35 [.dat (tD t), .dat (.int mo)] ob = .ok (.dat (.tuple [tD (playT mo t).1, .list ((playT mo t).2.map wD)])) ob := by
  obtain ⟨m, rfl⟩ : ∃ m, n = m + 1 := ⟨n - 1, by omega⟩
  obtain ⟨m0, hm0⟩ : ∃ m0, m = m0 + 1 := ⟨m - 1, by omega⟩
  rw [sem_run h]
  have r1 := r_checked H t m ob hok hl (by omega)
  have r2 := r_is_within H.is_within m0 mo 0 400 ob
  rw [← hm0] at r2
  have h1 : ((mo : Int) ≤ 400) := by omega
  have h0 : ((0 : Int) ≤ mo) := by omega
  have q := play_loop H m (by omega) mo hmo ob mo wFuel t [] none (by simp) (by unfold wFuel; omega) hok hl
  unfold d_played
  refine Eq.trans (runDef_fin _ _ _ _ _ _ rfl) ?_
  unfold t_play b_play at q
  simp [h0, h1] at r2
  simp at q
  simp [r1, r2]
  exact q
end
end CH

/-! CH17: rows led, numbers, counting. -/
namespace CH
open PySem L2
def d_number_term : FnDef := ⟨1, 3, sSeq (sIf (bNot (bTru (.ev (mCall 14 [mVar 0, mCon (.int (0)), mCon (.int (12))] [])))) (sRaise 4) sPass) (sSeq (sAsg 1 (mTup [mCon (.str "K"), mCon (.tuple [.tuple [.str "S", .str "K"], .str "K"])])) (sSeq (sFor (.range1 (mVar 0)) (.nm 2) (sAsg 1 (mTup [mCon (.tuple [.str "S", .tuple [.tuple [.str "S", .tuple [.str "K", .str "S"]], .str "K"]]), mVar 1]))) (sRet (mVar 1))))⟩
def d_more : FnDef := ⟨0, 0, sRet (mCon (.tuple [.str "S", .tuple [.tuple [.str "S", .tuple [.str "K", .str "S"]], .str "K"]]))⟩
def d_plus : FnDef := ⟨0, 0, sRet (mCon (.tuple [.tuple [.str "S", .tuple [.tuple [.str "S", .str "K"], .str "K"]], .tuple [.str "K", .tuple [.str "S", .tuple [.tuple [.str "S", .tuple [.str "K", .str "S"]], .str "K"]]]]))⟩
def d_times : FnDef := ⟨0, 0, sRet (mCon (.tuple [.tuple [.str "S", .tuple [.str "K", .str "S"]], .str "K"]))⟩
def d_counted : FnDef := ⟨2, 4, sSeq (sExpr (mCall 4 [mVar 0] [])) (sSeq (sIf (bNot (bTru (.ev (mCall 14 [mVar 1, mCon (.int (0)), mCon (.int (400))] [])))) (sRaise 4) sPass) (sSeq (sAsg 2 (mBin (fun _ => vIdx) (.ev (mCall 35 [mCall 15 [mTup [mTup [mVar 0, mCon (.str "f")], mCon (.str "x")]] [], mVar 1] [])) (.ev (mCon (.int (0)))))) (sSeq (sAsg 3 (mCon (.int (0)))) (sSeq (sWhile (bAnd (bTru (.ev (mUn (oIsa .tuple) (.pk 2)))) (bVal (mBin (oCmp .Eq) (.ev (mBin (fun _ => vIdx) (.pk 2) (.ev (mCon (.int (0)))))) (.ev (mCon (.str "f")))))) (sSeq (sAug 3 (mCon (.int (1)))) (sAsg 2 (mBin (fun _ => vIdx) (.pk 2) (.ev (mCon (.int (1)))))))) (sRet (mIf (bVal (mBin (oCmp .Eq) (.pk 2) (.ev (mCon (.str "x"))))) (mVar 3) (mCon (.none))))))))⟩
section
variable {T : Nat → Option FnDef}
/-! ### numbers -/
theorem small62_of {i : Int} (h0 : 0 ≤ i) (h1 : i ≤ 1000000) : small62 i = true := by
  unfold small62
  exact Nat.ble_eq_true_of_le (by omega)
theorem i_range1 {f : M Val} {cs : Cs} {s s1 : S} {j : Nat} (hf : f cs s = .ok (.dat (.int j)) s1) (hj : j ≤ 1000000) : itemsOf (.range1 f) cs s = .ok (nums 0 j) s1 := by
  rw [x_i_range1, x_args_cons, hf]
  show givI s1 (if small62 j then some (nums 0 (Int.toNat j)) else none) = _
  rw [if_pos (small62_of (by omega) (by omega)), Int.toNat_natCast]
  rfl
theorem play_ok : ∀ (k : Nat) (t : Tm), t.ok = true → t.lv ≤ 200 → (playT k t).1.ok = true ∧ (playT k t).1.lv ≤ 200
  | 0, t, h, hl => ⟨h, hl⟩
  | k + 1, t, h, hl => by
    unfold playT
    cases hw : waysT t with
    | nil => exact ⟨h, hl⟩
    | cons w ws =>
      by_cases hs : (stepT t w).lv ≤ 200
      · simp only [hs, if_true]
        exact play_ok k (stepT t w) (step_ok t w h) hs
      · simp only [hs, if_false]
        exact ⟨h, hl⟩
end
end CH

/-! CH18: what all laws share: cells, rows, names. -/
namespace CH
open PySem L2
def d__law_cell : FnDef := ⟨2, 2, sSeq (sIf (bVal (mBin (oCmp .Lt) (.pk 1) (.ev (mUn (fun _ => vLen) (.pk 0))))) (sRet (mBin (fun _ => vIdx) (.pk 0) (.pk 1))) sPass) (sRet (mCon (.int (0))))⟩
def d__law_row : FnDef := ⟨2, 5, sSeq (sAsg 2 (mCall 200 [mVar 0, mVar 1] [])) (sSeq (sAsg 3 (mLst [])) (sSeq (sFor (.range1 (mCon (.int (60)))) (.nm 4) (sIf (bVal (mBin (oCmp .Lt) (.ev (mCall 200 [mVar 0, mVar 1] [])) (.ev (mBin (fun _ => vBin .Pow) (.ev (mCon (.int (10)))) (.ev (mCon (.int (18)))))))) (sSeq (sAsg 2 (mBin (fun _ => vBin .Mod) (.ev (mBin (fun _ => vBin .Add) (.ev (mBin (fun _ => vBin .Add) (.ev (mBin (fun _ => vBin .Add) (.ev (mBin (fun _ => vBin .Mult) (.pk 2) (.ev (mCon (.int (48271)))))) (.ev (mBin (fun _ => vBin .Mult) (.ev (mCon (.int (131)))) (.pk 4))))) (.ev (mCon (.int (7)))))) (.ev (mCall 200 [mVar 0, mBin (fun _ => vBin .Mod) (.ev (mBin (fun _ => vBin .Add) (.ev (mBin (fun _ => vBin .Add) (.pk 1) (.ev (mCon (.int (1)))))) (.pk 4))) (.ev (mCon (.int (20))))] [])))) (.ev (mCon (.int (2147483647)))))) (sOwn 3 kApp [mBin (fun _ => vBin .Mod) (.ev (mBin (fun _ => vBin .FloorDiv) (.pk 2) (.ev (mCon (.int (11)))))) (.ev (mCon (.int (1000))))])) (sSeq (sOwn 3 kApp [mBin (fun _ => vBin .Mod) (.pk 2) (.ev (mCon (.int (1000))))]) (sAsg 2 (mBin (fun _ => vBin .FloorDiv) (.pk 2) (.ev (mCon (.int (1000))))))))) (sRet (mVar 3))))⟩
def d__law_name : FnDef := ⟨1, 1, sSeq (sIf (bVal (mBin (oCmp .Gt) (.ev (mBin (fun _ => vBin .Mod) (.pk 0) (.ev (mCon (.int (5)))))) (.ev (mCon (.int (0)))))) (sRet (mBin (fun _ => vIdx) (.ev (mLst [mCon (.str "x"), mCon (.str "y"), mCon (.str "z"), mCon (.str "f")])) (.ev (mBin (fun _ => vBin .Mod) (.ev (mBin (fun _ => vBin .FloorDiv) (.pk 0) (.ev (mCon (.int (5)))))) (.ev (mCon (.int (4)))))))) sPass) (sRet (mBin (fun _ => vBin .Mult) (.ev (mBin (fun _ => vIdx) (.ev (mCon (.str "abcdefghijklmnopqrstuvwxyz"))) (.ev (mBin (fun _ => vBin .Mod) (.ev (mBin (fun _ => vBin .FloorDiv) (.pk 0) (.ev (mCon (.int (5)))))) (.ev (mCon (.int (26)))))))) (.ev (mBin (fun _ => vBin .Add) (.ev (mCon (.int (1)))) (.ev (mBin (fun _ => vBin .Mod) (.ev (mBin (fun _ => vBin .FloorDiv) (.pk 0) (.ev (mCon (.int (130)))))) (.ev (mCon (.int (3))))))))))⟩
structure HasRow (T : Nat → Option FnDef) : Prop where
  cell : T 200 = some d__law_cell
  row : T 201 = some d__law_row
  name : T 202 = some d__law_name
section
variable {T : Nat → Option FnDef}
def cellOf (ns : List Int) (k : Int) : Int := ns.getD k.toNat 0
theorem r_cell (h : T 200 = some d__law_cell) (ns : List Int) (k : Int) (h0 : 0 ≤ k) (n : Nat) (ob : List Ob) : (sem T (n + 1)).run 200 [.scr ns, .dat (.int k)] ob = .ok (.dat (.int (cellOf ns k))) ob := by
  rw [sem_run h]
  unfold d__law_cell
  refine Eq.trans (runDef_fin _ _ _ _ _ _ rfl) ?_
  by_cases hk : k < ns.length
  · have e : atI ns k = some (cellOf ns k) := atI_of h0 (by
      have : k.toNat < ns.length := by omega
      unfold cellOf
      rw [List.getD_eq_getElem?_getD, List.getElem?_eq_getElem this]
      rfl)
    simp [hk, e]
  · have : ns.length ≤ k.toNat := by omega
    have e : cellOf ns k = 0 := by
      unfold cellOf
      rw [List.getD_eq_getElem?_getD, List.getElem?_eq_none this]
      rfl
    simp [hk, e]
def b_row : M Fl := sIf (bVal (mBin (oCmp .Lt) (.ev (mCall 200 [mVar 0, mVar 1] [])) (.ev (mBin (fun _ => vBin .Pow) (.ev (mCon (.int (10)))) (.ev (mCon (.int (18)))))))) (sSeq (sAsg 2 (mBin (fun _ => vBin .Mod) (.ev (mBin (fun _ => vBin .Add) (.ev (mBin (fun _ => vBin .Add) (.ev (mBin (fun _ => vBin .Add) (.ev (mBin (fun _ => vBin .Mult) (.pk 2) (.ev (mCon (.int (48271)))))) (.ev (mBin (fun _ => vBin .Mult) (.ev (mCon (.int (131)))) (.pk 4))))) (.ev (mCon (.int (7)))))) (.ev (mCall 200 [mVar 0, mBin (fun _ => vBin .Mod) (.ev (mBin (fun _ => vBin .Add) (.ev (mBin (fun _ => vBin .Add) (.pk 1) (.ev (mCon (.int (1)))))) (.pk 4))) (.ev (mCon (.int (20))))] [])))) (.ev (mCon (.int (2147483647)))))) (sOwn 3 kApp [mBin (fun _ => vBin .Mod) (.ev (mBin (fun _ => vBin .FloorDiv) (.pk 2) (.ev (mCon (.int (11)))))) (.ev (mCon (.int (1000))))])) (sSeq (sOwn 3 kApp [mBin (fun _ => vBin .Mod) (.pk 2) (.ev (mCon (.int (1000))))]) (sAsg 2 (mBin (fun _ => vBin .FloorDiv) (.pk 2) (.ev (mCon (.int (1000)))))))
theorem row_step (h : T 200 = some d__law_cell) (ns : List Int) (a : Int) (h0 : 0 ≤ a) (n : Nat) (ob : List Ob) (c : Int) (acc : List Int) (hacc : acc.length ≤ 1000) (t : Nat) : ∃ c' r : Int, (0 ≤ r ∧ r < 1000) ∧ b_row (sem T (n + 1)) ⟨[some (.scr ns), some (.dat (.int a)), some (.dat (.int c)), some (.own (acc.map .int)), some (.dat (.int t))], ob⟩ = .ok .nx ⟨[some (.scr ns), some (.dat (.int a)), some (.dat (.int c')), some (.own ((acc ++ [r]).map .int)), some (.dat (.int t))], ob⟩ := by
  have r1 := r_cell h ns a h0 n ob
  have r2 := r_cell h ns ((a + 1 + t) % 20) (by omega) n ob
  have hb : acc.length < big := by unfold big; omega
  by_cases hc : cellOf ns a < 1000000000000000000
  · refine ⟨(c * 48271 + 131 * t + 7 + cellOf ns ((a + 1 + t) % 20)) % 2147483647, ((c * 48271 + 131 * t + 7 + cellOf ns ((a + 1 + t) % 20)) % 2147483647) / 11 % 1000, ⟨by omega, by omega⟩, ?_⟩
    simp [b_row, r1, r2, hc, hb]
  · refine ⟨c / 1000, c % 1000, ⟨by omega, by omega⟩, ?_⟩
    simp [b_row, r1, hc, hb]
theorem row_loop (h : T 200 = some d__law_cell) (ns : List Int) (a : Int) (h0 : 0 ≤ a) (n : Nat) (ob : List Ob) : ∀ (m j : Nat) (c : Int) (acc : List Int) (o : Option Val), acc.length + m ≤ 1000 → (∀ r ∈ acc, 0 ≤ r ∧ r < 1000) → ∃ (c' : Int) (rs : List Int) (o' : Option Val), rs.length = acc.length + m ∧ (∀ r ∈ rs, 0 ≤ r ∧ r < 1000) ∧ forLoop (.nm 4) b_row (sem T (n + 1)) ((List.range' j m).map fun (z : Nat) => PyData.int (0 + z)) ⟨[some (.scr ns), some (.dat (.int a)), some (.dat (.int c)), some (.own (acc.map .int)), o], ob⟩ = .ok .nx ⟨[some (.scr ns), some (.dat (.int a)), some (.dat (.int c')), some (.own (rs.map .int)), o'], ob⟩
  | 0, j, c, acc, o, hl, hacc => ⟨c, acc, o, rfl, hacc, rfl⟩
  | m + 1, j, c, acc, o, hl, hacc => by
    obtain ⟨c1, r, hr, e⟩ := row_step h ns a h0 n ob c acc (by omega) j
    obtain ⟨c', rs, o', e1, e2, e3⟩ := row_loop h ns a h0 n ob m (j + 1) c1 (acc ++ [r]) (some (.dat (.int j))) (by simp; omega) (by
      intro z hz
      rcases List.mem_append.mp hz with hz | hz
      · exact hacc z hz
      · rw [List.mem_singleton.mp hz]; exact hr)
    refine ⟨c', rs, o', by rw [e1]; simp; omega, e2, ?_⟩
    rw [List.range'_succ, List.map_cons, x_for_cons]
    have ez : (0 + (j : Int)) = j := by omega
    simp only [ez, x_tgPut_nm, x_put, List.set_cons_succ, List.set_cons_zero, e]
    exact e3
theorem r_row (H : HasRow T) (ns : List Int) (a : Int) (h0 : 0 ≤ a) (n : Nat) (ob : List Ob) : ∃ rs : List Int, rs.length = 60 ∧ (∀ r ∈ rs, 0 ≤ r ∧ r < 1000) ∧ (sem T (n + 2)).run 201 [.scr ns, .dat (.int a)] ob = .ok (.dat (.list (rs.map .int))) ob := by
  have r1 := r_cell H.cell ns a h0 n ob
  obtain ⟨c', rs, o', e1, e2, e3⟩ := row_loop H.cell ns a h0 n ob 60 0 (cellOf ns a) [] none (by simp) (fun r hr => by cases hr)
  refine ⟨rs, by simpa using e1, e2, ?_⟩
  rw [sem_run H.row]
  unfold d__law_row
  refine Eq.trans (runDef_fin _ _ _ _ _ _ rfl) ?_
  have hi : itemsOf (.range1 (mCon (.int 60))) (sem T (n + 1)) ⟨[some (.scr ns), some (.dat (.int a)), some (.dat (.int (cellOf ns a))), some (.own []), none], ob⟩ = .ok (nums 0 60) ⟨[some (.scr ns), some (.dat (.int a)), some (.dat (.int (cellOf ns a))), some (.own []), none], ob⟩ := i_range1 (j := 60) rfl (by omega)
  unfold b_row at e3
  rw [← List.range_eq_range'] at e3
  have en : nums 0 60 = (List.range 60).map fun (z : Nat) => PyData.int (0 + z) := rfl
  rw [← en, List.map_nil] at e3
  simp [-x_i_range1, r1, hi, e3]
def lets : List Nat := [97, 98, 99, 100, 101, 102, 103, 104, 105, 106, 107, 108, 109, 110, 111, 112, 113, 114, 115, 116, 117, 118, 119, 120, 121, 122]
def fourN : List Str := ["x", "y", "z", "f"]
def nameOf (i : Nat) : Str := if 0 < i % 5 then fourN.getD (i / 5 % 4) "x" else rep (1 + i / 130 % 3) ⟨#[lets.getD (i / 5 % 26) 97]⟩
theorem name_ok : ∀ i, i < 1000 → isNm (nameOf i) = true := by
  have h : ((List.range 1000).all fun i => isNm (nameOf i)) = true := by decide +kernel
  intro i hi
  exact List.all_eq_true.mp h i (List.mem_range.mpr hi)
theorem r_name (h : T 202 = some d__law_name) (i : Nat) (n : Nat) (ob : List Ob) : (sem T (n + 1)).run 202 [.dat (.int i)] ob = .ok (.dat (.str (nameOf i))) ob := by
  rw [sem_run h]
  unfold d__law_name
  refine Eq.trans (runDef_fin _ _ _ _ _ _ rfl) ?_
  unfold nameOf
  by_cases h5 : 0 < i % 5
  · have h5' : (0 : Int) < (i : Int) % 5 := by omega
    have e : atI [PyData.str "x", PyData.str "y", PyData.str "z", PyData.str "f"] ((i : Int) / 5 % 4) = some (.str (fourN.getD (i / 5 % 4) "x")) := by
      apply atI_of (by omega)
      have e1 : ((i : Int) / 5 % 4).toNat = i / 5 % 4 := by omega
      have e2 : i / 5 % 4 < 4 := by omega
      rw [e1]
      generalize i / 5 % 4 = j at e2
      match j, e2 with
      | 0, _ => rfl
      | 1, _ => rfl
      | 2, _ => rfl
      | 3, _ => rfl
    simp [h5, h5', e]
  · have h5' : ¬ (0 : Int) < (i : Int) % 5 := by omega
    have e : atI ("abcdefghijklmnopqrstuvwxyz" : Str).cps.toList ((i : Int) / 5 % 26) = some (lets.getD (i / 5 % 26) 97) := by
      apply atI_of (by omega)
      have e1 : ((i : Int) / 5 % 26).toNat = i / 5 % 26 := by omega
      have e2 : i / 5 % 26 < lets.length := by show _ < 26; omega
      rw [e1, alpha_cps]
      show lets[i / 5 % 26]? = _
      rw [List.getD_eq_getElem?_getD, List.getElem?_eq_getElem e2]
      rfl
    have hl : ("abcdefghijklmnopqrstuvwxyz" : Str).length ≤ big := by decide +kernel
    have h1 : (0 : Int) ≤ 1 + (i : Int) / 130 % 3 := by omega
    have h2 : 1 + (i : Int) / 130 % 3 ≤ 1000 := by omega
    have h3 : (1 + (i : Int) / 130 % 3).toNat = 1 + i / 130 % 3 := by omega
    have h4 : ∀ c : Nat, (⟨#[c]⟩ : Str).length ≤ 1000 := fun c => by show 1 ≤ 1000; omega
    simp [h5, h5', hl, e, h1, h2, h3, h4]
end
end CH

/-! CH19: refusals of terms.py and steps.py; leaves, a step; law helpers on terms. -/
namespace CH
open PySem L2
def d_leaves : FnDef := ⟨1, 1, sRet (mBin (fun _ => vBin .Sub) (.ev (mCon (.int (200)))) (.ev (mCall 2 [mCall 4 [mVar 0] [], mCon (.int (200))] [])))⟩
def d_stepped : FnDef := ⟨2, 2, sRet (mCall 15 [mCall 23 [mCall 4 [mVar 0] [], mVar 1] []] [])⟩
def d__law_leaf : FnDef := ⟨1, 1, sSeq (sIf (bVal (mBin (oCmp .Lt) (.ev (mBin (fun _ => vBin .Mod) (.pk 0) (.ev (mCon (.int (3)))))) (.ev (mCon (.int (2)))))) (sRet (mBin (fun _ => vIdx) (.ev (mCon (.str "KS"))) (.ev (mBin (fun _ => vBin .Mod) (.pk 0) (.ev (mCon (.int (3)))))))) sPass) (sRet (mCall 202 [mBin (fun _ => vBin .FloorDiv) (.pk 0) (.ev (mCon (.int (3))))] []))⟩
def d__law_leaves : FnDef := ⟨1, 1, sSeq (sIf (bTru (.ev (mUn (oIsa .str) (.pk 0)))) (sRet (mCon (.int (1)))) sPass) (sRet (mBin (fun _ => vBin .Add) (.ev (mCall 206 [mBin (fun _ => vIdx) (.pk 0) (.ev (mCon (.int (0))))] [])) (.ev (mCall 206 [mBin (fun _ => vIdx) (.pk 0) (.ev (mCon (.int (1))))] []))))⟩
section
variable {T : Nat → Option FnDef}
theorem bad_looked (H : HasSteps T) (t : Tm) (n : Nat) (ob : List Ob) (hok : t.ok = true) (hl : 200 < t.lv) (hn : 205 ≤ n) : (sem T n).run 15 [.dat (tD t)] ob = .ex ⟨9, none⟩ ob := by
  obtain ⟨m, rfl⟩ : ∃ m, n = m + 1 := ⟨n - 1, by omega⟩
  rw [sem_run H.looked]
  have r := r_is_term H.toHasTerms t m ob hok (by omega)
  have hl' : ¬ t.lv ≤ 200 := by omega
  unfold d_looked
  refine Eq.trans (runDef_fin _ _ _ _ _ _ rfl) ?_
  simp [r, hl']
theorem r_leaves (H : HasSteps T) (h : T 5 = some d_leaves) (t : Tm) (n : Nat) (ob : List Ob) (hok : t.ok = true) (hl : t.lv ≤ 200) (hn : 206 ≤ n) : (sem T n).run 5 [.dat (tD t)] ob = .ok (.dat (.int t.lv)) ob := by
  obtain ⟨m, rfl⟩ : ∃ m, n = m + 1 := ⟨n - 1, by omega⟩
  rw [sem_run h]
  have r1 := r_checked H t m ob hok hl (by omega)
  have r2 := r_left_of H.toHasTerms t 200 m ob hok (by omega)
  rw [leftT_eq t 200 (by omega), if_pos (by omega)] at r2
  have e : (200 : Int) - (200 - t.lv) = t.lv := by omega
  unfold d_leaves
  refine Eq.trans (runDef_fin _ _ _ _ _ _ rfl) ?_
  simp [r1, r2, e]
/-! ### law helpers -/
def leafN (i : Nat) : Tm := if i % 3 = 0 then .K else if i % 3 = 1 then .S else .nm (nameOf (i / 3))
theorem leafN_ok (i : Nat) (h : i < 3000) : (leafN i).ok = true := by
  unfold leafN
  split
  · rfl
  · split
    · rfl
    · exact name_ok _ (by omega)
theorem leafN_lv (i : Nat) : (leafN i).lv = 1 := by
  unfold leafN
  split
  · rfl
  · split <;> rfl
theorem ks0 : ("KS" : Str).cps.toList = [75, 83] := by decide +kernel
theorem K_eq : (⟨#[75]⟩ : Str) = ("K" : Str) := by decide +kernel
theorem S_eq : (⟨#[83]⟩ : Str) = ("S" : Str) := by decide +kernel
theorem r_law_leaf (h2 : T 202 = some d__law_name) (h : T 203 = some d__law_leaf) (i : Nat) (n : Nat) (ob : List Ob) : (sem T (n + 2)).run 203 [.dat (.int i)] ob = .ok (.dat (tD (leafN i))) ob := by
  rw [sem_run h]
  have hl : ("KS" : Str).length ≤ big := by decide +kernel
  have r := r_name h2 (i / 3) n ob
  have e3 : ((i / 3 : Nat) : Int) = (i : Int) / 3 := by omega
  rw [e3] at r
  unfold d__law_leaf
  refine Eq.trans (runDef_fin _ _ _ _ _ _ rfl) ?_
  unfold leafN
  have h3 : i % 3 = 0 ∨ i % 3 = 1 ∨ i % 3 = 2 := by omega
  rcases h3 with h3 | h3 | h3
  · have e : (i : Int) % 3 = 0 := by omega
    simp [e, h3, hl, ks0, K_eq, tD]
  · have e : (i : Int) % 3 = 1 := by omega
    simp [e, h3, hl, ks0, S_eq, tD]
  · have e : (i : Int) % 3 = 2 := by omega
    simp [e, h3, r, tD]
theorem r_law_leaves (h : T 206 = some d__law_leaves) : ∀ (t : Tm) (n : Nat) (ob : List Ob), t.dep + 1 ≤ n → (sem T n).run 206 [.dat (tD t)] ob = .ok (.dat (.int t.lv)) ob := by
  intro t
  have leaf : ∀ t : Tm, (∀ a b, t ≠ .ap a b) → ∀ (n : Nat) (ob : List Ob), 1 ≤ n → (sem T n).run 206 [.dat (tD t)] ob = .ok (.dat (.int t.lv)) ob := by
    intro t ht n ob hn
    obtain ⟨m, rfl⟩ : ∃ m, n = m + 1 := ⟨n - 1, by omega⟩
    rw [sem_run h]
    obtain ⟨x, e⟩ := tD_leaf ht
    have : t.lv = 1 := by cases t <;> first | rfl | exact absurd rfl (ht _ _)
    unfold d__law_leaves
    refine Eq.trans (runDef_fin _ _ _ _ _ _ rfl) ?_
    simp [e, this]
  induction t with
  | K => exact fun n ob h => leaf .K (fun a b z => by cases z) n ob (by omega)
  | S => exact fun n ob h => leaf .S (fun a b z => by cases z) n ob (by omega)
  | nm x => exact fun n ob h => leaf (.nm x) (fun a b z => by cases z) n ob (by omega)
  | ap a b iha ihb =>
    intro n ob hn
    obtain ⟨m, rfl⟩ : ∃ m, n = m + 1 := ⟨n - 1, by omega⟩
    have hd : max a.dep b.dep + 1 + 1 ≤ m + 1 := hn
    have r1 := iha m ob (by omega)
    have r2 := ihb m ob (by omega)
    rw [sem_run h]
    unfold d__law_leaves
    refine Eq.trans (runDef_fin _ _ _ _ _ _ rfl) ?_
    simp [tD, r1, r2, Tm.lv]
end
end CH

/-! CH20: the laws' own steps. -/
namespace CH
open PySem L2
def d__law_part : FnDef := ⟨2, 3, sSeq (sFor (.seq (mVar 1)) (.nm 2) (sAsg 0 (mBin (fun _ => vIdx) (.pk 0) (.pk 2)))) (sRet (mVar 0))⟩
def d__law_with : FnDef := ⟨3, 3, sSeq (sIf (bVal (mBin (oCmp .Eq) (.pk 1) (.ev (mTup [])))) (sRet (mVar 2)) sPass) (sSeq (sIf (bVal (mBin (oCmp .Eq) (.ev (mBin (fun _ => vIdx) (.pk 1) (.ev (mCon (.int (0)))))) (.ev (mCon (.int (0)))))) (sRet (mTup [mCall 210 [mBin (fun _ => vIdx) (.pk 0) (.ev (mCon (.int (0)))), mSl (.pk 1) (some (mCon (.int (1)))) none, mVar 2] [], mBin (fun _ => vIdx) (.pk 0) (.ev (mCon (.int (1))))])) sPass) (sRet (mTup [mBin (fun _ => vIdx) (.pk 0) (.ev (mCon (.int (0)))), mCall 210 [mBin (fun _ => vIdx) (.pk 0) (.ev (mCon (.int (1)))), mSl (.pk 1) (some (mCon (.int (1)))) none, mVar 2] []])))⟩
def d__law_deed : FnDef := ⟨3, 4, sSeq (sAsg 3 (mCon (.int (0)))) (sSeq (sWhile (bTru (.ev (mUn (oIsa .tuple) (.pk 0)))) (sSeq (sAsg 3 (mBin (fun _ => vBin .Add) (.pk 3) (.ev (mCon (.int (1)))))) (sAsg 0 (mBin (fun _ => vIdx) (.pk 0) (.ev (mCon (.int (0)))))))) (sSeq (sIf (bAnd (bVal (mBin (oCmp .Eq) (.pk 0) (.pk 1))) (bVal (mBin (oCmp .Eq) (.pk 3) (.ev (mCon (.int (2))))))) (sRet (mCon (.int (2)))) sPass) (sRet (mIf (bAnd (bVal (mBin (oCmp .Eq) (.pk 0) (.pk 2))) (bVal (mBin (oCmp .Eq) (.pk 3) (.ev (mCon (.int (3))))))) (mCon (.int (3))) (mCon (.int (0)))))))⟩
def d__law_step : FnDef := ⟨2, 4, sSeq (sAsg 2 (mCall 217 [mVar 0, mVar 1] [])) (sSeq (sIf (bVal (mBin (oCmp .Eq) (.ev (mCall 218 [mVar 2, mCon (.str "K"), mCon (.str "S")] [])) (.ev (mCon (.int (2)))))) (sRet (mCall 210 [mVar 0, mVar 1, mBin (fun _ => vIdx) (.ev (mBin (fun _ => vIdx) (.pk 2) (.ev (mCon (.int (0)))))) (.ev (mCon (.int (1))))] [])) sPass) (sSeq (sAsg 3 (mBin (fun _ => vIdx) (.pk 2) (.ev (mCon (.int (1)))))) (sRet (mCall 210 [mVar 0, mVar 1, mTup [mTup [mBin (fun _ => vIdx) (.ev (mBin (fun _ => vIdx) (.ev (mBin (fun _ => vIdx) (.pk 2) (.ev (mCon (.int (0)))))) (.ev (mCon (.int (0)))))) (.ev (mCon (.int (1)))), mVar 3], mTup [mBin (fun _ => vIdx) (.ev (mBin (fun _ => vIdx) (.pk 2) (.ev (mCon (.int (0)))))) (.ev (mCon (.int (1)))), mVar 3]]] []))))⟩
structure HasLawSteps (T : Nat → Option FnDef) : Prop where
  lwith : T 210 = some d__law_with
  lpart : T 217 = some d__law_part
  ldeed : T 218 = some d__law_deed
  lstep : T 220 = some d__law_step
/-! ### equality of terms -/
theorem tD_eqv : ∀ (a b : Tm), a.ok = true → b.ok = true → (tD a).eqv (tD b) = decide (a = b) := by
  intro a
  induction a with
  | K =>
    intro b _ hb
    cases b with
    | K => decide +kernel
    | S => decide +kernel
    | nm x =>
      have e := (nm_ne hb).1
      have : (("K" : Str) == x) = false := by
        cases q : ("K" : Str) == x with
        | false => rfl
        | true => rw [eq_of_beq q] at e; simp at e
      simp [tD, PyData.eqv, this]
    | ap c d => rfl
  | S =>
    intro b _ hb
    cases b with
    | K => decide +kernel
    | S => decide +kernel
    | nm x =>
      have e := (nm_ne hb).2
      have : (("S" : Str) == x) = false := by
        cases q : ("S" : Str) == x with
        | false => rfl
        | true => rw [eq_of_beq q] at e; simp at e
      simp [tD, PyData.eqv, this]
    | ap c d => rfl
  | nm y =>
    intro b ha hb
    cases b with
    | K => simp [tD, PyData.eqv, (nm_ne ha).1]
    | S => simp [tD, PyData.eqv, (nm_ne ha).2]
    | nm x =>
      simp only [tD, PyData.eqv, Tm.nm.injEq]
      cases q : y == x with
      | true => simp [eq_of_beq q]
      | false =>
        have : y ≠ x := fun z => by rw [z] at q; simp at q
        simp [this]
    | ap c d => rfl
  | ap p q ihp ihq =>
    intro b ha hb
    cases b with
    | K => rfl
    | S => rfl
    | nm x => rfl
    | ap c d =>
      have h1 := ihp c (ap_ok ha).1 (ap_ok hb).1
      have h2 := ihq d (ap_ok ha).2 (ap_ok hb).2
      simp only [tD, PyData.eqv, PyData.eqvAll, h1, h2, Tm.ap.injEq, Bool.and_true]
      rw [Bool.decide_and]
section
variable {T : Nat → Option FnDef}
theorem lpart_loop (cs : Cs) (W : Option Val) (ob : List Ob) : ∀ (w : List Bool) (t p : Tm) (o : Option Val), partT t w = some p → ∃ o', forLoop (.nm 2) (sAsg 0 (mBin (fun _ => vIdx) (.pk 0) (.pk 2))) cs (w.map bI) ⟨[some (.dat (tD t)), W, o], ob⟩ = .ok .nx ⟨[some (.dat (tD p)), W, o'], ob⟩
  | [], t, p, o, h => by unfold partT at h; cases h; exact ⟨o, rfl⟩
  | b :: w, t, p, o, h => by
    cases t with
    | K => cases b <;> cases h
    | S => cases b <;> cases h
    | nm x => cases b <;> cases h
    | ap a c =>
      cases b with
      | false =>
        obtain ⟨o', q⟩ := lpart_loop cs W ob w a p (some (.dat (bI false))) h
        refine ⟨o', ?_⟩
        rw [List.map_cons, x_for_cons]
        simp [bI, tD] at q ⊢
        exact q
      | true =>
        obtain ⟨o', q⟩ := lpart_loop cs W ob w c p (some (.dat (bI true))) h
        refine ⟨o', ?_⟩
        rw [List.map_cons, x_for_cons]
        simp [bI, tD] at q ⊢
        exact q
theorem r_lpart (h : T 217 = some d__law_part) (t p : Tm) (w : List Bool) (hp : partT t w = some p) (n : Nat) (ob : List Ob) : (sem T (n + 1)).run 217 [.dat (tD t), .dat (wD w)] ob = .ok (.dat (tD p)) ob := by
  rw [sem_run h]
  obtain ⟨o', q⟩ := lpart_loop (sem T n) (some (.dat (wD w))) ob w t p none hp
  unfold d__law_part
  refine Eq.trans (runDef_fin _ _ _ _ _ _ rfl) ?_
  have e : wD w = .tuple (w.map bI) := rfl
  rw [e] at q ⊢
  simp [q]
theorem r_lwith (h : T 210 = some d__law_with) : ∀ (w : List Bool) (t o : Tm) (n : Nat) (ob : List Ob), (partT t w).isSome = true → w.length + 1 ≤ n → (sem T n).run 210 [.dat (tD t), .dat (wD w), .dat (tD o)] ob = .ok (.dat (tD (withT t w o))) ob
  | [], t, o, n, ob, _, hn => by
    obtain ⟨m, rfl⟩ : ∃ m, n = m + 1 := ⟨n - 1, by omega⟩
    rw [sem_run h]
    unfold d__law_with
    refine Eq.trans (runDef_fin _ _ _ _ _ _ rfl) ?_
    simp [wD, PyData.eqv, withT, PyData.eqvAll]
  | b :: w, t, o, n, ob, hp, hn => by
    simp only [List.length_cons] at hn
    obtain ⟨m, rfl⟩ : ∃ m, n = m + 1 := ⟨n - 1, by omega⟩
    rw [sem_run h]
    cases t with
    | K => cases b <;> cases hp
    | S => cases b <;> cases hp
    | nm x => cases b <;> cases hp
    | ap a c =>
      cases b with
      | false =>
        have r := r_lwith h w a o m ob (by simpa only [partT] using hp) (by omega)
        simp [wD] at r
        unfold d__law_with
        refine Eq.trans (runDef_fin _ _ _ _ _ _ rfl) ?_
        simp [wD, bI, PyData.eqv, PyData.eqvAll, tD, withT, r]
      | true =>
        have r := r_lwith h w c o m ob (by simpa only [partT] using hp) (by omega)
        simp [wD] at r
        unfold d__law_with
        refine Eq.trans (runDef_fin _ _ _ _ _ _ rfl) ?_
        simp [wD, bI, PyData.eqv, PyData.eqvAll, tD, withT, r]
def headT : Tm → Tm
  | .ap a _ => headT a
  | t => t
def spineN : Tm → Nat
  | .ap a _ => spineN a + 1
  | _ => 0
def dnum : Tm → Nat
  | .ap (.ap .K _) _ => 2
  | .ap (.ap (.ap .S _) _) _ => 3
  | _ => 0
theorem head_leaf : ∀ t : Tm, ∀ a b, headT t ≠ .ap a b
  | .K, _, _, h => by cases h
  | .S, _, _, h => by cases h
  | .nm _, _, _, h => by cases h
  | .ap a _, c, d, h => head_leaf a c d h
theorem head_ok : ∀ t : Tm, t.ok = true → (headT t).ok = true
  | .K, h => h
  | .S, h => h
  | .nm _, h => h
  | .ap a _, h => head_ok a (ap_ok h).1
theorem spine_dep : ∀ t : Tm, spineN t ≤ t.dep
  | .K => Nat.le_refl _
  | .S => Nat.le_refl _
  | .nm _ => Nat.le_refl _
  | .ap a b => by have := spine_dep a; unfold spineN Tm.dep; omega
def t_deed : M Bool := bTru (.ev (mUn (oIsa .tuple) (.pk 0)))
def b_deed : M Fl := sSeq (sAsg 3 (mBin (fun _ => vBin .Add) (.pk 3) (.ev (mCon (.int (1)))))) (sAsg 0 (mBin (fun _ => vIdx) (.pk 0) (.ev (mCon (.int (0))))))
theorem deed_loop (cs : Cs) (A B : Option Val) (ob : List Ob) : ∀ (t : Tm) (k f : Nat), spineN t + 1 ≤ f → whileLoop t_deed b_deed cs f ⟨[some (.dat (tD t)), A, B, some (.dat (.int k))], ob⟩ = .ok .nx ⟨[some (.dat (tD (headT t))), A, B, some (.dat (.int (k + spineN t : Nat)))], ob⟩ := by
  intro t
  have leaf : ∀ t : Tm, (∀ a b, t ≠ .ap a b) → ∀ (k f : Nat), 1 ≤ f → whileLoop t_deed b_deed cs f ⟨[some (.dat (tD t)), A, B, some (.dat (.int k))], ob⟩ = .ok .nx ⟨[some (.dat (tD t)), A, B, some (.dat (.int k))], ob⟩ := by
    intro t ht k f hf
    obtain ⟨g, rfl⟩ : ∃ g, f = g + 1 := ⟨f - 1, by omega⟩
    obtain ⟨x, e⟩ := tD_leaf ht
    refine while_end g ?_
    rw [e]
    simp [t_deed]
  induction t with
  | K => exact fun k f h => leaf .K (fun a b z => by cases z) k f (by omega)
  | S => exact fun k f h => leaf .S (fun a b z => by cases z) k f (by omega)
  | nm x => exact fun k f h => leaf (.nm x) (fun a b z => by cases z) k f (by omega)
  | ap a b iha _ =>
    intro k f hf
    have hf : spineN a + 1 + 1 ≤ f := hf
    obtain ⟨g, rfl⟩ : ∃ g, f = g + 1 := ⟨f - 1, by omega⟩
    have q := iha (k + 1) g (by omega)
    have et : t_deed cs ⟨[some (.dat (tD (.ap a b))), A, B, some (.dat (.int k))], ob⟩ = .ok true ⟨[some (.dat (tD (.ap a b))), A, B, some (.dat (.int k))], ob⟩ := by
      simp [t_deed, tD]
    have eb : b_deed cs ⟨[some (.dat (tD (.ap a b))), A, B, some (.dat (.int k))], ob⟩ = .ok .nx ⟨[some (.dat (tD a)), A, B, some (.dat (.int ((k + 1 : Nat) : Int)))], ob⟩ := by
      simp [b_deed, tD]
    rw [while_go g et eb, q]
    have e1 : k + spineN (.ap a b) = k + 1 + spineN a := by show k + (spineN a + 1) = _; omega
    rw [e1]
    rfl
theorem dnum_eq : ∀ t : Tm, dnum t = if headT t = .K ∧ spineN t = 2 then 2 else if headT t = .S ∧ spineN t = 3 then 3 else 0 := by
  intro t
  have z : ∀ t : Tm, spineN t = 0 → headT t = t := by
    intro t h
    cases t with
    | ap a b => exact absurd h (by show spineN a + 1 ≠ 0; omega)
    | K => rfl
    | S => rfl
    | nm x => rfl
  cases t with
  | K => decide
  | S => decide
  | nm x => simp [dnum, headT, spineN]
  | ap a b =>
    cases a with
    | K => simp [dnum, headT, spineN]
    | S => simp [dnum, headT, spineN]
    | nm x => simp [dnum, headT, spineN]
    | ap c d =>
      cases c with
      | K => simp [dnum, headT, spineN]
      | S => simp [dnum, headT, spineN]
      | nm x => simp [dnum, headT, spineN]
      | ap e f =>
        cases e with
        | K => simp [dnum, headT, spineN]
        | S => simp [dnum, headT, spineN]
        | nm x => simp [dnum, headT, spineN]
        | ap g h => simp [dnum, headT, spineN]
theorem r_ldeed (h : T 218 = some d__law_deed) (t : Tm) (n : Nat) (ob : List Ob) (hok : t.ok = true) (hd : t.dep < 1000000) : (sem T (n + 1)).run 218 [.dat (tD t), .dat (.str "K"), .dat (.str "S")] ob = .ok (.dat (.int (dnum t))) ob := by
  rw [sem_run h]
  have hs := spine_dep t
  have q := deed_loop (sem T n) (some (.dat (.str "K"))) (some (.dat (.str "S"))) ob t 0 wFuel (by unfold wFuel; omega)
  have k1 := tD_K (head_ok t hok)
  have k2 := tD_S (head_ok t hok)
  have hl := head_leaf t
  unfold d__law_deed
  refine Eq.trans (runDef_fin _ _ _ _ _ _ rfl) ?_
  unfold t_deed b_deed at q
  simp at q
  rw [dnum_eq]
  generalize headT t = hd at k1 k2 hl q
  generalize spineN t = sn at q
  cases hd with
  | ap a b => exact absurd rfl (hl a b)
  | K =>
    by_cases h2 : sn = 2
    · subst h2
      simp [q, k1, Tm.isK, PyData.eqv]
    · have h2' : ¬ (sn : Int) = 2 := by omega
      simp [q, k1, k2, Tm.isK, Tm.isS, PyData.eqv, h2, h2']
  | S =>
    by_cases h2 : sn = 3
    · subst h2
      simp [q, k1, k2, Tm.isK, Tm.isS, PyData.eqv]
    · have h2' : ¬ (sn : Int) = 3 := by omega
      simp [q, k1, k2, Tm.isK, Tm.isS, PyData.eqv, h2, h2']
  | nm x => simp [q, k1, k2, Tm.isK, Tm.isS, PyData.eqv]
theorem r_lstep (H : HasLawSteps T) (t p : Tm) (w : List Bool) (n : Nat) (ob : List Ob) (hok : t.ok = true) (hdp : t.dep ≤ 100000) (hp : partT t w = some p) (hr : isRed p = true) (hn : w.length + 3 ≤ n) : (sem T n).run 220 [.dat (tD t), .dat (wD w)] ob = .ok (.dat (tD (stepT t w))) ob := by
  obtain ⟨m, rfl⟩ : ∃ m, n = (m + 1) + 1 := ⟨n - 2, by omega⟩
  rw [sem_run H.lstep]
  have pd := part_len w t p hp
  have r1 := r_lpart H.lpart t p w hp m ob
  have r2 := r_ldeed H.ldeed p m ob (part_ok w t p hp hok) (by omega)
  have r3 := r_lwith H.lwith w t (doneT p) (m + 1) ob (by rw [hp]; rfl) (by omega)
  unfold d__law_step
  refine Eq.trans (runDef_fin _ _ _ _ _ _ rfl) ?_
  have es : stepT t w = withT t w (doneT p) := by unfold stepT; rw [hp]; rfl
  rw [es]
  unfold isRed at hr
  split at hr
  · simp [dnum] at r2
    simp [doneT] at r3
    simp [tD] at r1 r2
    simp [r1, r2, r3, doneT, PyData.eqv]
  · simp [dnum] at r2
    simp [doneT, tD] at r3
    simp [tD] at r1 r2
    simp [r1, r2, r3, doneT, PyData.eqv]
  · cases hr
end
end CH

/-! CH21: papers. -/
namespace CH
open PySem L2
def d_line_to : FnDef := ⟨2, 2, sSeq (sIf (bOr (bNot (bTru (.ev (mUn (oIsa .tuple) (.pk 1))))) (bNot (bTru (.pk 1)))) (sRet (mCon (.none))) sPass) (sSeq (sIf (bAnd (bVal (mBin (oCmp .Eq) (.ev (mBin (fun _ => vIdx) (.pk 1) (.ev (mCon (.int (0)))))) (.ev (mCon (.str "on"))))) (bVal (mBin (oCmp .Eq) (.ev (mUn (fun _ => vLen) (.pk 1))) (.ev (mCon (.int (2))))))) (sRet (mCall 42 [mVar 0, mBin (fun _ => vIdx) (.pk 1) (.ev (mCon (.int (1))))] [])) sPass) (sSeq (sIf (bAnd (bVal (mBin (oCmp .Eq) (.ev (mBin (fun _ => vIdx) (.pk 1) (.ev (mCon (.int (0)))))) (.ev (mCon (.str "back"))))) (bAnd (bVal (mBin (oCmp .Eq) (.ev (mUn (fun _ => vLen) (.pk 1))) (.ev (mCon (.int (3)))))) (bAnd (bTru (.ev (mCall 3 [mBin (fun _ => vIdx) (.pk 1) (.ev (mCon (.int (1))))] []))) (bVal (mBin (oCmp .Eq) (.ev (mCall 42 [mBin (fun _ => vIdx) (.pk 1) (.ev (mCon (.int (1)))), mBin (fun _ => vIdx) (.pk 1) (.ev (mCon (.int (2))))] [])) (.pk 0)))))) (sRet (mBin (fun _ => vIdx) (.pk 1) (.ev (mCon (.int (1)))))) sPass) (sRet (mCon (.none)))))⟩
def d_after : FnDef := ⟨2, 3, sSeq (sAsg 2 (mCall 20 [mVar 0, mVar 1] [])) (sSeq (sIf (bOr (bVal (mBin (oCmp .Is) (.pk 2) (.ev (mCon (.none))))) (bNot (bTru (.ev (mCall 16 [mVar 2] []))))) (sRet (mCon (.none))) sPass) (sSeq (sAsg 2 (mCall 23 [mVar 0, mVar 1] [])) (sRet (mIf (bTru (.ev (mCall 3 [mVar 2] []))) (mVar 2) (mCon (.none))))))⟩
def d_end_of : FnDef := ⟨2, 3, sSeq (sIf (bOr (bNot (bTru (.ev (mUn (oIsa .list) (.pk 1))))) (bVal (mBin (oCmp .Gt) (.ev (mUn (fun _ => vLen) (.pk 1))) (.ev (mCon (.int (12))))))) (sRet (mCon (.none))) sPass) (sSeq (sFor (.seq (mVar 1)) (.nm 2) (sSeq (sAsg 0 (mCall 41 [mVar 0, mVar 2] [])) (sIf (bVal (mBin (oCmp .Is) (.pk 0) (.ev (mCon (.none))))) (sRet (mCon (.none))) sPass))) (sRet (mVar 0)))⟩
def d_led_by : FnDef := ⟨2, 3, sSeq (sAsg 2 (mCall 43 [mCall 4 [mVar 0] [], mVar 1] [])) (sSeq (sIf (bVal (mBin (oCmp .Is) (.pk 2) (.ev (mCon (.none))))) (sRaise 6) sPass) (sRet (mVar 2)))⟩
structure HasPapers (T : Nat → Option FnDef) : Prop where
  line_to : T 41 = some d_line_to
  after : T 42 = some d_after
  end_of : T 43 = some d_end_of
  led_by : T 45 = some d_led_by
inductive Ln where
  | on (w : List Bool) | back (u : Tm) (w : List Bool)
def Ln.ok : Ln → Bool
  | .on _ => true
  | .back u _ => u.ok && decide (u.dep ≤ 400)
section
variable {T : Nat → Option FnDef}
end
end CH

/-! CH22: sides.py, meeting.py by combinators. -/
namespace CH
open PySem L2
def d_below : FnDef := ⟨2, 3, sRet (mComp (.seq (mVar 0)) (.nm 2) [2] (some (bVal (mBin (oCmp .Eq) (.ev (mSl (.pk 2) none (some (mUn (fun _ => vLen) (.pk 1))))) (.pk 1)))) (mSl (.pk 2) (some (mUn (fun _ => vLen) (.pk 1))) none))⟩
def d_look_ways : FnDef := ⟨2, 4, sFor (.enum (mVar 1)) (.tup [(.nm 2), (.nm 3)]) (sSeq (sExpr (mCall 22 [mVar 0, mVar 3] [])) (sIf (bVal (mBin (oCmp .In) (.pk 3) (.ev (mSl (.pk 1) none (some (mVar 2)))))) (sRaiseF 3 "way" (mVar 3)) sPass))⟩
def d_all_done : FnDef := ⟨2, 5, sSeq (sIf (bOr (bTru (.ev (mUn (oIsa .str) (.pk 0)))) (bNot (bTru (.pk 1)))) (sRet (mVar 0)) sPass) (sSeq (sIf (bVal (mBin (oCmp .NotIn) (.ev (mTup [])) (.pk 1))) (sRet (mTup [mCall 28 [mBin (fun _ => vIdx) (.pk 0) (.ev (mCon (.int (0)))), mCall 26 [mVar 1, mTup [mCon (.int (0))]] []] [], mCall 28 [mBin (fun _ => vIdx) (.pk 0) (.ev (mCon (.int (1)))), mCall 26 [mVar 1, mTup [mCon (.int (1))]] []] []])) sPass) (sSeq (sIf (bVal (mBin (oCmp .Eq) (.ev (mBin (fun _ => vIdx) (.ev (mBin (fun _ => vIdx) (.pk 0) (.ev (mCon (.int (0)))))) (.ev (mCon (.int (0)))))) (.ev (mCon (.str "K"))))) (sRet (mCall 28 [mBin (fun _ => vIdx) (.ev (mBin (fun _ => vIdx) (.pk 0) (.ev (mCon (.int (0)))))) (.ev (mCon (.int (1)))), mCall 26 [mVar 1, mTup [mCon (.int (0)), mCon (.int (1))]] []] [])) sPass) (sSeq (sAsg 2 (mCall 28 [mBin (fun _ => vIdx) (.ev (mBin (fun _ => vIdx) (.ev (mBin (fun _ => vIdx) (.pk 0) (.ev (mCon (.int (0)))))) (.ev (mCon (.int (0)))))) (.ev (mCon (.int (1)))), mCall 26 [mVar 1, mTup [mCon (.int (0)), mCon (.int (0)), mCon (.int (1))]] []] [])) (sSeq (sAsg 3 (mCall 28 [mBin (fun _ => vIdx) (.ev (mBin (fun _ => vIdx) (.pk 0) (.ev (mCon (.int (0)))))) (.ev (mCon (.int (1)))), mCall 26 [mVar 1, mTup [mCon (.int (0)), mCon (.int (1))]] []] [])) (sSeq (sAsg 4 (mCall 28 [mBin (fun _ => vIdx) (.pk 0) (.ev (mCon (.int (1)))), mCall 26 [mVar 1, mTup [mCon (.int (1))]] []] [])) (sRet (mTup [mTup [mVar 2, mVar 4], mTup [mVar 3, mVar 4]])))))))⟩
def d_moved : FnDef := ⟨2, 3, sRet (mComp (.seq (mVar 1)) (.nm 2) [2] none (mBin (fun _ => vBin .Add) (.pk 0) (.pk 2)))⟩
def d_left : FnDef := ⟨3, 9, sSeq (sIf (bOr (bTru (.ev (mUn (oIsa .str) (.pk 0)))) (bNot (bTru (.pk 2)))) (sRet (mLst [])) sPass) (sSeq (sIf (bVal (mBin (oCmp .NotIn) (.ev (mTup [])) (.pk 1))) (sSeq (sAsg 3 (mIf (bVal (mBin (oCmp .In) (.ev (mTup [])) (.pk 2))) (mLst [mTup []]) (mLst []))) (sSeq (sFor (.range1 (mCon (.int (2)))) (.nm 4) (sSeq (sAsg 5 (mCall 31 [mBin (fun _ => vIdx) (.pk 0) (.pk 4), mCall 26 [mVar 1, mTup [mVar 4]] [], mCall 26 [mVar 2, mTup [mVar 4]] []] [])) (sOwn 3 kExt [mCall 30 [mTup [mVar 4], mVar 5] []]))) (sRet (mVar 3)))) sPass) (sSeq (sIf (bVal (mBin (oCmp .Eq) (.ev (mBin (fun _ => vIdx) (.ev (mBin (fun _ => vIdx) (.pk 0) (.ev (mCon (.int (0)))))) (.ev (mCon (.int (0)))))) (.ev (mCon (.str "K"))))) (sRet (mCall 31 [mBin (fun _ => vIdx) (.ev (mBin (fun _ => vIdx) (.pk 0) (.ev (mCon (.int (0)))))) (.ev (mCon (.int (1)))), mCall 26 [mVar 1, mTup [mCon (.int (0)), mCon (.int (1))]] [], mCall 26 [mVar 2, mTup [mCon (.int (0)), mCon (.int (1))]] []] [])) sPass) (sSeq (sAsg 6 (mCall 31 [mBin (fun _ => vIdx) (.ev (mBin (fun _ => vIdx) (.ev (mBin (fun _ => vIdx) (.pk 0) (.ev (mCon (.int (0)))))) (.ev (mCon (.int (0)))))) (.ev (mCon (.int (1)))), mCall 26 [mVar 1, mTup [mCon (.int (0)), mCon (.int (0)), mCon (.int (1))]] [], mCall 26 [mVar 2, mTup [mCon (.int (0)), mCon (.int (0)), mCon (.int (1))]] []] [])) (sSeq (sAsg 7 (mCall 31 [mBin (fun _ => vIdx) (.ev (mBin (fun _ => vIdx) (.pk 0) (.ev (mCon (.int (0)))))) (.ev (mCon (.int (1)))), mCall 26 [mVar 1, mTup [mCon (.int (0)), mCon (.int (1))]] [], mCall 26 [mVar 2, mTup [mCon (.int (0)), mCon (.int (1))]] []] [])) (sSeq (sAsg 8 (mCall 31 [mBin (fun _ => vIdx) (.pk 0) (.ev (mCon (.int (1)))), mCall 26 [mVar 1, mTup [mCon (.int (1))]] [], mCall 26 [mVar 2, mTup [mCon (.int (1))]] []] [])) (sRet (mBin (fun _ => vBin .Add) (.ev (mBin (fun _ => vBin .Add) (.ev (mBin (fun _ => vBin .Add) (.ev (mCall 30 [mTup [mCon (.int (0)), mCon (.int (0))], mVar 6] [])) (.ev (mCall 30 [mTup [mCon (.int (0)), mCon (.int (1))], mVar 8] [])))) (.ev (mCall 30 [mTup [mCon (.int (1)), mCon (.int (0))], mVar 7] [])))) (.ev (mCall 30 [mTup [mCon (.int (1)), mCon (.int (1))], mVar 8] [])))))))))⟩
def d_walked : FnDef := ⟨2, 3, sSeq (sExpr (mCall 4 [mVar 0] [])) (sSeq (sFor (.seq (mVar 1)) (.nm 2) (sSeq (sExpr (mCall 27 [mVar 0, mVar 2] [])) (sAsg 0 (mCall 15 [mCall 28 [mVar 0, mVar 2] []] [])))) (sRet (mVar 0)))⟩
def d_woven : FnDef := ⟨3, 10, sSeq (sAsg 3 (mLst [])) (sSeq (sFor (.seq (mVar 2)) (.nm 4) (sSeq (sAsg 5 (mVar 0)) (sSeq (sAsg 6 (mVar 4)) (sSeq (sAsg 7 (mLst [])) (sSeq (sFor (.seq (mVar 1)) (.nm 8) (sSeq (sExpr (mCall 15 [mCall 28 [mVar 5, mVar 6] []] [])) (sSeq (sAsg 9 (mCall 15 [mCall 28 [mVar 5, mVar 8] []] [])) (sSeq (sOwn 7 kApp [mCall 31 [mVar 5, mVar 6, mVar 8] []]) (sSeq (sAsg 6 (mCall 31 [mVar 5, mVar 8, mVar 6] [])) (sAsg 5 (mVar 9))))))) (sSeq (sOwn 3 kApp [mVar 6]) (sSeq (sExpr (mCall 15 [mCall 28 [mVar 5, mVar 6] []] [])) (sSeq (sAsg 0 (mCall 15 [mCall 28 [mVar 0, mVar 4] []] [])) (sAsg 1 (mVar 7)))))))))) (sRet (mTup [mVar 1, mVar 3])))⟩
def d_meet : FnDef := ⟨3, 7, sSeq (sIf (bOr (bVal (mBin (oCmp .Gt) (.ev (mUn (fun _ => vLen) (.pk 1))) (.ev (mCon (.int (8)))))) (bVal (mBin (oCmp .Gt) (.ev (mUn (fun _ => vLen) (.pk 2))) (.ev (mCon (.int (8))))))) (sRaise 4) sPass) (sSeq (sAsg 3 (mCall 25 [mVar 0, mVar 1] [])) (sSeq (sExpr (mCall 25 [mVar 0, mVar 2] [])) (sSeq (sTgt (.tup [(.nm 4), (.nm 5)]) (mCall 39 [mVar 0, mComp (.seq (mVar 1)) (.nm 6) [6] none (mLst [mVar 6]), mComp (.seq (mVar 2)) (.nm 6) [6] none (mLst [mVar 6])] [])) (sRet (mTup [mCall 34 [mVar 3, mVar 5] [], mVar 5, mVar 4])))))⟩
section
variable {T : Nat → Option FnDef}
theorem bad_played (H : HasSteps T) (h : T 35 = some d_played) (t : Tm) (k : Int) (hk : ¬ (0 ≤ k ∧ k ≤ 400)) (n : Nat) (ob : List Ob) (hok : t.ok = true) (hl : t.lv ≤ 200) (hn : 206 ≤ n) : (sem T n).run 35 [.dat (tD t), .dat (.int k)] ob = .ex ⟨4, none⟩ ob := by
  obtain ⟨m, rfl⟩ : ∃ m, n = (m + 1) + 1 := ⟨n - 2, by omega⟩
  rw [sem_run h]
  have r1 := r_checked H t (m + 1) ob hok hl (by omega)
  have r2 := r_is_within H.is_within m k 0 400 ob
  have e : (decide (0 ≤ k) && decide (k ≤ 400)) = false := by
    cases h1 : decide (0 ≤ k) && decide (k ≤ 400) with
    | false => rfl
    | true =>
      rw [Bool.and_eq_true, decide_eq_true_eq, decide_eq_true_eq] at h1
      exact absurd h1 hk
  rw [e] at r2
  unfold d_played
  refine Eq.trans (runDef_fin _ _ _ _ _ _ rfl) ?_
  simp [r1, r2]
end
end CH

/-! CH23: functions.py: functions as data, their parts, alike. -/
namespace CH
open PySem L2
def d_parts_left : FnDef := ⟨2, 2, sSeq (sIf (bVal (mBin (oCmp .Lt) (.pk 1) (.ev (mCon (.int (1)))))) (sRet (mUn (fun _ => vNeg) (.ev (mCon (.int (1)))))) sPass) (sSeq (sIf (bTru (.ev (mUn (oIsa .str) (.pk 0)))) (sRet (mIf (bTru (.ev (mCall 1 [mVar 0] []))) (mBin (fun _ => vBin .Sub) (.pk 1) (.ev (mCon (.int (1))))) (mUn (fun _ => vNeg) (.ev (mCon (.int (1))))))) sPass) (sSeq (sIf (bOr (bNot (bTru (.ev (mUn (oIsa .tuple) (.pk 0))))) (bVal (mBin (oCmp .NotIn) (.ev (mUn (fun _ => vLen) (.pk 0))) (.ev (mTup [mCon (.int (2)), mCon (.int (3))]))))) (sRet (mUn (fun _ => vNeg) (.ev (mCon (.int (1)))))) sPass) (sSeq (sIf (bVal (mBin (oCmp .Eq) (.ev (mUn (fun _ => vLen) (.pk 0))) (.ev (mCon (.int (3)))))) (sRet (mIf (bAnd (bVal (mBin (oCmp .Eq) (.ev (mBin (fun _ => vIdx) (.pk 0) (.ev (mCon (.int (0)))))) (.ev (mCon (.str "fn"))))) (bTru (.ev (mCall 0 [mBin (fun _ => vIdx) (.pk 0) (.ev (mCon (.int (1))))] [])))) (mCall 56 [mBin (fun _ => vIdx) (.pk 0) (.ev (mCon (.int (2)))), mBin (fun _ => vBin .Sub) (.pk 1) (.ev (mCon (.int (1))))] []) (mUn (fun _ => vNeg) (.ev (mCon (.int (1))))))) sPass) (sSeq (sAsg 1 (mCall 56 [mBin (fun _ => vIdx) (.pk 0) (.ev (mCon (.int (0)))), mBin (fun _ => vBin .Sub) (.pk 1) (.ev (mCon (.int (1))))] [])) (sRet (mIf (bVal (mBin (oCmp .Lt) (.pk 1) (.ev (mCon (.int (0)))))) (mUn (fun _ => vNeg) (.ev (mCon (.int (1))))) (mCall 56 [mBin (fun _ => vIdx) (.pk 0) (.ev (mCon (.int (1)))), mVar 1] [])))))))⟩
def d_look : FnDef := ⟨1, 1, sIf (bVal (mBin (oCmp .Lt) (.ev (mCall 56 [mVar 0, mCon (.int (100))] [])) (.ev (mCon (.int (0)))))) (sRaise 7) sPass⟩
def d_alike_in : FnDef := ⟨3, 5, sSeq (sIf (bOr (bTru (.ev (mUn (oIsa .str) (.pk 0)))) (bTru (.ev (mUn (oIsa .str) (.pk 1))))) (sSeq (sIf (bOr (bNot (bTru (.ev (mUn (oIsa .str) (.pk 0))))) (bNot (bTru (.ev (mUn (oIsa .str) (.pk 1)))))) (sRet (mCon (.bool false))) sPass) (sSeq (sFor (.rev (mVar 2)) (.tup [(.nm 3), (.nm 4)]) (sIf (bOr (bVal (mBin (oCmp .Eq) (.pk 0) (.pk 3))) (bVal (mBin (oCmp .Eq) (.pk 1) (.pk 4)))) (sRet (mAnd (mBin (oCmp .Eq) (.pk 0) (.pk 3)) (mBin (oCmp .Eq) (.pk 1) (.pk 4)))) sPass)) (sRet (mBin (oCmp .Eq) (.pk 0) (.pk 1))))) sPass) (sSeq (sIf (bVal (mBin (oCmp .NotEq) (.ev (mUn (fun _ => vLen) (.pk 0))) (.ev (mUn (fun _ => vLen) (.pk 1))))) (sRet (mCon (.bool false))) sPass) (sSeq (sIf (bVal (mBin (oCmp .Eq) (.ev (mUn (fun _ => vLen) (.pk 0))) (.ev (mCon (.int (3)))))) (sRet (mCall 62 [mBin (fun _ => vIdx) (.pk 0) (.ev (mCon (.int (2)))), mBin (fun _ => vIdx) (.pk 1) (.ev (mCon (.int (2)))), mBin (fun _ => vBin .Add) (.pk 2) (.ev (mLst [mTup [mBin (fun _ => vIdx) (.pk 0) (.ev (mCon (.int (1)))), mBin (fun _ => vIdx) (.pk 1) (.ev (mCon (.int (1))))]]))] [])) sPass) (sRet (mAnd (mCall 62 [mBin (fun _ => vIdx) (.pk 0) (.ev (mCon (.int (0)))), mBin (fun _ => vIdx) (.pk 1) (.ev (mCon (.int (0)))), mVar 2] []) (mCall 62 [mBin (fun _ => vIdx) (.pk 0) (.ev (mCon (.int (1)))), mBin (fun _ => vIdx) (.pk 1) (.ev (mCon (.int (1)))), mVar 2] [])))))⟩
def d_alike : FnDef := ⟨2, 2, sSeq (sExpr (mCall 57 [mVar 0] [])) (sSeq (sExpr (mCall 57 [mVar 1] [])) (sRet (mCall 62 [mVar 0, mVar 1, mLst []] [])))⟩
inductive Fm where
  | lf (t : Tm) | ap (a b : Fm) | fn (x : Str) (b : Fm)
/-- a leaf -/
def Tm.leafy : Tm → Bool
  | .ap _ _ => false
  | _ => true
def Fm.ok : Fm → Bool
  | .lf t => t.leafy && t.ok
  | .ap a b => a.ok && b.ok
  | .fn x b => isNm x && b.ok
def Fm.parts : Fm → Nat
  | .lf _ => 1
  | .ap a b => a.parts + b.parts + 1
  | .fn _ b => b.parts + 1
def Fm.dep : Fm → Nat
  | .lf _ => 0
  | .ap a b => max a.dep b.dep + 1
  | .fn _ b => b.dep + 1
structure HasFns (T : Nat → Option FnDef) : Prop where
  is_name : T 0 = some d_is_name
  is_leaf : T 1 = some d_is_leaf
  parts_left : T 56 = some d_parts_left
  look : T 57 = some d_look
  alike_in : T 62 = some d_alike_in
  alike : T 63 = some d_alike
section
variable {T : Nat → Option FnDef}
end
end CH

/-! CH24: alike. -/
namespace CH
open PySem L2
def hD (q : Str × Str) : PyData := .tuple [.str q.1, .str q.2]
section
variable {T : Nat → Option FnDef}
end
end CH

/-! CH25: rows as natural numbers. -/
namespace CH
open PySem L2
/-- a row as natural numbers -/
theorem row_nat {rs : List Int} (hb : ∀ r ∈ rs, 0 ≤ r ∧ r < 1000) : ∃ ks : List Nat, ks.length = rs.length ∧ (∀ k ∈ ks, k < 1000) ∧ rs.map PyData.int = ks.map fun (k : Nat) => PyData.int k := by
  refine ⟨rs.map Int.toNat, by simp, ?_, ?_⟩
  · intro k hk
    obtain ⟨r, hr, rfl⟩ := List.mem_map.mp hk
    have := hb r hr
    omega
  · rw [List.map_map]
    apply List.map_congr_left
    intro r hr
    have := hb r hr
    simp [Int.toNat_of_nonneg this.1]
def rowAt (ks : List Nat) (i : Nat) : Nat := ks.getD i 0
theorem rowAt_lt {ks : List Nat} (h : ∀ k ∈ ks, k < 1000) (i : Nat) : rowAt ks i < 1000 := by
  unfold rowAt
  rw [List.getD_eq_getElem?_getD]
  cases e : ks[i]? with
  | none => simp
  | some k => exact h k (List.mem_of_getElem? e)
theorem idx_row (ks : List Nat) (i : Nat) (h : i < ks.length) : atI (ks.map fun (k : Nat) => PyData.int k) (i : Int) = some (.int (rowAt ks i)) := by
  apply atI_nat
  unfold rowAt
  rw [List.getElem?_map, List.getD_eq_getElem?_getD, List.getElem?_eq_getElem h]
  rfl
theorem nums_go (j : Nat) : ∀ m : Nat, ((List.range' j (m + 1)).map fun (z : Nat) => PyData.int (0 + z)) = .int j :: ((List.range' (j + 1) m).map fun (z : Nat) => PyData.int (0 + z)) := by
  intro m
  rw [List.range'_succ, List.map_cons]
  have : (0 + (j : Int)) = j := by omega
  rw [this]
theorem nums_eq (m : Nat) : nums 0 m = (List.range' 0 m).map fun (z : Nat) => PyData.int (0 + z) := by
  rw [← List.range_eq_range']
  rfl
end CH

/-! CH26: drawn terms, all ways, the law's own steps and play. -/
namespace CH
open PySem L2
def d__law_grown : FnDef := ⟨3, 9, sSeq (sAsg 3 (mIf (bVal (mBin (oCmp .Lt) (.pk 1) (.ev (mUn (fun _ => vLen) (.pk 0))))) (mBin (fun _ => vIdx) (.pk 0) (.pk 1)) (mCon (.int (0))))) (sSeq (sAsg 4 (mBin (fun _ => vBin .Mod) (.pk 3) (.ev (mCon (.int (8)))))) (sSeq (sIf (bOr (bVal (mBin (oCmp .Eq) (.pk 2) (.ev (mCon (.int (0)))))) (bOr (bVal (mBin (oCmp .Lt) (.pk 4) (.ev (mCon (.int (2)))))) (bVal (mBin (oCmp .GtE) (.pk 1) (.ev (mCon (.int (36)))))))) (sRet (mTup [mCall 203 [mBin (fun _ => vBin .FloorDiv) (.pk 3) (.ev (mCon (.int (8))))] [], mBin (fun _ => vBin .Add) (.pk 1) (.ev (mCon (.int (1))))])) sPass) (sSeq (sAsg 5 (mLst [])) (sSeq (sAsg 6 (mBin (fun _ => vBin .Add) (.pk 1) (.ev (mCon (.int (1)))))) (sSeq (sFor (.range1 (mIf (bVal (mBin (oCmp .Gt) (.pk 4) (.ev (mCon (.int (5)))))) (mCon (.int (3))) (mCon (.int (2))))) (.nm 7) (sSeq (sAsg 8 (mCall 204 [mVar 0, mVar 6, mBin (fun _ => vBin .Sub) (.pk 2) (.ev (mCon (.int (1))))] [])) (sSeq (sOwn 5 kApp [mBin (fun _ => vIdx) (.pk 8) (.ev (mCon (.int (0))))]) (sAsg 6 (mBin (fun _ => vIdx) (.pk 8) (.ev (mCon (.int (1))))))))) (sSeq (sIf (bVal (mBin (oCmp .Lt) (.pk 4) (.ev (mCon (.int (5)))))) (sRet (mTup [mTup [mBin (fun _ => vIdx) (.pk 5) (.ev (mCon (.int (0)))), mBin (fun _ => vIdx) (.pk 5) (.ev (mCon (.int (1))))], mVar 6])) sPass) (sSeq (sIf (bVal (mBin (oCmp .Eq) (.pk 4) (.ev (mCon (.int (5)))))) (sRet (mTup [mTup [mTup [mCon (.str "K"), mBin (fun _ => vIdx) (.pk 5) (.ev (mCon (.int (0))))], mBin (fun _ => vIdx) (.pk 5) (.ev (mCon (.int (1))))], mVar 6])) sPass) (sRet (mTup [mTup [mTup [mTup [mCon (.str "S"), mBin (fun _ => vIdx) (.pk 5) (.ev (mCon (.int (0))))], mBin (fun _ => vIdx) (.pk 5) (.ev (mCon (.int (1))))], mBin (fun _ => vIdx) (.pk 5) (.ev (mCon (.int (2))))], mVar 6])))))))))⟩
def d__law_drawn : FnDef := ⟨2, 3, sSeq (sAsg 2 (mCall 201 [mVar 0, mVar 1] [])) (sRet (mBin (fun _ => vIdx) (.ev (mCall 204 [mVar 2, mCon (.int (1)), mBin (fun _ => vBin .Add) (.ev (mCon (.int (1)))) (.ev (mBin (fun _ => vBin .Mod) (.ev (mBin (fun _ => vIdx) (.pk 2) (.ev (mCon (.int (0)))))) (.ev (mCon (.int (4))))))] [])) (.ev (mCon (.int (0))))))⟩
def d__law_all_ways : FnDef := ⟨1, 3, sSeq (sIf (bTru (.ev (mUn (oIsa .str) (.pk 0)))) (sRet (mLst [mTup []])) sPass) (sSeq (sAsg 1 (mComp (.seq (mCall 209 [mBin (fun _ => vIdx) (.pk 0) (.ev (mCon (.int (0))))] [])) (.nm 2) [2] none (mBin (fun _ => vBin .Add) (.ev (mTup [mCon (.int (0))])) (.pk 2)))) (sRet (mBin (fun _ => vBin .Add) (.ev (mBin (fun _ => vBin .Add) (.ev (mLst [mTup []])) (.pk 1))) (.ev (mComp (.seq (mCall 209 [mBin (fun _ => vIdx) (.pk 0) (.ev (mCon (.int (1))))] [])) (.nm 2) [2] none (mBin (fun _ => vBin .Add) (.ev (mTup [mCon (.int (1))])) (.pk 2)))))))⟩
def d__law_ways : FnDef := ⟨1, 2, sRet (mComp (.seq (mCall 209 [mVar 0] [])) (.nm 1) [1] (some (bVal (mBin (oCmp .Gt) (.ev (mCall 218 [mCall 217 [mVar 0, mVar 1] [], mCon (.str "K"), mCon (.str "S")] [])) (.ev (mCon (.int (0))))))) (mVar 1))⟩
def d__law_played : FnDef := ⟨2, 4, sSeq (sAsg 2 (mLst [])) (sSeq (sAsg 3 (mCall 219 [mVar 0] [])) (sSeq (sWhile (bAnd (bVal (mBin (oCmp .Lt) (.ev (mUn (fun _ => vLen) (.pk 2))) (.pk 1))) (bAnd (bVal (mBin (oCmp .NotEq) (.pk 3) (.ev (mLst [])))) (bVal (mBin (oCmp .LtE) (.ev (mCall 206 [mCall 220 [mVar 0, mBin (fun _ => vIdx) (.pk 3) (.ev (mCon (.int (0))))] []] [])) (.ev (mCon (.int (200)))))))) (sSeq (sOwn 2 kApp [mBin (fun _ => vIdx) (.pk 3) (.ev (mCon (.int (0))))]) (sSeq (sAsg 0 (mCall 220 [mVar 0, mBin (fun _ => vIdx) (.pk 3) (.ev (mCon (.int (0))))] [])) (sAsg 3 (mCall 219 [mVar 0] []))))) (sRet (mTup [mVar 0, mVar 2]))))⟩
def d__law_walk : FnDef := ⟨4, 8, sSeq (sAsg 4 (mLst [])) (sSeq (sFor (.range1 (mVar 3)) (.nm 5) (sSeq (sAsg 6 (mComp (.seq (mCall 219 [mVar 0] [])) (.nm 7) [7] (some (bVal (mBin (oCmp .LtE) (.ev (mCall 206 [mCall 220 [mVar 0, mVar 7] []] [])) (.ev (mCon (.int (200))))))) (mVar 7))) (sIf (bVal (mBin (oCmp .NotEq) (.pk 6) (.ev (mLst [])))) (sSeq (sOwn 4 kApp [mBin (fun _ => vIdx) (.pk 6) (.ev (mBin (fun _ => vBin .Mod) (.ev (mBin (fun _ => vIdx) (.pk 1) (.ev (mBin (fun _ => vBin .Mod) (.ev (mBin (fun _ => vBin .Add) (.pk 2) (.pk 5))) (.ev (mCon (.int (60)))))))) (.ev (mUn (fun _ => vLen) (.pk 6)))))]) (sAsg 0 (mCall 220 [mVar 0, mBin (fun _ => vIdx) (.pk 4) (.ev (mUn (fun _ => vNeg) (.ev (mCon (.int (1))))))] []))) sPass))) (sRet (mTup [mVar 4, mVar 0])))⟩

structure HasGrown (T : Nat → Option FnDef) : Prop where
  name : T 202 = some d__law_name
  lleaf : T 203 = some d__law_leaf
  grown : T 204 = some d__law_grown
section
variable {T : Nat → Option FnDef}
theorem s62_2 : small62 2 = true := by decide
theorem s62_3 : small62 3 = true := by decide
theorem rg2 : List.range 2 = [0, 1] := rfl
theorem rg3 : List.range 3 = [0, 1, 2] := rfl
theorem bg0 : 0 < big := by unfold big; omega
theorem bg1 : 1 < big := by unfold big; omega
theorem bg2 : 2 < big := by unfold big; omega
theorem rowAt_out {ks : List Nat} {a : Nat} (h : ¬ a < ks.length) : rowAt ks a = 0 := by
  unfold rowAt
  rw [List.getD_eq_getElem?_getD, List.getElem?_eq_none (by omega)]
  rfl
structure HasDrawn (T : Nat → Option FnDef) : Prop extends HasRow T, HasGrown T where
  drawn : T 205 = some d__law_drawn
/-- the row, as naturals -/
theorem r_rowN (H : HasRow T) (ns : List Int) (a : Nat) (n : Nat) (ob : List Ob) (hn : 2 ≤ n) : ∃ ks : List Nat, ks.length = 60 ∧ (∀ k ∈ ks, k < 1000) ∧ (sem T n).run 201 [.scr ns, .dat (.int a)] ob = .ok (.dat (.list (ks.map fun (k : Nat) => PyData.int k))) ob := by
  obtain ⟨m, rfl⟩ : ∃ m, n = m + 2 := ⟨n - 2, by omega⟩
  obtain ⟨rs, h1, h2, h3⟩ := r_row H ns a (by omega) m ob
  obtain ⟨ks, k1, k2, k3⟩ := row_nat h2
  exact ⟨ks, by omega, k2, by rw [← k3]; exact h3⟩
end
end CH

/-! CH27: all ways, the ways of steps, play and walks as a law finds them. -/
namespace CH
open PySem L2
def allW : Tm → List (List Bool)
  | .ap a b => [] :: ((allW a).map (false :: ·) ++ (allW b).map (true :: ·))
  | _ => [[]]
theorem allW_leaf {t : Tm} (h : ∀ a b, t ≠ .ap a b) : allW t = [[]] := by cases t <;> first | rfl | exact absurd rfl (h _ _)
theorem allW_len : ∀ t : Tm, (allW t).length + 1 = 2 * t.lv
  | .K => rfl
  | .S => rfl
  | .nm _ => rfl
  | .ap a b => by
    have := allW_len a
    have := allW_len b
    simp only [allW, Tm.lv, List.length_cons, List.length_append, List.length_map]
    omega
theorem allW_wlen : ∀ (t : Tm) (w : List Bool), w ∈ allW t → w.length ≤ t.dep
  | .K, w, h => by simp [allW] at h; subst h; simp
  | .S, w, h => by simp [allW] at h; subst h; simp
  | .nm _, w, h => by simp [allW] at h; subst h; simp
  | .ap a b, w, h => by
    simp only [allW, List.mem_cons, List.mem_append, List.mem_map] at h
    show w.length ≤ max a.dep b.dep + 1
    rcases h with rfl | ⟨v, hv, rfl⟩ | ⟨v, hv, rfl⟩
    · simp
    · have := allW_wlen a v hv
      simp only [List.length_cons]
      omega
    · have := allW_wlen b v hv
      simp only [List.length_cons]
      omega
theorem allW_part : ∀ (t : Tm) (w : List Bool), w ∈ allW t → ∃ p, partT t w = some p
  | .K, w, h => by simp [allW] at h; subst h; exact ⟨_, rfl⟩
  | .S, w, h => by simp [allW] at h; subst h; exact ⟨_, rfl⟩
  | .nm _, w, h => by simp [allW] at h; subst h; exact ⟨_, rfl⟩
  | .ap a b, w, h => by
    simp only [allW, List.mem_cons, List.mem_append, List.mem_map] at h
    rcases h with rfl | ⟨v, hv, rfl⟩ | ⟨v, hv, rfl⟩
    · exact ⟨_, rfl⟩
    · obtain ⟨p, hp⟩ := allW_part a v hv
      exact ⟨p, hp⟩
    · obtain ⟨p, hp⟩ := allW_part b v hv
      exact ⟨p, hp⟩
/-- whether a step stands at w -/
def redAt (t : Tm) (w : List Bool) : Bool := match partT t w with
  | some p => isRed p
  | none => false
theorem allW_ways : ∀ t : Tm, (allW t).filter (redAt t) = waysT t
  | .K => rfl
  | .S => rfl
  | .nm _ => rfl
  | .ap a b => by
    have ha : ((allW a).map (false :: ·)).filter (redAt (.ap a b)) = (waysT a).map (false :: ·) := by
      rw [List.filter_map, ← allW_ways a]
      rfl
    have hb : ((allW b).map (true :: ·)).filter (redAt (.ap a b)) = (waysT b).map (true :: ·) := by
      rw [List.filter_map, ← allW_ways b]
      rfl
    show List.filter (redAt (.ap a b)) ([] :: ((allW a).map (false :: ·) ++ (allW b).map (true :: ·))) = _
    rw [List.filter_cons, List.filter_append, ha, hb]
    have e : redAt (.ap a b) [] = isRed (.ap a b) := rfl
    rw [e]
    show _ = (if isRed (.ap a b) = true then [[]] else []) ++ (waysT a).map (false :: ·) ++ (waysT b).map (true :: ·)
    cases isRed (.ap a b) <;> simp
theorem dnum_red (p : Tm) : decide ((0 : Int) < (dnum p : Int)) = isRed p := by
  unfold dnum isRed
  split <;> simp
/-- a comprehension that keeps some of what it walks -/
theorem loop_filG {α : Type} {cs : Cs} {i : Nat} {t : M Bool} {elt : M Val} (f g : α → PyData) (q : α → Bool) (s : S) (hw : ∀ d, (s.put i (some (.dat d))).put i none = s) : ∀ (xs : List α) (acc : List PyData), (∀ x ∈ xs, t cs (s.put i (some (.dat (f x)))) = .ok (q x) (s.put i (some (.dat (f x))))) → (∀ x ∈ xs, q x = true → elt cs (s.put i (some (.dat (f x)))) = .ok (.dat (g x)) (s.put i (some (.dat (f x))))) → acc.length + xs.length ≤ big →
    compLoop (.nm i) [i] (some t) elt cs (xs.map f) acc s = .ok (acc ++ (xs.filter q).map g) s
  | [], acc, _, _, _ => by simp
  | x :: xs, acc, ht, h, hl => by
    have h0 := ht x List.mem_cons_self
    simp only [List.length_cons] at hl
    have hlt : acc.length < big := by omega
    rw [List.map_cons, x_cloop_cons]
    cases e : q x with
    | true =>
      have h1 := h x List.mem_cons_self e
      simp only [x_tgPut_nm, h0, e, h1, x_toD_dat, hlt, if_true, x_wipe_cons, x_wipe_nil, hw]
      rw [loop_filG f g q s hw xs (acc ++ [g x]) (fun y hy => ht y (List.mem_cons_of_mem _ hy)) (fun y hy => h y (List.mem_cons_of_mem _ hy)) (by simp; omega)]
      simp [e]
    | false =>
      simp only [x_tgPut_nm, h0, e, x_wipe_cons, x_wipe_nil, hw]
      rw [loop_filG f g q s hw xs acc (fun y hy => ht y (List.mem_cons_of_mem _ hy)) (fun y hy => h y (List.mem_cons_of_mem _ hy)) (by omega)]
      simp [e]
theorem loop_mapG {α : Type} {cs : Cs} {i : Nat} {elt : M Val} (f g : α → PyData) (s : S) (hw : ∀ d, (s.put i (some (.dat d))).put i none = s) : ∀ (xs : List α) (acc : List PyData), (∀ x ∈ xs, elt cs (s.put i (some (.dat (f x)))) = .ok (.dat (g x)) (s.put i (some (.dat (f x))))) → acc.length + xs.length ≤ big →
    compLoop (.nm i) [i] none elt cs (xs.map f) acc s = .ok (acc ++ xs.map g) s
  | [], acc, _, _ => by simp
  | x :: xs, acc, h, hl => by
    have h1 := h x List.mem_cons_self
    simp only [List.length_cons] at hl
    have hlt : acc.length < big := by omega
    rw [List.map_cons, x_cloop_cons]
    simp only [x_tgPut_nm, h1, x_toD_dat, hlt, if_true, x_wipe_cons, x_wipe_nil, hw]
    rw [loop_mapG f g s hw xs (acc ++ [g x]) (fun y hy => h y (List.mem_cons_of_mem _ hy)) (by simp; omega)]
    simp
@[simp] theorem x_toL_list (ds : List PyData) : vToL (.dat (.list ds)) = some (.own ds) := rfl
@[simp] theorem x_toL_own (ds : List PyData) : vToL (.own ds) = some (.own ds) := rfl
@[simp] theorem x_toL_tup (ds : List PyData) : vToL (.dat (.tuple ds)) = some (.own ds) := rfl
@[simp] theorem x_toT_list (ds : List PyData) : vToT (.dat (.list ds)) = some (.dat (.tuple ds)) := rfl
@[simp] theorem x_toT_own (ds : List PyData) : vToT (.own ds) = some (.dat (.tuple ds)) := rfl
@[simp] theorem x_toT_tup (ds : List PyData) : vToT (.dat (.tuple ds)) = some (.dat (.tuple ds)) := rfl
theorem eqv_nil (xs : List PyData) : (PyData.list xs).eqv (.list []) = xs.isEmpty := by cases xs <;> simp [PyData.eqv, PyData.eqvAll]
@[simp] theorem x_eq_own (cs : Cs) (xs : List PyData) (b : Val) : vEq cs (.own xs) b = vEq cs (.dat (.list xs)) b := rfl
@[simp] theorem x_eq_ownr (cs : Cs) (xs : List PyData) (a : Val) : vEq cs a (.own xs) = vEq cs a (.dat (.list xs)) := rfl
@[simp] theorem x_eq_nil (cs : Cs) (d : PyData) : vEq cs (.dat d) (.dat (.list [])) = some (d.eqv (.list [])) := vEq_dat cs (by simp only [PyData.depth, PyData.depthAll]; unfold rm; omega)
structure HasLawWays (T : Nat → Option FnDef) : Prop extends HasLawSteps T where
  lleaves : T 206 = some d__law_leaves
  all_ways : T 209 = some d__law_all_ways
  lways : T 219 = some d__law_ways
section
variable {T : Nat → Option FnDef}
theorem r_all_ways (h : T 209 = some d__law_all_ways) : ∀ (t : Tm) (n : Nat) (ob : List Ob), t.lv ≤ 1000000 → t.dep + 1 ≤ n → (sem T n).run 209 [.dat (tD t)] ob = .ok (.own ((allW t).map wD)) ob := by
  intro t
  have leaf : ∀ t : Tm, (∀ a b, t ≠ .ap a b) → ∀ (n : Nat) (ob : List Ob), 1 ≤ n → (sem T n).run 209 [.dat (tD t)] ob = .ok (.own ((allW t).map wD)) ob := by
    intro t ht n ob hn
    obtain ⟨m, rfl⟩ : ∃ m, n = m + 1 := ⟨n - 1, by omega⟩
    rw [sem_run h]
    obtain ⟨x, e⟩ := tD_leaf ht
    have : allW t = [[]] := allW_leaf ht
    unfold runDef d__law_all_ways
    simp [e, this, wD]
  induction t with
  | K => exact fun n ob _ h => leaf .K (fun a b z => by cases z) n ob (by omega)
  | S => exact fun n ob _ h => leaf .S (fun a b z => by cases z) n ob (by omega)
  | nm x => exact fun n ob _ h => leaf (.nm x) (fun a b z => by cases z) n ob (by omega)
  | ap a b iha ihb =>
    intro n ob hl hn
    obtain ⟨m, rfl⟩ : ∃ m, n = m + 1 := ⟨n - 1, by omega⟩
    have hd : max a.dep b.dep + 1 + 1 ≤ m + 1 := hn
    have hlv : a.lv + b.lv ≤ 1000000 := hl
    have r1 := iha m ob (by omega) (by omega)
    have r2 := ihb m ob (by omega) (by omega)
    have ba := allW_len a
    have bb := allW_len b
    have hbig : 4000000 ≤ big := by unfold big; omega
    have da := a.dep_lv
    have db := b.dep_lv
    have q1 : ∀ o : Option Val, compLoop (.nm 2) [2] none (mBin (fun _ => vBin .Add) (.ev (mTup [mCon (.int 0)])) (.pk 2)) (sem T m) ((allW a).map wD) [] ⟨[some (.dat (tD (.ap a b))), o, none], ob⟩ = .ok ((allW a).map fun w => wD (false :: w)) ⟨[some (.dat (tD (.ap a b))), o, none], ob⟩ := by
      intro o
      have := loop_mapG (cs := sem T m) (i := 2) (elt := mBin (fun _ => vBin .Add) (.ev (mTup [mCon (.int 0)])) (.pk 2)) wD (fun w => wD (false :: w)) ⟨[some (.dat (tD (.ap a b))), o, none], ob⟩ (fun d => rfl) (allW a) [] (by
        intro w hw
        have := allW_wlen a w hw
        have : 1 + w.length ≤ big := by omega
        simp [wD, bI, this]) (by simp; omega)
      simpa using this
    have q2 : ∀ o : Option Val, compLoop (.nm 2) [2] none (mBin (fun _ => vBin .Add) (.ev (mTup [mCon (.int 1)])) (.pk 2)) (sem T m) ((allW b).map wD) [] ⟨[some (.dat (tD (.ap a b))), o, none], ob⟩ = .ok ((allW b).map fun w => wD (true :: w)) ⟨[some (.dat (tD (.ap a b))), o, none], ob⟩ := by
      intro o
      have := loop_mapG (cs := sem T m) (i := 2) (elt := mBin (fun _ => vBin .Add) (.ev (mTup [mCon (.int 1)])) (.pk 2)) wD (fun w => wD (true :: w)) ⟨[some (.dat (tD (.ap a b))), o, none], ob⟩ (fun d => rfl) (allW b) [] (by
        intro w hw
        have := allW_wlen b w hw
        have : 1 + w.length ≤ big := by omega
        simp [wD, bI, this]) (by simp; omega)
      simpa using this
    rw [sem_run h]
    unfold runDef d__law_all_ways
    have et : tD (.ap a b) = .tuple [tD a, tD b] := rfl
    rw [et] at q1 q2
    have b1 : 1 + (allW a).length ≤ big := by omega
    have b2 : (allW a).length + 1 + (allW b).length ≤ big := by omega
    simp [et, r1, r2, q1, q2, b1, b2]
    simp [allW, wD, bI, Function.comp_def]
theorem r_lways (H : HasLawWays T) (t : Tm) (n : Nat) (ob : List Ob) (hok : t.ok = true) (hl : t.lv ≤ 1000000) (hn : t.dep + 2 ≤ n) : (sem T n).run 219 [.dat (tD t)] ob = .ok (.own ((waysT t).map wD)) ob := by
  obtain ⟨m, rfl⟩ : ∃ m, n = (m + 1) + 1 := ⟨n - 2, by omega⟩
  have r1 := r_all_ways H.all_ways t (m + 1) ob hl (by omega)
  have ba := allW_len t
  have hd := t.dep_lv
  have hbig : 4000000 ≤ big := by unfold big; omega
  have q := loop_filG (cs := sem T (m + 1)) (i := 1) (t := bVal (mBin (oCmp .Gt) (.ev (mCall 218 [mCall 217 [mVar 0, mVar 1] [], mCon (.str "K"), mCon (.str "S")] [])) (.ev (mCon (.int (0)))))) (elt := mVar 1) wD wD (redAt t) ⟨[some (.dat (tD t)), none], ob⟩ (fun d => rfl) (allW t) [] (by
    intro w hw
    obtain ⟨p, hp⟩ := allW_part t w hw
    have r2 := r_lpart H.lpart t p w hp m ob
    have hp2 := part_len w t p hp
    have r3 := r_ldeed H.ldeed p m ob (part_ok w t p hp hok) (by omega)
    have e := dnum_red p
    have e2 : redAt t w = isRed p := by unfold redAt; rw [hp]
    rw [e2, ← e]
    simp [r2, r3]) (by
    intro w hw _
    simp) (by simp; omega)
  rw [allW_ways] at q
  rw [sem_run H.lways]
  unfold runDef d__law_ways
  simp at q
  simp [r1, q]
end
end CH

/-! CH28: play and walks as a law finds them. -/
namespace CH
open PySem L2
section
variable {T : Nat → Option FnDef}
theorem red_step_dep {t p : Tm} {w : List Bool} (hp : partT t w = some p) (hr : isRed p = true) : (stepT t w).dep ≤ t.dep + 1 := by
  have key : ∀ (w : List Bool) (t p : Tm), partT t w = some p → (withT t w (doneT p)).dep ≤ t.dep + 1 := by
    intro w
    induction w with
    | nil =>
      intro t p hp
      have e : t = p := by cases t <;> simpa [partT] using hp
      subst e
      have e2 : withT t [] (doneT t) = doneT t := by cases t <;> rfl
      rw [e2]
      unfold doneT
      split <;> (try simp only [Tm.dep]) <;> omega
    | cons s w ih =>
      intro t p hp
      cases t with
      | ap a b =>
        cases s with
        | false =>
          have := ih a p hp
          show max (withT a w (doneT p)).dep b.dep + 1 ≤ max a.dep b.dep + 1 + 1
          omega
        | true =>
          have := ih b p hp
          show max a.dep (withT b w (doneT p)).dep + 1 ≤ max a.dep b.dep + 1 + 1
          omega
      | K => simp [partT] at hp
      | S => simp [partT] at hp
      | nm x => simp [partT] at hp
  unfold stepT
  rw [hp]
  exact key w t p hp
/-- what a step has, as a law counts it -/
theorem r_step_leaves (H : HasLawWays T) (t : Tm) (w : List Bool) (n : Nat) (ob : List Ob) (hok : t.ok = true) (hl : t.lv ≤ 200) (hw : w ∈ waysT t) (hn : 204 ≤ n) : (sem T n).run 220 [.dat (tD t), .dat (wD w)] ob = .ok (.dat (tD (stepT t w))) ob ∧ (sem T n).run 206 [.dat (tD (stepT t w))] ob = .ok (.dat (.int (stepT t w).lv)) ob := by
  obtain ⟨p, hp, hr⟩ := ways_part t w hw
  have hwl := ways_wlen t w hw
  have hd := t.dep_lv
  have h2 := red_step_dep hp hr
  exact ⟨r_lstep H.toHasLawSteps t p w n ob hok (by omega) hp hr (by omega), r_law_leaves H.lleaves (stepT t w) n ob (by omega)⟩
def t_lp : M Bool := bAnd (bVal (mBin (oCmp .Lt) (.ev (mUn (fun _ => vLen) (.pk 2))) (.pk 1))) (bAnd (bVal (mBin (oCmp .NotEq) (.pk 3) (.ev (mLst [])))) (bVal (mBin (oCmp .LtE) (.ev (mCall 206 [mCall 220 [mVar 0, mBin (fun _ => vIdx) (.pk 3) (.ev (mCon (.int (0))))] []] [])) (.ev (mCon (.int (200)))))))
def b_lp : M Fl := sSeq (sOwn 2 kApp [mBin (fun _ => vIdx) (.pk 3) (.ev (mCon (.int (0))))]) (sSeq (sAsg 0 (mCall 220 [mVar 0, mBin (fun _ => vIdx) (.pk 3) (.ev (mCon (.int (0))))] [])) (sAsg 3 (mCall 219 [mVar 0] [])))
theorem lplay_loop (H : HasLawWays T) (n : Nat) (hn : 204 ≤ n) (mo : Nat) (hmo : mo ≤ 400) (ob : List Ob) : ∀ (k : Nat) (f : Nat) (t : Tm) (acc : List (List Bool)), k + acc.length = mo → k + 1 ≤ f → t.ok = true → t.lv ≤ 200 →
    fin ((sSeq (fun cs s => whileLoop t_lp b_lp cs f s) (sRet (mTup [mVar 0, mVar 2]))) (sem T n) ⟨[some (.dat (tD t)), some (.dat (.int mo)), some (.own (acc.map wD)), some (.own ((waysT t).map wD))], ob⟩) = .ok (.dat (.tuple [tD (playT k t).1, .list ((acc ++ (playT k t).2).map wD)])) ob
  | 0, f, t, acc, hk, hf, hok, hl => by
    obtain ⟨g, rfl⟩ : ∃ g, f = g + 1 := ⟨f - 1, by omega⟩
    have : ¬ ((acc.length : Int) < mo) := by omega
    simp [x_while_succ, t_lp, this, playT]
  | k + 1, f, t, acc, hk, hf, hok, hl => by
    obtain ⟨g, rfl⟩ : ∃ g, f = g + 1 := ⟨f - 1, by omega⟩
    have hlt : ((acc.length : Int) < mo) := by omega
    have hd := t.dep_lv
    cases hw : waysT t with
    | nil =>
      simp [x_while_succ, t_lp, b_lp, hlt, playT, hw, eqv_nil]
    | cons w ws =>
      have hm : w ∈ waysT t := by rw [hw]; exact List.mem_cons_self
      obtain ⟨p, hp, hr⟩ := ways_part t w hm
      obtain ⟨r2, r3⟩ := r_step_leaves H t w n ob hok hl hm hn
      by_cases hs : (stepT t w).lv ≤ 200
      · have hs' : ((stepT t w).lv : Int) ≤ 200 := by omega
        have sd := (stepT t w).dep_lv
        have r4 := r_lways H (stepT t w) n ob (step_ok t w hok) (by omega) (by omega)
        have q := lplay_loop H n hn mo hmo ob k g (stepT t w) (acc ++ [w]) (by simp; omega) (by omega) (step_ok t w hok) hs
        have hb : acc.length < big := by unfold big; omega
        have eb : b_lp (sem T n) ⟨[some (.dat (tD t)), some (.dat (.int mo)), some (.own (acc.map wD)), some (.own ((w :: ws).map wD))], ob⟩ = .ok .nx ⟨[some (.dat (tD (stepT t w))), some (.dat (.int mo)), some (.own ((acc ++ [w]).map wD)), some (.own ((waysT (stepT t w)).map wD))], ob⟩ := by
          simp [b_lp, r2, r4, hb]
        have et : t_lp (sem T n) ⟨[some (.dat (tD t)), some (.dat (.int mo)), some (.own (acc.map wD)), some (.own ((w :: ws).map wD))], ob⟩ = .ok true ⟨[some (.dat (tD t)), some (.dat (.int mo)), some (.own (acc.map wD)), some (.own ((w :: ws).map wD))], ob⟩ := by
          simp [t_lp, hlt, r2, r3, hs', eqv_nil]
        rw [x_seq] at q ⊢
        rw [while_go g et eb]
        have e2 : playT (k + 1) t = ((playT k (stepT t w)).1, w :: (playT k (stepT t w)).2) := by
          show (match waysT t with | [] => _ | w :: _ => _) = _
          rw [hw]
          simp [hs]
        rw [e2]
        simp only [List.append_assoc, List.singleton_append] at q
        exact q
      · have hs' : ¬ ((stepT t w).lv : Int) ≤ 200 := by omega
        have e2 : playT (k + 1) t = (t, []) := by
          show (match waysT t with | [] => _ | w :: _ => _) = _
          rw [hw]
          simp [hs]
        simp [x_while_succ, t_lp, b_lp, hlt, r2, r3, hs', e2, eqv_nil]
theorem r_lplayed (H : HasLawWays T) (h : T 222 = some d__law_played) (t : Tm) (mo : Nat) (n : Nat) (ob : List Ob) (hok : t.ok = true) (hl : t.lv ≤ 200) (hmo : mo ≤ 400) (hn : 206 ≤ n) : (sem T n).run 222 [.dat (tD t), .dat (.int mo)] ob = .ok (.dat (.tuple [tD (playT mo t).1, .list ((playT mo t).2.map wD)])) ob := by
  obtain ⟨m, rfl⟩ : ∃ m, n = m + 1 := ⟨n - 1, by omega⟩
  rw [sem_run h]
  have hd := t.dep_lv
  have r1 := r_lways H t m ob hok (by omega) (by omega)
  have q := lplay_loop H m (by omega) mo hmo ob mo wFuel t [] (by simp) (by unfold wFuel; omega) hok hl
  unfold d__law_played
  refine Eq.trans (runDef_fin _ _ _ _ _ _ rfl) ?_
  unfold t_lp b_lp at q
  simp at q
  simp [r1]
  exact q
end
end CH

/-! CH29: a walk of drawn steps. -/
namespace CH
open PySem L2
section
variable {T : Nat → Option FnDef}
end
end CH

/-! CH30: a law's count, its steps told or not, small terms, steps back. -/
namespace CH
open PySem L2
def d_shows : FnDef := ⟨3, 3, sSeq (sExpr (mCall 4 [mVar 1] [])) (sRet (mBin (oCmp .Eq) (.ev (mCall 43 [mCall 4 [mVar 0] [], mVar 2] [])) (.pk 1)))⟩
def d__law_whole : FnDef := ⟨1, 1, sRet (mAnd (mUn (oIsa .int) (.pk 0)) (mUn oNot (.ev (mUn (oIsa .bool) (.pk 0)))))⟩
def d__law_count : FnDef := ⟨1, 3, sSeq (sIf (bTru (.ev (mUn (oIsa .tuple) (.pk 0)))) (sRet (mIf (bVal (mBin (oCmp .Eq) (.ev (mUn (fun _ => vLen) (.pk 0))) (.ev (mCon (.int (2)))))) (mBin (fun _ => vBin .Add) (.ev (mCall 208 [mBin (fun _ => vIdx) (.pk 0) (.ev (mCon (.int (0))))] [])) (.ev (mCall 208 [mBin (fun _ => vIdx) (.pk 0) (.ev (mCon (.int (1))))] []))) (mUn (fun _ => vNeg) (.ev (mCon (.int (1000))))))) sPass) (sSeq (sIf (bNot (bTru (.ev (mUn (oIsa .str) (.pk 0))))) (sRet (mUn (fun _ => vNeg) (.ev (mCon (.int (1000)))))) sPass) (sSeq (sAsg 1 (mComp (.seq (mVar 0)) (.nm 2) [2] (some (bVal (mBin (oCmp .NotIn) (.pk 2) (.ev (mCon (.str "abcdefghijklmnopqrstuvwxyz")))))) (mVar 2))) (sRet (mIf (bOr (bVal (mBin (oCmp .In) (.pk 0) (.ev (mTup [mCon (.str "K"), mCon (.str "S")])))) (bAnd (bVal (mChain .LtE .LtE (.ev (mCon (.int (1)))) (.ev (mUn (fun _ => vLen) (.pk 0))) (.ev (mCon (.int (3)))))) (bVal (mBin (oCmp .Eq) (.pk 1) (.ev (mLst [])))))) (mCon (.int (1))) (mUn (fun _ => vNeg) (.ev (mCon (.int (1000)))))))))⟩
def d__law_small : FnDef := ⟨2, 4, sSeq (sAsg 2 (mCall 201 [mVar 0, mVar 1] [])) (sSeq (sAsg 3 (mBin (fun _ => vIdx) (.ev (mCall 204 [mVar 2, mCon (.int (1)), mBin (fun _ => vBin .Add) (.ev (mCon (.int (1)))) (.ev (mBin (fun _ => vBin .Mod) (.ev (mBin (fun _ => vIdx) (.pk 2) (.ev (mCon (.int (0)))))) (.ev (mCon (.int (3))))))] [])) (.ev (mCon (.int (0)))))) (sSeq (sIf (bVal (mBin (oCmp .Eq) (.ev (mBin (fun _ => vBin .Mod) (.ev (mBin (fun _ => vIdx) (.pk 2) (.ev (mCon (.int (1)))))) (.ev (mCon (.int (3)))))) (.ev (mCon (.int (0)))))) (sRet (mTup [mTup [mTup [mCon (.str "S"), mVar 3], mCall 203 [mBin (fun _ => vIdx) (.pk 2) (.ev (mCon (.int (2))))] []], mBin (fun _ => vIdx) (.ev (mCall 204 [mVar 2, mCon (.int (40)), mCon (.int (2))] [])) (.ev (mCon (.int (0))))])) sPass) (sRet (mVar 3))))⟩
def d__law_back : FnDef := ⟨3, 6, sSeq (sAsg 3 (mBin (fun _ => vBin .Mod) (.ev (mBin (fun _ => vIdx) (.pk 1) (.pk 2))) (.ev (mCon (.int (4)))))) (sSeq (sAsg 4 (mBin (fun _ => vIdx) (.ev (mCall 204 [mVar 1, mBin (fun _ => vBin .Mod) (.ev (mBin (fun _ => vBin .Add) (.pk 2) (.ev (mCon (.int (7)))))) (.ev (mCon (.int (50)))), mCon (.int (1))] [])) (.ev (mCon (.int (0)))))) (sSeq (sIf (bOr (bVal (mBin (oCmp .Eq) (.pk 3) (.ev (mCon (.int (0)))))) (bTru (.ev (mUn (oIsa .str) (.pk 0))))) (sRet (mTup [mTup [mTup [mCon (.str "K"), mVar 0], mVar 4], mTup []])) sPass) (sSeq (sIf (bVal (mBin (oCmp .Eq) (.pk 3) (.ev (mCon (.int (1)))))) (sRet (mTup [mTup [mTup [mTup [mCon (.str "K"), mBin (fun _ => vIdx) (.pk 0) (.ev (mCon (.int (0))))], mVar 4], mBin (fun _ => vIdx) (.pk 0) (.ev (mCon (.int (1))))], mTup [mCon (.int (0))]])) sPass) (sSeq (sIf (bVal (mBin (oCmp .Eq) (.pk 3) (.ev (mCon (.int (2)))))) (sRet (mTup [mTup [mBin (fun _ => vIdx) (.pk 0) (.ev (mCon (.int (0)))), mTup [mTup [mCon (.str "K"), mBin (fun _ => vIdx) (.pk 0) (.ev (mCon (.int (1))))], mVar 4]], mTup [mCon (.int (1))]])) sPass) (sSeq (sAsg 5 (mAnd (mUn (oIsa .tuple) (.ev (mBin (fun _ => vIdx) (.pk 0) (.ev (mCon (.int (0))))))) (mAnd (mUn (oIsa .tuple) (.ev (mBin (fun _ => vIdx) (.pk 0) (.ev (mCon (.int (1))))))) (mBin (oCmp .Eq) (.ev (mBin (fun _ => vIdx) (.ev (mBin (fun _ => vIdx) (.pk 0) (.ev (mCon (.int (0)))))) (.ev (mCon (.int (1)))))) (.ev (mBin (fun _ => vIdx) (.ev (mBin (fun _ => vIdx) (.pk 0) (.ev (mCon (.int (1)))))) (.ev (mCon (.int (1)))))))))) (sSeq (sIf (bTru (.pk 5)) (sRet (mTup [mTup [mTup [mTup [mCon (.str "S"), mBin (fun _ => vIdx) (.ev (mBin (fun _ => vIdx) (.pk 0) (.ev (mCon (.int (0)))))) (.ev (mCon (.int (0))))], mBin (fun _ => vIdx) (.ev (mBin (fun _ => vIdx) (.pk 0) (.ev (mCon (.int (1)))))) (.ev (mCon (.int (0))))], mBin (fun _ => vIdx) (.ev (mBin (fun _ => vIdx) (.pk 0) (.ev (mCon (.int (0)))))) (.ev (mCon (.int (1))))], mTup []])) sPass) (sRet (mTup [mTup [mTup [mCon (.str "K"), mVar 0], mVar 4], mTup []]))))))))⟩
def d__law_after : FnDef := ⟨2, 4, sSeq (sIf (bOr (bNot (bTru (.ev (mUn (oIsa .tuple) (.pk 1))))) (bOr (bVal (mBin (oCmp .NotEq) (.ev (mComp (.seq (mVar 1)) (.nm 3) [3] (some (bNot (bTru (.ev (mCall 233 [mVar 3] []))))) (mVar 3))) (.ev (mLst [])))) (bVal (mBin (oCmp .NotIn) (.pk 1) (.ev (mCall 219 [mVar 0] [])))))) (sRet (mCon (.none))) sPass) (sSeq (sAsg 2 (mCall 220 [mVar 0, mVar 1] [])) (sRet (mIf (bVal (mBin (oCmp .LtE) (.ev (mCall 206 [mVar 2] [])) (.ev (mCon (.int (200)))))) (mVar 2) (mCon (.none)))))⟩
def d__law_end : FnDef := ⟨2, 4, sSeq (sIf (bOr (bNot (bTru (.ev (mUn (oIsa .list) (.pk 1))))) (bVal (mBin (oCmp .Gt) (.ev (mUn (fun _ => vLen) (.pk 1))) (.ev (mCon (.int (12))))))) (sRet (mCon (.none))) sPass) (sSeq (sFor (.seq (mVar 1)) (.nm 2) (sIf (bAnd (bVal (mBin (oCmp .IsNot) (.pk 0) (.ev (mCon (.none))))) (bAnd (bTru (.ev (mUn (oIsa .tuple) (.pk 2)))) (bAnd (bVal (mBin (oCmp .Eq) (.ev (mUn (fun _ => vLen) (.pk 2))) (.ev (mCon (.int (2)))))) (bVal (mBin (oCmp .Eq) (.ev (mBin (fun _ => vIdx) (.pk 2) (.ev (mCon (.int (0)))))) (.ev (mCon (.str "on")))))))) (sAsg 0 (mCall 236 [mVar 0, mBin (fun _ => vIdx) (.pk 2) (.ev (mCon (.int (1))))] [])) (sIf (bAnd (bVal (mBin (oCmp .IsNot) (.pk 0) (.ev (mCon (.none))))) (bAnd (bTru (.ev (mUn (oIsa .tuple) (.pk 2)))) (bAnd (bVal (mBin (oCmp .Eq) (.ev (mUn (fun _ => vLen) (.pk 2))) (.ev (mCon (.int (3)))))) (bVal (mBin (oCmp .Eq) (.ev (mBin (fun _ => vIdx) (.pk 2) (.ev (mCon (.int (0)))))) (.ev (mCon (.str "back")))))))) (sSeq (sAsg 3 (mAnd (mChain .Lt .LtE (.ev (mCon (.int (0)))) (.ev (mCall 208 [mBin (fun _ => vIdx) (.pk 2) (.ev (mCon (.int (1))))] [])) (.ev (mCon (.int (200))))) (mBin (oCmp .Eq) (.ev (mCall 236 [mBin (fun _ => vIdx) (.pk 2) (.ev (mCon (.int (1)))), mBin (fun _ => vIdx) (.pk 2) (.ev (mCon (.int (2))))] [])) (.pk 0)))) (sAsg 0 (mIf (bTru (.pk 3)) (mBin (fun _ => vIdx) (.pk 2) (.ev (mCon (.int (1))))) (mCon (.none))))) (sAsg 0 (mCon (.none)))))) (sRet (mVar 0)))⟩

structure HasLawPapers (T : Nat → Option FnDef) : Prop extends HasLawWays T where
  lcount : T 208 = some d__law_count
  whole : T 233 = some d__law_whole
  lafter : T 236 = some d__law_after
section
variable {T : Nat → Option FnDef}
theorem in_KS (cs : Cs) (x : Str) : vIn cs (.dat (.str x)) (.dat (.tuple [.str "K", .str "S"])) = some (("K" : Str) == x || ("S" : Str) == x) := by
  have e0 : vIn cs (.dat (.str x)) (.dat (.tuple [.str "K", .str "S"])) = inD cs (.str x) [.str "K", .str "S"] := rfl
  rw [e0]
  unfold inD
  rw [if_pos (by simp only [PyData.depth, PyData.depthAll]; unfold rm; omega)]
  simp [PyData.eqv]
theorem r_count (h : T 208 = some d__law_count) : ∀ (t : Tm) (n : Nat) (ob : List Ob), t.ok = true → t.dep + 1 ≤ n → (sem T n).run 208 [.dat (tD t)] ob = .ok (.dat (.int t.lv)) ob := by
  intro t
  have leaf : ∀ (x : Str), (x = "K" ∨ x = "S" ∨ isNm x = true) → ∀ (n : Nat) (ob : List Ob), 1 ≤ n → (sem T n).run 208 [.dat (.str x)] ob = .ok (.dat (.int 1)) ob := by
    intro x hx n ob hn
    obtain ⟨m, rfl⟩ : ∃ m, n = m + 1 := ⟨n - 1, by omega⟩
    have hlen : x.length ≤ 3 := by
      rcases hx with rfl | rfl | hx
      · decide +kernel
      · decide +kernel
      · exact nm_len hx
    have hlen2 : x.cps.toList.length ≤ 3 := by
      have : x.length = x.cps.toList.length := by simp [Str.length]
      omega
    have hb : x.length ≤ big := by unfold big; omega
    have hbig : 100000 ≤ big := by unfold big; omega
    have q := loop_filG (cs := sem T m) (i := 2) (t := bVal (mBin (oCmp .NotIn) (.pk 2) (.ev (mCon (.str "abcdefghijklmnopqrstuvwxyz"))))) (elt := mVar 2) (fun c => PyData.str ⟨#[c]⟩) (fun c => PyData.str ⟨#[c]⟩) (fun c => !small c) ⟨[some (.dat (.str x)), none, none], ob⟩ (fun d => rfl) x.cps.toList [] (by
      intro c _
      simp [vIn_sign]) (by intro c _ _; simp) (by simp only [List.length_nil]; omega)
    have es : signs x = x.cps.toList.map fun c => PyData.str ⟨#[c]⟩ := rfl
    rw [← es] at q
    have rk := in_KS (sem T m) x
    rw [sem_run h]
    unfold d__law_count
    refine Eq.trans (runDef_fin _ _ _ _ _ _ rfl) ?_
    simp only [List.nil_append] at q
    rcases hx with rfl | rfl | hx
    · have e : (("K" : Str) == "K" || ("S" : Str) == "K") = true := by decide +kernel
      rw [e] at rk
      simp [q, rk]
    · have e : (("K" : Str) == "S" || ("S" : Str) == "S") = true := by decide +kernel
      rw [e] at rk
      simp [q, rk]
    · have hall : x.cps.toList.filter (fun c => !small c) = [] := by
        unfold isNm at hx
        rw [Bool.and_eq_true, Bool.and_eq_true] at hx
        have := hx.2.2
        unfold allSmall at this
        rw [List.all_eq_true] at this
        rw [List.filter_eq_nil_iff]
        intro c hc
        simp [this c hc]
      rw [hall] at q
      have hx2 := hx
      unfold isNm at hx2
      simp only [Bool.and_eq_true, decide_eq_true_eq] at hx2
      have h1 : (1 : Int) ≤ x.length := by omega
      have h3 : (x.length : Int) ≤ 3 := by omega
      simp at q
      cases hks : (("K" : Str) == x || ("S" : Str) == x) with
      | true =>
        rw [hks] at rk
        simp [q, rk]
      | false =>
        rw [hks] at rk
        simp [q, rk, hb, h1, h3, eqv_nil]
  induction t with
  | K => exact fun n ob _ hn => leaf "K" (.inl rfl) n ob (by omega)
  | S => exact fun n ob _ hn => leaf "S" (.inr (.inl rfl)) n ob (by omega)
  | nm x => exact fun n ob hok hn => leaf x (.inr (.inr hok)) n ob (by omega)
  | ap a b iha ihb =>
    intro n ob hok hn
    obtain ⟨m, rfl⟩ : ∃ m, n = m + 1 := ⟨n - 1, by omega⟩
    have hd : max a.dep b.dep + 1 + 1 ≤ m + 1 := hn
    have r1 := iha m ob (ap_ok hok).1 (by omega)
    have r2 := ihb m ob (ap_ok hok).2 (by omega)
    rw [sem_run h]
    unfold d__law_count
    refine Eq.trans (runDef_fin _ _ _ _ _ _ rfl) ?_
    have et : tD (.ap a b) = .tuple [tD a, tD b] := rfl
    simp [et, PyData.eqv, r1, r2, Tm.lv]
structure HasSmall (T : Nat → Option FnDef) : Prop extends HasRow T, HasGrown T where
  small : T 232 = some d__law_small
  lback : T 234 = some d__law_back
end
end CH

/-! CH31: papers of any lines. -/
namespace CH
open PySem L2
def b_lend : M Fl := sIf (bAnd (bVal (mBin (oCmp .IsNot) (.pk 0) (.ev (mCon (.none))))) (bAnd (bTru (.ev (mUn (oIsa .tuple) (.pk 2)))) (bAnd (bVal (mBin (oCmp .Eq) (.ev (mUn (fun _ => vLen) (.pk 2))) (.ev (mCon (.int (2)))))) (bVal (mBin (oCmp .Eq) (.ev (mBin (fun _ => vIdx) (.pk 2) (.ev (mCon (.int (0)))))) (.ev (mCon (.str "on")))))))) (sAsg 0 (mCall 236 [mVar 0, mBin (fun _ => vIdx) (.pk 2) (.ev (mCon (.int (1))))] [])) (sIf (bAnd (bVal (mBin (oCmp .IsNot) (.pk 0) (.ev (mCon (.none))))) (bAnd (bTru (.ev (mUn (oIsa .tuple) (.pk 2)))) (bAnd (bVal (mBin (oCmp .Eq) (.ev (mUn (fun _ => vLen) (.pk 2))) (.ev (mCon (.int (3)))))) (bVal (mBin (oCmp .Eq) (.ev (mBin (fun _ => vIdx) (.pk 2) (.ev (mCon (.int (0)))))) (.ev (mCon (.str "back")))))))) (sSeq (sAsg 3 (mAnd (mChain .Lt .LtE (.ev (mCon (.int (0)))) (.ev (mCall 208 [mBin (fun _ => vIdx) (.pk 2) (.ev (mCon (.int (1))))] [])) (.ev (mCon (.int (200))))) (mBin (oCmp .Eq) (.ev (mCall 236 [mBin (fun _ => vIdx) (.pk 2) (.ev (mCon (.int (1)))), mBin (fun _ => vIdx) (.pk 2) (.ev (mCon (.int (2))))] [])) (.pk 0)))) (sAsg 0 (mIf (bTru (.pk 3)) (mBin (fun _ => vIdx) (.pk 2) (.ev (mCon (.int (1))))) (mCon (.none))))) (sAsg 0 (mCon (.none))))
/-- a line: what the program and a law make of it -/
structure LnOk (T : Nat → Option FnDef) (d : PyData) (g : Tm → Option Tm) : Prop where
  prog : ∀ (t : Tm) (n : Nat) (ob : List Ob), t.ok = true → t.lv ≤ 200 → 206 ≤ n → (sem T n).run 41 [.dat (tD t), .dat d] ob = .ok (.dat (oD (g t))) ob
  law : ∀ (t : Tm) (n : Nat) (ob : List Ob) (P o3 : Option Val), t.ok = true → t.lv ≤ 200 → 206 ≤ n → ∃ o3', b_lend (sem T n) ⟨[some (.dat (tD t)), P, some (.dat d), o3], ob⟩ = .ok .nx ⟨[some (.dat (oD (g t))), P, some (.dat d), o3'], ob⟩
  res : ∀ (t u : Tm), t.ok = true → t.lv ≤ 200 → g t = some u → u.ok = true ∧ u.lv ≤ 200
structure HasEnds (T : Nat → Option FnDef) : Prop extends HasSteps T, HasPapers T, HasLawPapers T where
  shows : T 44 = some d_shows
  lend : T 237 = some d__law_end
section
variable {T : Nat → Option FnDef}
/-- lines that lead nowhere -/
inductive BadLn : PyData → Prop
  | onNone : BadLn (.tuple [.str "on", .none])
  | on1 : BadLn (.tuple [.str "on"])
  | back2 (x : PyData) : BadLn (.tuple [.str "back", x])
  | on3 (x y : PyData) : BadLn (.tuple [.str "on", x, y])
  | back4 (x y z : PyData) : BadLn (.tuple [.str "back", x, y, z])
  | lst (xs : List PyData) : BadLn (.list xs)
  | non : BadLn .none
  | tup0 : BadLn (.tuple [])
  | backNone : BadLn (.tuple [.str "back", .none, .tuple []])
  | noneTup : BadLn (.tuple [.none, .tuple []])
/-- a paper of any kind -/
inductive PapOk (T : Nat → Option FnDef) : PyData → Prop
  | tup (ds : List PyData) : PapOk T (.tuple ds)
  | non : PapOk T .none
  | lst (ds : List PyData) : (∀ d ∈ ds, ∃ g, LnOk T d g) → PapOk T (.list ds)
end
end CH

/-! CH32: the names of terms; a name filled. -/
namespace CH
open PySem L2
def d_names_of : FnDef := ⟨1, 1, sSeq (sIf (bTru (.ev (mUn (oIsa .str) (.pk 0)))) (sRet (mIf (bTru (.ev (mCall 0 [mVar 0] []))) (mLst [mVar 0]) (mLst []))) sPass) (sRet (mUn (fun _ => vSS) (.ev (mBin (fun _ => vBin .Add) (.ev (mCall 6 [mBin (fun _ => vIdx) (.pk 0) (.ev (mCon (.int (0))))] [])) (.ev (mCall 6 [mBin (fun _ => vIdx) (.pk 0) (.ev (mCon (.int (1))))] []))))))⟩
def d_look_name : FnDef := ⟨1, 1, sIf (bNot (bTru (.ev (mCall 0 [mVar 0] [])))) (sRaiseF 5 "name" (mVar 0)) sPass⟩
def d_filled_in : FnDef := ⟨3, 3, sSeq (sIf (bTru (.ev (mUn (oIsa .str) (.pk 0)))) (sRet (mIf (bVal (mBin (oCmp .Eq) (.pk 0) (.pk 1))) (mVar 2) (mVar 0))) sPass) (sRet (mTup [mCall 48 [mBin (fun _ => vIdx) (.pk 0) (.ev (mCon (.int (0)))), mVar 1, mVar 2] [], mCall 48 [mBin (fun _ => vIdx) (.pk 0) (.ev (mCon (.int (1)))), mVar 1, mVar 2] []]))⟩
def d_filled : FnDef := ⟨3, 3, sSeq (sExpr (mCall 4 [mVar 0] [])) (sSeq (sExpr (mCall 47 [mVar 1] [])) (sRet (mCall 15 [mCall 48 [mVar 0, mVar 1, mCall 4 [mVar 2] []] []] [])))⟩
def d__law_names : FnDef := ⟨1, 1, sSeq (sIf (bTru (.ev (mUn (oIsa .str) (.pk 0)))) (sRet (mIf (bVal (mBin (oCmp .In) (.pk 0) (.ev (mTup [mCon (.str "K"), mCon (.str "S")])))) (mLst []) (mLst [mVar 0]))) sPass) (sRet (mUn (fun _ => vSS) (.ev (mBin (fun _ => vBin .Add) (.ev (mCall 207 [mBin (fun _ => vIdx) (.pk 0) (.ev (mCon (.int (0))))] [])) (.ev (mCall 207 [mBin (fun _ => vIdx) (.pk 0) (.ev (mCon (.int (1))))] []))))))⟩
def d_names_in : FnDef := ⟨1, 1, sRet (mCall 6 [mCall 4 [mVar 0] []] [])⟩

theorem txts_str (xs : List Str) : txtsOf (xs.map PyData.str) = some xs := by
  induction xs with
  | nil => rfl
  | cons x xs ih =>
    show (txtsOf (xs.map PyData.str)).map (x :: ·) = _
    rw [ih]
    rfl
section
variable {T : Nat → Option FnDef}
/-- what is no name -/
def noNm : PyData → Bool
  | .str x => !isNm x
  | .dict _ => false
  | _ => true
theorem r_no_name (h : T 0 = some d_is_name) (d : PyData) (hd : noNm d = true) (hl : ∀ x, d = .str x → x.length ≤ 1000000) (n : Nat) (ob : List Ob) : (sem T (n + 1)).run 0 [.dat d] ob = .ok (.dat (.bool false)) ob := by
  cases d with
  | str x =>
    have r := r_is_name h n x (hl x rfl) ob
    have e : isNm x = false := by simpa [noNm] using hd
    rw [e] at r
    exact r
  | dict _ => cases hd
  | none => rw [sem_run h]; unfold d_is_name; refine Eq.trans (runDef_fin _ _ _ _ _ _ rfl) ?_; simp [isa]
  | bool _ => rw [sem_run h]; unfold d_is_name; refine Eq.trans (runDef_fin _ _ _ _ _ _ rfl) ?_; simp [isa]
  | int _ => rw [sem_run h]; unfold d_is_name; refine Eq.trans (runDef_fin _ _ _ _ _ _ rfl) ?_; simp [isa]
  | list _ => rw [sem_run h]; unfold d_is_name; refine Eq.trans (runDef_fin _ _ _ _ _ _ rfl) ?_; simp [isa]
  | tuple _ => rw [sem_run h]; unfold d_is_name; refine Eq.trans (runDef_fin _ _ _ _ _ _ rfl) ?_; simp [isa]
/-! ### filled -/
end
end CH

/-! CH33: a name taken out. -/
namespace CH
open PySem L2
def d_taken_out : FnDef := ⟨3, 3, sSeq (sIf (bAnd (bTru (.pk 2)) (bVal (mBin (oCmp .NotIn) (.pk 0) (.ev (mCall 6 [mVar 1] []))))) (sRet (mTup [mCon (.str "K"), mVar 1])) sPass) (sSeq (sIf (bTru (.ev (mUn (oIsa .str) (.pk 1)))) (sRet (mIf (bVal (mBin (oCmp .Eq) (.pk 1) (.pk 0))) (mCon (.tuple [.tuple [.str "S", .str "K"], .str "K"])) (mTup [mCon (.str "K"), mVar 1]))) sPass) (sSeq (sIf (bAnd (bTru (.pk 2)) (bAnd (bVal (mBin (oCmp .Eq) (.ev (mBin (fun _ => vIdx) (.pk 1) (.ev (mCon (.int (1)))))) (.pk 0))) (bVal (mBin (oCmp .NotIn) (.pk 0) (.ev (mCall 6 [mBin (fun _ => vIdx) (.pk 1) (.ev (mCon (.int (0))))] [])))))) (sRet (mBin (fun _ => vIdx) (.pk 1) (.ev (mCon (.int (0)))))) sPass) (sRet (mTup [mTup [mCon (.str "S"), mCall 50 [mVar 0, mBin (fun _ => vIdx) (.pk 1) (.ev (mCon (.int (0)))), mVar 2] []], mCall 50 [mVar 0, mBin (fun _ => vIdx) (.pk 1) (.ev (mCon (.int (1)))), mVar 2] []]))))⟩
def d_without : FnDef := ⟨3, 3, sSeq (sExpr (mCall 47 [mVar 0] [])) (sRet (mCall 15 [mCall 50 [mVar 0, mCall 4 [mVar 1] [], mVar 2] []] []))⟩
def d_without_all : FnDef := ⟨3, 6, sSeq (sFor (.enum (mVar 0)) (.tup [(.nm 3), (.nm 4)]) (sSeq (sExpr (mCall 47 [mVar 4] [])) (sIf (bVal (mBin (oCmp .In) (.pk 4) (.ev (mSl (.pk 0) none (some (mVar 3)))))) (sRaiseF 5 "name" (mVar 4)) sPass))) (sSeq (sAsg 5 (mCall 4 [mVar 1] [])) (sSeq (sFor (.rev (mVar 0)) (.nm 4) (sAsg 5 (mCall 15 [mCall 50 [mVar 4, mVar 5, mVar 2] []] []))) (sRet (mVar 5))))⟩
def d__law_out : FnDef := ⟨3, 3, sSeq (sIf (bAnd (bTru (.pk 2)) (bVal (mBin (oCmp .NotIn) (.pk 0) (.ev (mCall 207 [mVar 1] []))))) (sRet (mTup [mCon (.str "K"), mVar 1])) sPass) (sSeq (sIf (bTru (.ev (mUn (oIsa .str) (.pk 1)))) (sRet (mIf (bVal (mBin (oCmp .Eq) (.pk 1) (.pk 0))) (mTup [mTup [mCon (.str "S"), mCon (.str "K")], mCon (.str "K")]) (mTup [mCon (.str "K"), mVar 1]))) sPass) (sSeq (sIf (bAnd (bTru (.pk 2)) (bAnd (bVal (mBin (oCmp .Eq) (.ev (mBin (fun _ => vIdx) (.pk 1) (.ev (mCon (.int (1)))))) (.pk 0))) (bVal (mBin (oCmp .NotIn) (.pk 0) (.ev (mCall 207 [mBin (fun _ => vIdx) (.pk 1) (.ev (mCon (.int (0))))] [])))))) (sRet (mBin (fun _ => vIdx) (.pk 1) (.ev (mCon (.int (0)))))) sPass) (sRet (mTup [mTup [mCon (.str "S"), mCall 243 [mVar 0, mBin (fun _ => vIdx) (.pk 1) (.ev (mCon (.int (0)))), mVar 2] []], mCall 243 [mVar 0, mBin (fun _ => vIdx) (.pk 1) (.ev (mCon (.int (1)))), mVar 2] []]))))⟩

section
variable {T : Nat → Option FnDef}
theorem r_grown2 (H : HasGrown T) {ks : List Nat} (hlt : ∀ k ∈ ks, k < 1000) : ∀ (deep a n : Nat) (ob : List Ob), deep + 3 ≤ n → ∃ (t : Tm) (b : Nat), t.ok = true ∧ t.lv + a ≤ b ∧ (36 ≤ a → b = a + 1) ∧ (a < 36 → b ≤ 37 + 2 * deep) ∧ t.dep ≤ 3 * deep ∧
    (sem T n).run 204 [.dat (.list (ks.map fun (k : Nat) => PyData.int k)), .dat (.int a), .dat (.int deep)] ob = .ok (.dat (.tuple [tD t, .int b])) ob := by
  intro deep
  induction deep with
  | zero =>
    intro a n ob hn
    obtain ⟨m, rfl⟩ : ∃ m, n = (m + 2) + 1 := ⟨n - 3, by omega⟩
    have hr := rowAt_lt hlt a
    have rl := r_law_leaf H.name H.lleaf (rowAt ks a / 8) m ob
    have ec : ((rowAt ks a / 8 : Nat) : Int) = (rowAt ks a : Int) / 8 := by omega
    rw [ec] at rl
    have lok := leafN_ok (rowAt ks a / 8) (by omega)
    have llv := leafN_lv (rowAt ks a / 8)
    have lde := (leafN (rowAt ks a / 8)).dep_lv
    refine ⟨leafN (rowAt ks a / 8), a + 1, lok, by omega, fun _ => rfl, fun _ => by omega, by omega, ?_⟩
    rw [sem_run H.grown]
    unfold d__law_grown
    refine Eq.trans (runDef_fin _ _ _ _ _ _ rfl) ?_
    by_cases ha : a < ks.length
    · have ha' : (a : Int) < ks.length := by omega
      have i1 := idx_row ks a ha
      simp [ha', i1, PyData.eqv, rl]
    · have ha' : ¬ (a : Int) < ks.length := by omega
      have e0 := rowAt_out ha
      rw [e0] at rl ⊢
      simp at rl
      simp [ha', PyData.eqv, rl]
  | succ deep ih =>
    intro a n ob hn
    obtain ⟨m, rfl⟩ : ∃ m, n = (m + 2) + 1 := ⟨n - 3, by omega⟩
    have hr := rowAt_lt hlt a
    have e8 : ((rowAt ks a / 8 : Nat) : Int) = (rowAt ks a : Int) / 8 := by omega
    have rl := r_law_leaf H.name H.lleaf (rowAt ks a / 8) m ob
    rw [e8] at rl
    have lok := leafN_ok (rowAt ks a / 8) (by omega)
    have llv := leafN_lv (rowAt ks a / 8)
    have lde := (leafN (rowAt ks a / 8)).dep_lv
    have hnum : ∀ (s : S), s = ⟨[some (.dat (.list (ks.map fun (k : Nat) => PyData.int k))), some (.dat (.int a)), some (.dat (.int ((deep + 1 : Nat) : Int))), none, none, none, none, none, none], ob⟩ → (sAsg 3 (mIf (bVal (mBin (oCmp .Lt) (.pk 1) (.ev (mUn (fun _ => vLen) (.pk 0))))) (mBin (fun _ => vIdx) (.pk 0) (.pk 1)) (mCon (.int (0))))) (sem T (m + 2)) s = .ok .nx (s.put 3 (some (.dat (.int (rowAt ks a))))) := by
      intro s hs
      subst hs
      by_cases ha : a < ks.length
      · have ha' : (a : Int) < ks.length := by omega
        have i1 := idx_row ks a ha
        simp [ha', i1]
      · have ha' : ¬ (a : Int) < ks.length := by omega
        rw [rowAt_out ha]
        simp [ha']
    have hnum := hnum _ rfl
    have em : (rowAt ks a : Int) % 8 = ((rowAt ks a % 8 : Nat) : Int) := by omega
    have h8 : rowAt ks a % 8 < 8 := by omega
    have hd0 : ¬ (((deep + 1 : Nat) : Int) = 0) := by omega
    have hd1 : ¬ ((deep : Int) + 1 = 0) := by omega
    have hd2 : ((deep : Int) + 1 == 0) = false := by simpa using hd1
    have ed2 : (deep : Int) + 1 - 1 = deep := by omega
    have ea : (a : Int) + 1 = ((a + 1 : Nat) : Int) := by omega
    rw [sem_run H.grown]
    unfold d__law_grown
    by_cases hleaf : rowAt ks a % 8 < 2 ∨ 36 ≤ a
    · refine ⟨leafN (rowAt ks a / 8), a + 1, lok, by omega, fun _ => rfl, fun _ => by omega, by omega, ?_⟩
      refine Eq.trans (runDef_fin _ _ _ _ _ _ rfl) ?_
      rw [x_seq]
      refine Eq.trans (congrArg fin (congrArg (fun r => R.bnd r _) hnum)) ?_
      by_cases h2 : rowAt ks a % 8 < 2
      · have h2' : ((rowAt ks a % 8 : Nat) : Int) < 2 := by omega
        rw [← em] at h2'
        simp [hd0, PyData.eqv, h2', rl]
      · have h2' : ¬ ((rowAt ks a % 8 : Nat) : Int) < 2 := by omega
        have h4 : (36 : Int) ≤ a := by omega
        rw [← em] at h2'
        simp [hd0, PyData.eqv, h2', h4, rl]
    · have h2' : ¬ ((rowAt ks a % 8 : Nat) : Int) < 2 := by omega
      have h4 : ¬ (36 : Int) ≤ a := by omega
      rw [← em] at h2'
      obtain ⟨t1, b1, ok1, l1, p1, q1, d1, r1⟩ := ih (a + 1) (m + 2) ob (by omega)
      obtain ⟨t2, b2, ok2, l2, p2, q2, d2, r2⟩ := ih b1 (m + 2) ob (by omega)
      obtain ⟨t3, b3, ok3, l3, p3, q3, d3, r3⟩ := ih b2 (m + 2) ob (by omega)
      rw [← ea] at r1
      by_cases h5 : rowAt ks a % 8 < 5
      · have h5' : ((rowAt ks a % 8 : Nat) : Int) < 5 := by omega
        have h6' : ¬ ((rowAt ks a % 8 : Nat) : Int) > 5 := by omega
        rw [← em] at h5' h6'
        have h6' : ¬ (5 : Int) < (rowAt ks a : Int) % 8 := h6'
        refine ⟨.ap t1 t2, b2, by simp [Tm.ok, ok1, ok2], by simp only [Tm.lv]; omega, by omega, by omega, by simp only [Tm.dep]; omega, ?_⟩
        refine Eq.trans (runDef_fin _ _ _ _ _ _ rfl) ?_
        rw [x_seq]
        refine Eq.trans (congrArg fin (congrArg (fun r => R.bnd r _) hnum)) ?_
        simp [hd0, PyData.eqv, h2', h4, h5', h6', hd1, hd2, ed2, r1, r2, tD, nums, x_for_cons, s62_2, s62_3, rg2, rg3, bg0, bg1, bg2]
      · have h5' : ¬ ((rowAt ks a % 8 : Nat) : Int) < 5 := by omega
        rw [← em] at h5'
        by_cases h6 : rowAt ks a % 8 = 5
        · have h6' : ((rowAt ks a % 8 : Nat) : Int) = 5 := by omega
          rw [← em] at h6'
          refine ⟨.ap (.ap .K t1) t2, b2, by simp [Tm.ok, ok1, ok2], by simp only [Tm.lv]; omega, by omega, by omega, by simp only [Tm.dep]; omega, ?_⟩
          refine Eq.trans (runDef_fin _ _ _ _ _ _ rfl) ?_
          rw [x_seq]
          refine Eq.trans (congrArg fin (congrArg (fun r => R.bnd r _) hnum)) ?_
          simp [hd0, PyData.eqv, h2', h4, h5', h6', hd1, hd2, ed2, r1, r2, tD, nums, x_for_cons, s62_2, s62_3, rg2, rg3, bg0, bg1, bg2]
        · have h6' : ¬ ((rowAt ks a % 8 : Nat) : Int) = 5 := by omega
          have h7' : (5 : Int) < ((rowAt ks a % 8 : Nat) : Int) := by omega
          rw [← em] at h6' h7'
          refine ⟨.ap (.ap (.ap .S t1) t2) t3, b3, by simp [Tm.ok, ok1, ok2, ok3], by simp only [Tm.lv]; omega, by omega, by omega, by simp only [Tm.dep]; omega, ?_⟩
          refine Eq.trans (runDef_fin _ _ _ _ _ _ rfl) ?_
          rw [x_seq]
          refine Eq.trans (congrArg fin (congrArg (fun r => R.bnd r _) hnum)) ?_
          simp [hd0, PyData.eqv, h2', h4, h5', h6', h7', hd1, hd2, ed2, r1, r2, r3, tD, nums, x_for_cons, s62_2, s62_3, rg2, rg3, bg0, bg1, bg2]
theorem r_drawn2 (H : HasDrawn T) (ns : List Int) (a : Nat) (n : Nat) (ob : List Ob) (hn : 8 ≤ n) : ∃ t : Tm, t.ok = true ∧ t.lv ≤ 44 ∧ t.dep ≤ 12 ∧ (sem T n).run 205 [.scr ns, .dat (.int a)] ob = .ok (.dat (tD t)) ob := by
  obtain ⟨m, rfl⟩ : ∃ m, n = m + 1 := ⟨n - 1, by omega⟩
  obtain ⟨ks, k1, k2, r1⟩ := r_rowN H.toHasRow ns a m ob (by omega)
  obtain ⟨t, b, ok, l, _, q, dd, r2⟩ := r_grown2 H.toHasGrown k2 (1 + rowAt ks 0 % 4) 1 m ob (by omega)
  refine ⟨t, ok, by omega, by omega, ?_⟩
  have i0 := idx_row ks 0 (by omega)
  have e : ((1 + rowAt ks 0 % 4 : Nat) : Int) = 1 + (rowAt ks 0 : Int) % 4 := by omega
  rw [e] at r2
  rw [sem_run H.drawn]
  unfold d__law_drawn
  refine Eq.trans (runDef_fin _ _ _ _ _ _ rfl) ?_
  have i0' : atI (ks.map fun (k : Nat) => PyData.int k) 0 = some (.int (rowAt ks 0)) := i0
  have r2' : (sem T m).run 204 [Val.dat (PyData.list (List.map (fun (k : Nat) => PyData.int ↑k) ks)), Val.dat (PyData.int 1), Val.dat (PyData.int (1 + ↑(rowAt ks 0) % 4))] ob = C.ok (Val.dat (PyData.tuple [tD t, PyData.int ↑b])) ob := r2
  simp [r1, i0', r2']
end
/-! ### a name taken out -/
theorem in_names (cs : Cs) (x : Str) (xs : List Str) : vIn cs (.dat (.str x)) (.dat (.list (xs.map .str))) = some (decide (x ∈ xs)) := by
  have e0 : vIn cs (.dat (.str x)) (.dat (.list (xs.map .str))) = inD cs (.str x) (xs.map .str) := rfl
  rw [e0]
  unfold inD
  rw [if_pos (by simp only [PyData.depth]; unfold rm; omega)]
  congr 1
  rw [List.any_map]
  by_cases h : x ∈ xs
  · simp only [h, decide_true]
    rw [List.any_eq_true]
    exact ⟨x, h, by simp [PyData.eqv]⟩
  · simp only [h, decide_false]
    rw [List.any_eq_false]
    intro y hy z
    have : y = x := by simpa [PyData.eqv] using z
    exact h (this ▸ hy)
section
variable {T : Nat → Option FnDef}
end
end CH

/-! CH34: steps done at once and what is left of steps, in plain words: no program in sight. -/
namespace CH
open PySem L2
abbrev Wp := List Bool → Bool
def cutP (b : Bool) (P : Wp) : Wp := fun w => P (b :: w)
def allT : Tm → Wp → Tm
  | .ap a b, P => if P [] = true then (match a with
      | .ap .K x => allT x (cutP true (cutP false P))
      | .ap (.ap .S f) g => .ap (.ap (allT f (cutP true (cutP false (cutP false P)))) (allT b (cutP true P))) (.ap (allT g (cutP true (cutP false P))) (allT b (cutP true P)))
      | _ => .ap a b) else .ap (allT a (cutP false P)) (allT b (cutP true P))
  | t, _ => t
def Tm.leaf : Tm → Bool
  | .ap _ _ => false
  | _ => true
def VP (t : Tm) (P : Wp) : Prop := ∀ w, P w = true → redAt t w = true
theorem VP.l {a b : Tm} {P : Wp} (h : VP (.ap a b) P) : VP a (cutP false P) := fun w hw => h (false :: w) hw
theorem VP.r {a b : Tm} {P : Wp} (h : VP (.ap a b) P) : VP b (cutP true P) := fun w hw => h (true :: w) hw
theorem VP.no {t : Tm} {P : Wp} (h : VP t P) (hr : isRed t = false) : P [] = false := by
  cases e : P [] with
  | false => rfl
  | true =>
    have := h [] e
    have e2 : redAt t [] = isRed t := by cases t <;> rfl
    rw [e2, hr] at this
    cases this
theorem redAt_nil (t : Tm) : redAt t [] = isRed t := by cases t <;> rfl
theorem red_cases {t : Tm} (h : isRed t = true) : (∃ x y, t = .ap (.ap .K x) y) ∨ ∃ f g x, t = .ap (.ap (.ap .S f) g) x := by
  unfold isRed at h
  split at h
  · exact .inl ⟨_, _, rfl⟩
  · exact .inr ⟨_, _, _, rfl⟩
  · cases h
theorem VP.cases {t : Tm} {P : Wp} (h : VP t P) (e : P [] = true) : (∃ x y, t = .ap (.ap .K x) y) ∨ ∃ f g x, t = .ap (.ap (.ap .S f) g) x := red_cases (by rw [← redAt_nil]; exact h [] e)
/-! ### pieces of a step's parts -/
/-! ### the steps that a word picks, rising -/
/-! ### one by one, the inner ones first -/
/-! ### what is left -/
end CH

/-! CH35: sides.py. -/
namespace CH
open PySem L2
def d_at_once : FnDef := ⟨2, 2, sSeq (sExpr (mCall 27 [mCall 4 [mVar 0] [], mVar 1] [])) (sRet (mCall 15 [mCall 28 [mVar 0, mVar 1] []] []))⟩
def d_row_of : FnDef := ⟨2, 2, sSeq (sExpr (mCall 27 [mCall 4 [mVar 0] [], mVar 1] [])) (sRet (mUn (fun _ => vSW true) (.pk 1)))⟩
def d_left_behind : FnDef := ⟨3, 3, sSeq (sExpr (mCall 27 [mCall 4 [mVar 0] [], mVar 1] [])) (sSeq (sExpr (mCall 27 [mVar 0, mVar 2] [])) (sSeq (sExpr (mCall 15 [mCall 28 [mVar 0, mVar 1] []] [])) (sRet (mCall 31 [mVar 0, mVar 1, mVar 2] []))))⟩
def d_full : FnDef := ⟨1, 1, sRet (mCall 15 [mCall 28 [mCall 4 [mVar 0] [], mCall 18 [mVar 0] []] []] [])⟩
structure HasSides (T : Nat → Option FnDef) : Prop extends HasSteps T where
  below : T 26 = some d_below
  look_ways : T 27 = some d_look_ways
  all_done : T 28 = some d_all_done
  moved : T 30 = some d_moved
  left : T 31 = some d_left
section
variable {T : Nat → Option FnDef}
/-! ### below -/
def inP (ws : List (List Bool)) : Wp := fun w => decide (w ∈ ws)
theorem w0 : PyData.tuple [.int 0] = wD [false] := rfl
theorem w1 : PyData.tuple [.int 1] = wD [true] := rfl
end
end CH

/-! CH36: sides.py: what is left, and the functions of the front. -/
namespace CH
open PySem L2
section
variable {T : Nat → Option FnDef}
theorem t0 : PyData.tuple [] = wD [] := rfl
/-- a list is given back, one's own or not -/
def IsL (r : C) (ds : List PyData) (ob : List Ob) : Prop := r = .ok (.own ds) ob ∨ r = .ok (.dat (.list ds)) ob
theorem IsL.of {r r' : C} {ds : List PyData} {ob : List Ob} (h : r = r') (i : IsL r' ds ob) : IsL r ds ob := h ▸ i
end
end CH

/-! CH37: sides.py: looked-at ways, at_once, full, left_behind, row_of. -/
namespace CH
open PySem L2
structure HasSides2 (T : Nat → Option FnDef) : Prop extends HasSides T where
  at_once : T 29 = some d_at_once
  left_behind : T 32 = some d_left_behind
section
variable {T : Nat → Option FnDef}
/-- the first way that is none or stood ahead -/
def badIn (t : Tm) : List (List Bool) → List (List Bool) → Option (List Bool)
  | _, [] => none
  | pre, w :: r => if redAt t w = false ∨ w ∈ pre then some w else badIn t (pre ++ [w]) r
theorem badIn_none (t : Tm) : ∀ (ws pre : List (List Bool)), (∀ w ∈ ws, redAt t w = true) → (pre ++ ws).Nodup → badIn t pre ws = none
  | [], _, _, _ => rfl
  | w :: r, pre, h, nd => by
    unfold badIn
    have h1 := h w List.mem_cons_self
    have h2 : w ∉ pre := by
      intro hm
      have := (List.nodup_append.mp nd).2.2 w hm w List.mem_cons_self
      exact this rfl
    rw [if_neg (by rw [h1]; simp [h2])]
    exact badIn_none t r (pre ++ [w]) (fun v hv => h v (List.mem_cons_of_mem _ hv)) (by rw [List.append_assoc]; exact nd)
def VW (t : Tm) (ws : List (List Bool)) : Prop := ws.Nodup ∧ ∀ w ∈ ws, redAt t w = true
theorem VW.bad {t : Tm} {ws : List (List Bool)} (h : VW t ws) : badIn t [] ws = none := badIn_none t ws [] h.2 h.1
end
end CH

/-! CH38: steps one by one as the laws do them: _law_all. -/
namespace CH
open PySem L2
def d__law_all : FnDef := ⟨2, 3, sSeq (sFor (.seq (mUn (fun _ => vRev) (.ev (mUn (fun _ => vSW false) (.pk 1))))) (.nm 2) (sAsg 0 (mCall 220 [mVar 0, mVar 2] []))) (sRet (mVar 0))⟩
section
variable {T : Nat → Option FnDef}
/-! ### terms with other letters -/
def Tm.ok2 : Tm → Bool
  | .nm x => !(x == "K") && !(x == "S")
  | .ap a b => a.ok2 && b.ok2
  | _ => true
def leafS : Tm → Str
  | .K => "K"
  | .S => "S"
  | .nm x => x
  | _ => ""
def dnumG (k s : Str) (t : Tm) : Nat := if leafS (headT t) = k ∧ spineN t = 2 then 2 else if leafS (headT t) = s ∧ spineN t = 3 then 3 else 0
/-! ### sorting ways -/
/-! ### _law_all -/
end
end CH

/-! CH39: _law_big, _law_some. -/
namespace CH
open PySem L2
def d__law_big : FnDef := ⟨4, 5, sTry (sSeq (sIf (bVal (mBin (oCmp .Eq) (.pk 0) (.ev (mCon (.int (0)))))) (sRet (mCall 29 [mVar 1, mVar 2] [])) sPass) (sSeq (sIf (bVal (mBin (oCmp .Eq) (.pk 0) (.ev (mCon (.int (1)))))) (sRet (mCall 32 [mVar 1, mVar 2, mVar 3] [])) sPass) (sRet (mCall 38 [mVar 1] [])))) [(9, some 4, sRet (mIf (bTru (.ev (mIsE 4 (some 0)))) (mCon (.str "big")) (mCon (.str "other")))), (3, none, sRet (mCon (.str "way")))]⟩
def d__law_some : FnDef := ⟨3, 6, sSeq (sAsg 3 (mLst [])) (sSeq (sFor (.enum (mCall 219 [mVar 0] [])) (.tup [(.nm 4), (.nm 5)]) (sIf (bVal (mBin (oCmp .Gt) (.ev (mBin (fun _ => vBin .Mod) (.ev (mBin (fun _ => vIdx) (.pk 1) (.ev (mBin (fun _ => vBin .Mod) (.ev (mBin (fun _ => vBin .Add) (.pk 2) (.pk 4))) (.ev (mCon (.int (60)))))))) (.ev (mCon (.int (3)))))) (.ev (mCon (.int (0)))))) (sOwn 3 kIns [mBin (fun _ => vBin .Mod) (.ev (mBin (fun _ => vIdx) (.pk 1) (.ev (mBin (fun _ => vBin .Mod) (.ev (mBin (fun _ => vBin .Add) (.pk 2) (.pk 4))) (.ev (mCon (.int (60)))))))) (.ev (mBin (fun _ => vBin .Add) (.ev (mUn (fun _ => vLen) (.pk 3))) (.ev (mCon (.int (1)))))), mVar 5]) sPass)) (sRet (mVar 3)))⟩
structure HasBig (T : Nat → Option FnDef) : Prop extends HasSides2 T where
  full : T 38 = some d_full
  big : T 227 = some d__law_big
section
variable {T : Nat → Option FnDef}
@[simp] theorem x_kIns (xs : List PyData) (k : Int) (d : PyData) : kIns xs [.dat (.int k), .dat d] = if xs.length < big ∧ 0 ≤ k ∧ k ≤ 1000000 then some (xs.take k.toNat ++ [d] ++ xs.drop k.toNat) else none := rfl
/-! ### _law_some -/
end
end CH

/-! CH40: bounds for what steps at once make; the steps one by one; lists of ways compared. -/
namespace CH
open PySem L2
section
variable {T : Nat → Option FnDef}
end
end CH

/-! CH41: letters marked: _law_left. -/
namespace CH
open PySem L2
def mkT : Tm → Wp → Tm
  | .ap a b, Q => if Q [] = true then (match a with
      | .ap .K x => .ap (.ap (.nm "K!") (mkT x (cutP true (cutP false Q)))) (mkT b (cutP true Q))
      | .ap (.ap .S f) g => .ap (.ap (.ap (.nm "S!") (mkT f (cutP true (cutP false (cutP false Q))))) (mkT g (cutP true (cutP false Q)))) (mkT b (cutP true Q))
      | _ => .ap a b) else .ap (mkT a (cutP false Q)) (mkT b (cutP true Q))
  | t, _ => t
def addP (Q : Wp) (w : List Bool) : Wp := fun v => Q v || decide (v = w)
/-- a mark more -/
def zs (k : Nat) : List Bool := List.replicate k false
structure Mk1 (t : Tm) (Q : Wp) (w : List Bool) (k : Nat) (p l : Tm) : Prop where
  two : k = 2 ∨ k = 3
  part : partT (mkT t Q) w = some p
  num : dnumG "K" "S" p = k
  head : partT (mkT t Q) (w ++ zs k) = some l
  lf : l = .K ∧ k = 2 ∨ l = .S ∧ k = 3
  with_ : withT (mkT t Q) (w ++ zs k) (.nm (leafS l ++ "!")) = mkT t (addP Q w)
end CH

/-! CH42: _law_left walked. -/
namespace CH
open PySem L2
def d__law_left : FnDef := ⟨3, 5, sSeq (sFor (.seq (mVar 2)) (.nm 3) (sIf (bVal (mBin (oCmp .NotIn) (.pk 3) (.pk 1))) (sSeq (sAsg 4 (mBin (fun _ => vBin .Add) (.pk 3) (.ev (mBin (fun _ => vBin .Mult) (.ev (mTup [mCon (.int (0))])) (.ev (mCall 218 [mCall 217 [mVar 0, mVar 3] [], mCon (.str "K"), mCon (.str "S")] [])))))) (sAsg 0 (mCall 210 [mVar 0, mVar 4, mBin (fun _ => vBin .Add) (.ev (mCall 217 [mVar 0, mVar 4] [])) (.ev (mCon (.str "!")))] []))) sPass)) (sSeq (sAsg 0 (mCall 225 [mVar 0, mVar 1] [])) (sRet (mComp (.seq (mCall 209 [mVar 0] [])) (.nm 3) [3] (some (bVal (mBin (oCmp .Gt) (.ev (mCall 218 [mCall 217 [mVar 0, mVar 3] [], mCon (.str "K!"), mCon (.str "S!")] [])) (.ev (mCon (.int (0))))))) (mVar 3))))⟩
@[simp] theorem x_mul_tup (xs : List PyData) (j : Int) : vMul (.dat (.tuple xs)) (.dat (.int j)) = if xs ≠ [] ∧ 2 ≤ j ∧ j ≤ 1000 ∧ xs.length ≤ 1000 then some (.dat (.tuple (List.replicate j.toNat xs).flatten)) else none := rfl
section
variable {T : Nat → Option FnDef}
end
end CH

/-! CH43: two rows led together, in plain words. -/
namespace CH
open PySem L2
abbrev WL := List (List Bool)
def allL (t : Tm) (ws : WL) : Tm := allT t (inP ws)
/-! rows of lists of ways -/
def pathT : Tm → List WL → Tm
  | t, [] => t
  | t, r :: rs => pathT (allL t r) rs
def VRow : Tm → List WL → Prop
  | _, [] => True
  | t, r :: rs => VW t r ∧ VRow (allL t r) rs
def Few : Tm → List WL → Prop
  | t, [] => t.lv ≤ 200
  | t, r :: rs => t.lv ≤ 200 ∧ Few (allL t r) rs
/-! a row beside a list -/
/-! rows woven -/
/-! ### single steps -/
def ones (ws : WL) : List WL := ws.map fun w => [w]
/-! ### S-steps alone make most -/
def isSr : Tm → Bool
  | .ap (.ap (.ap .S _) _) _ => true
  | _ => false
/-! ### how deep -/
end CH

/-! CH44: woven, walked, meet. -/
namespace CH
open PySem L2
structure HasMeet (T : Nat → Option FnDef) : Prop extends HasSides T where
  led : T 25 = some d_led
  walked : T 34 = some d_walked
  woven : T 39 = some d_woven
  meet : T 40 = some d_meet
section
variable {T : Nat → Option FnDef}
end
end CH

/-! CH45: _law_grid. -/
namespace CH
open PySem L2
def d__law_grid : FnDef := ⟨3, 13, sSeq (sAsg 3 (mComp (.seq (mVar 1)) (.nm 5) [5] none (mLst [mVar 5]))) (sSeq (sAsg 4 (mLst [])) (sSeq (sFor (.seq (mVar 2)) (.nm 5) (sSeq (sAsg 6 (mVar 0)) (sSeq (sAsg 7 (mLst [mVar 5])) (sSeq (sAsg 8 (mLst [])) (sSeq (sFor (.seq (mVar 3)) (.nm 9) (sSeq (sAsg 10 (mComp (.seq (mBin (fun _ => vBin .Add) (.pk 9) (.pk 7))) (.nm 12) [12] (some (bVal (mBin (oCmp .Eq) (.ev (mCall 218 [mCall 217 [mVar 6, mVar 12] [], mCon (.str "K"), mCon (.str "S")] [])) (.ev (mCon (.int (3))))))) (mVar 12))) (sSeq (sIf (bVal (mBin (oCmp .Gt) (.ev (mCall 206 [mCall 225 [mVar 6, mComp (.seq (mCall 209 [mVar 6] [])) (.nm 12) [12] (some (bVal (mBin (oCmp .In) (.pk 12) (.pk 10)))) (mVar 12)] []] [])) (.ev (mCon (.int (200)))))) (sRet (mCon (.none))) sPass) (sSeq (sOwn 8 kApp [mCall 228 [mVar 6, mVar 7, mVar 9] []]) (sSeq (sAsg 11 (mCall 228 [mVar 6, mVar 9, mVar 7] [])) (sSeq (sAsg 6 (mCall 225 [mVar 6, mVar 9] [])) (sAsg 7 (mVar 11)))))))) (sSeq (sOwn 4 kApp [mVar 7]) (sSeq (sAsg 0 (mCall 220 [mVar 0, mVar 5] [])) (sAsg 3 (mVar 8))))))))) (sSeq (sFor (.seq (mVar 3)) (.nm 9) (sSeq (sAsg 10 (mComp (.seq (mVar 9)) (.nm 12) [12] (some (bVal (mBin (oCmp .Eq) (.ev (mCall 218 [mCall 217 [mVar 0, mVar 12] [], mCon (.str "K"), mCon (.str "S")] [])) (.ev (mCon (.int (3))))))) (mVar 12))) (sSeq (sIf (bVal (mBin (oCmp .Gt) (.ev (mCall 206 [mCall 225 [mVar 0, mVar 10] []] [])) (.ev (mCon (.int (200)))))) (sRet (mCon (.none))) sPass) (sAsg 0 (mCall 225 [mVar 0, mVar 9] []))))) (sRet (mTup [mVar 0, mVar 4, mVar 3])))))⟩
structure HasGrid (T : Nat → Option FnDef) : Prop extends HasLawWays T where
  lall : T 225 = some d__law_all
  lleft : T 228 = some d__law_left
  grid : T 230 = some d__law_grid
section
variable {T : Nat → Option FnDef}
end
end CH

/-! CH46: _law_grid whole; meet; _law_met. -/
namespace CH
open PySem L2
def d__law_met : FnDef := ⟨3, 4, sTry (sRet (mCall 40 [mVar 0, mVar 1, mVar 2] [])) [(9, some 3, sRet (mIf (bTru (.ev (mIsE 3 (some 0)))) (mCon (.none)) (mCon (.str "other")))), (4, none, sRet (mCon (.str "count"))), (3, none, sRet (mCon (.str "way")))]⟩
section
variable {T : Nat → Option FnDef}
/-! the whole -/
end
end CH

/-! CH47: meet, _law_met, _law_small with its depth. -/
namespace CH
open PySem L2
section
variable {T : Nat → Option FnDef}
structure HasMet (T : Nat → Option FnDef) : Prop extends HasMeet T where
  met : T 231 = some d__law_met
end
end CH

/-! CH48: _law_paper and where it leads. -/
namespace CH
open PySem L2
def d__law_paper : FnDef := ⟨3, 8, sSeq (sAsg 3 (mLst [])) (sSeq (sFor (.range1 (mVar 2)) (.nm 4) (sSeq (sAsg 5 (mComp (.seq (mCall 219 [mVar 0] [])) (.nm 6) [6] (some (bVal (mBin (oCmp .LtE) (.ev (mCall 206 [mCall 220 [mVar 0, mVar 6] []] [])) (.ev (mCon (.int (60))))))) (mVar 6))) (sIf (bAnd (bVal (mBin (oCmp .Gt) (.ev (mBin (fun _ => vBin .Mod) (.ev (mBin (fun _ => vIdx) (.pk 1) (.ev (mBin (fun _ => vBin .Add) (.ev (mCon (.int (5)))) (.pk 4))))) (.ev (mCon (.int (3)))))) (.ev (mCon (.int (0)))))) (bVal (mBin (oCmp .NotEq) (.pk 5) (.ev (mLst []))))) (sSeq (sAsg 6 (mBin (fun _ => vIdx) (.pk 5) (.ev (mBin (fun _ => vBin .Mod) (.ev (mBin (fun _ => vIdx) (.pk 1) (.ev (mBin (fun _ => vBin .Add) (.ev (mCon (.int (20)))) (.pk 4))))) (.ev (mUn (fun _ => vLen) (.pk 5))))))) (sSeq (sOwn 3 kApp [mTup [mCon (.str "on"), mVar 6]]) (sAsg 0 (mCall 220 [mVar 0, mVar 6] [])))) (sSeq (sTgt (.tup [(.nm 7), (.nm 6)]) (mCall 234 [mVar 0, mVar 1, mBin (fun _ => vBin .Add) (.ev (mCon (.int (30)))) (.pk 4)] [])) (sIf (bVal (mBin (oCmp .LtE) (.ev (mCall 206 [mVar 7] [])) (.ev (mCon (.int (60)))))) (sSeq (sOwn 3 kApp [mTup [mCon (.str "back"), mVar 7, mVar 6]]) (sAsg 0 (mVar 7))) sPass))))) (sRet (mTup [mVar 3, mVar 0])))⟩
namespace Pap
structure HasPaper (T : Nat → Option FnDef) : Prop extends HasLawWays T, HasSmall T where
  paper : T 235 = some d__law_paper
section
variable {T : Nat → Option FnDef}
end
end Pap
end CH

/-! CH49: common. -/
namespace CH
open PySem L2
def d_common : FnDef := ⟨2, 8, sSeq (sExpr (mCall 45 [mVar 0, mVar 1] [])) (sSeq (sAsg 2 (mVar 0)) (sSeq (sAsg 3 (mLst [])) (sSeq (sAsg 4 (mLst [])) (sSeq (sFor (.seq (mVar 1)) (.nm 5) (sIf (bVal (mBin (oCmp .Eq) (.ev (mBin (fun _ => vIdx) (.pk 5) (.ev (mCon (.int (0)))))) (.ev (mCon (.str "back"))))) (sSeq (sAsg 4 (mBin (fun _ => vBin .Add) (.ev (mLst [mLst [mBin (fun _ => vIdx) (.pk 5) (.ev (mCon (.int (2))))]])) (.pk 4))) (sAsg 2 (mBin (fun _ => vIdx) (.pk 5) (.ev (mCon (.int (1))))))) (sSeq (sTgt (.tup [(.nm 6), (.nm 7)]) (mCall 39 [mVar 2, mVar 4, mLst [mLst [mBin (fun _ => vIdx) (.pk 5) (.ev (mCon (.int (1))))]]] [])) (sSeq (sAsg 3 (mBin (fun _ => vBin .Add) (.pk 3) (.pk 7))) (sSeq (sAsg 4 (mVar 6)) (sAsg 2 (mCall 42 [mVar 2, mBin (fun _ => vIdx) (.pk 5) (.ev (mCon (.int (1))))] []))))))) (sRet (mTup [mCall 34 [mVar 0, mVar 3] [], mVar 3, mVar 4]))))))⟩
def d__law_common : FnDef := ⟨2, 2, sTry (sRet (mCall 46 [mVar 0, mVar 1] [])) [(9, none, sRet (mCon (.none)))]⟩
structure ComI (t here : Tm) (c o : List WL) : Prop where
  vo : VRow here o
  fo : Few here o
  vc : VRow t c
  fc : Few t c
  pe : pathT t c = pathT here o
structure HasCommon (T : Nat → Option FnDef) : Prop extends HasMeet T, HasPapers T where
  common : T 46 = some d_common
  lcommon : T 239 = some d__law_common
section
variable {T : Nat → Option FnDef}
end
end CH

/-! CH50: how terms are grown; how many steps may be left. -/
namespace CH
open PySem L2
inductive Gr : Nat → Nat → Tm → Nat → Prop
  | lf (d a i : Nat) : i < 125 → Gr d a (leafN i) (a + 1)
  | ap {d a b c : Nat} {t u : Tm} : a < 36 → Gr d (a + 1) t b → Gr d b u c → Gr (d + 1) a (.ap t u) c
  | kk {d a b c : Nat} {t u : Tm} : a < 36 → Gr d (a + 1) t b → Gr d b u c → Gr (d + 1) a (.ap (.ap .K t) u) c
  | ss {d a b c e : Nat} {t u v : Tm} : a < 36 → Gr d (a + 1) t b → Gr d b u c → Gr d c v e → Gr (d + 1) a (.ap (.ap (.ap .S t) u) v) e
theorem leafN_leaf (i : Nat) : (leafN i).leaf = true := by
  unfold leafN
  split
  · rfl
  · split <;> rfl
theorem Gr.facts {d a b : Nat} {t : Tm} (h : Gr d a t b) : t.ok = true ∧ t.lv + a ≤ b ∧ (36 ≤ a → b = a + 1) ∧ (a < 36 → b ≤ 37 + 2 * d) ∧ t.dep ≤ 3 * d := by
  induction h with
  | lf d a i hi =>
    have h1 := leafN_ok i (by omega)
    have h2 := leafN_lv i
    have h3 := (leafN i).dep_lv
    exact ⟨h1, by omega, fun _ => rfl, fun _ => by omega, by omega⟩
  | ap ha _ _ h1 h2 =>
    obtain ⟨a1, a2, a3, a4, a5⟩ := h1
    obtain ⟨b1, b2, b3, b4, b5⟩ := h2
    exact ⟨by simp [Tm.ok, a1, b1], by simp only [Tm.lv]; omega, by omega, by omega, by simp only [Tm.dep]; omega⟩
  | kk ha _ _ h1 h2 =>
    obtain ⟨a1, a2, a3, a4, a5⟩ := h1
    obtain ⟨b1, b2, b3, b4, b5⟩ := h2
    exact ⟨by simp [Tm.ok, a1, b1], by simp only [Tm.lv]; omega, by omega, by omega, by simp only [Tm.dep]; omega⟩
  | ss ha _ _ _ h1 h2 h3 =>
    obtain ⟨a1, a2, a3, a4, a5⟩ := h1
    obtain ⟨b1, b2, b3, b4, b5⟩ := h2
    obtain ⟨c1, c2, c3, c4, c5⟩ := h3
    exact ⟨by simp [Tm.ok, a1, b1, c1], by simp only [Tm.lv]; omega, by omega, by omega, by simp only [Tm.dep]; omega⟩
/-- at most so many are left of steps, behind whatever steps -/
def rho : Tm → Nat
  | .ap a b => rho a + rho b + (if isSr (.ap a b) = true then max 1 (rho b) else if isRed (.ap a b) = true then 1 else 0)
  | _ => 0
theorem rho_ap (a b : Tm) : rho (.ap a b) = rho a + rho b + (if isSr (.ap a b) = true then max 1 (rho b) else if isRed (.ap a b) = true then 1 else 0) := rfl
theorem rho_two (a b : Tm) : rho (.ap a b) ≤ rho a + rho b + max 1 (rho b) := by
  rw [rho_ap]
  split
  · omega
  · split <;> omega
def Bd : Nat → Nat → Nat → Prop
  | 0, r, _ => r = 0
  | 1, r, u => r ≤ 1 ∧ 3 * r ≤ u
  | 2, r, u => r ≤ 4 ∧ 7 * r ≤ 3 * u
  | 3, r, u => r ≤ 16 ∧ 3 * r ≤ 2 * u
  | 4, r, u => u ≤ 44 → r ≤ 63
  | _, _, _ => True
theorem bd_lf (d u : Nat) : Bd d 0 u := by
  match d with
  | 0 => exact rfl
  | 1 => exact ⟨by omega, by omega⟩
  | 2 => exact ⟨by omega, by omega⟩
  | 3 => exact ⟨by omega, by omega⟩
  | 4 => exact fun _ => by omega
  | d + 5 => trivial
theorem upto4 {r : Nat} (h : r ≤ 4) : r = 0 ∨ r = 1 ∨ r = 2 ∨ r = 3 ∨ r = 4 := by omega
theorem bd_c {r u : Nat} (h : r ≤ 4 ∧ 7 * r ≤ 3 * u) (p : 1 ≤ u) : 3 * r + 2 ≤ 2 * u ∧ (6 * r ≤ 2 * u + 4) := by
  rcases upto4 h.1 with rfl | rfl | rfl | rfl | rfl <;> omega
theorem bd_a {r0 u0 r1 u1 r : Nat} (h0 : r0 ≤ 4 ∧ 7 * r0 ≤ 3 * u0) (h1 : r1 ≤ 4 ∧ 7 * r1 ≤ 3 * u1) (p0 : 1 ≤ u0) (p1 : 1 ≤ u1) (h : r ≤ r0 + r1 + max 1 r1) : r ≤ 16 ∧ 3 * r ≤ 2 * (1 + u0 + u1) := by
  have c0 := bd_c h0 p0
  have c1 := bd_c h1 p1
  rcases upto4 h1.1 with rfl | rfl | rfl | rfl | rfl <;> simp at h <;> omega
theorem bd_b {r0 u0 r1 u1 r2 u2 r : Nat} (h0 : r0 ≤ 4 ∧ 7 * r0 ≤ 3 * u0) (h1 : r1 ≤ 4 ∧ 7 * r1 ≤ 3 * u1) (h2 : r2 ≤ 4 ∧ 7 * r2 ≤ 3 * u2) (p0 : 1 ≤ u0) (p1 : 1 ≤ u1) (p2 : 1 ≤ u2) (h : r ≤ r0 + r1 + r2 + max 1 r2) : r ≤ 16 ∧ 3 * r ≤ 2 * (1 + u0 + u1 + u2) := by
  have c0 := bd_c h0 p0
  have c1 := bd_c h1 p1
  have c2 := bd_c h2 p2
  rcases upto4 h2.1 with rfl | rfl | rfl | rfl | rfl <;> simp at h <;> omega
theorem bd_two {d r0 u0 r1 u1 r : Nat} (h0 : Bd d r0 u0) (h1 : Bd d r1 u1) (p0 : 1 ≤ u0) (p1 : 1 ≤ u1) (h : r ≤ r0 + r1 + max 1 r1) : Bd (d + 1) r (1 + u0 + u1) := by
  match d, h0, h1 with
  | 0, h0, h1 => have h0 : r0 = 0 := h0; have h1 : r1 = 0 := h1; show r ≤ 1 ∧ 3 * r ≤ 1 + u0 + u1; omega
  | 1, h0, h1 => have h0 : r0 ≤ 1 ∧ 3 * r0 ≤ u0 := h0; have h1 : r1 ≤ 1 ∧ 3 * r1 ≤ u1 := h1; show r ≤ 4 ∧ 7 * r ≤ 3 * (1 + u0 + u1); omega
  | 2, h0, h1 => have h0 : r0 ≤ 4 ∧ 7 * r0 ≤ 3 * u0 := h0; have h1 : r1 ≤ 4 ∧ 7 * r1 ≤ 3 * u1 := h1; show r ≤ 16 ∧ 3 * r ≤ 2 * (1 + u0 + u1); exact bd_a h0 h1 p0 p1 h
  | 3, h0, h1 => have h0 : r0 ≤ 16 ∧ 3 * r0 ≤ 2 * u0 := h0; have h1 : r1 ≤ 16 ∧ 3 * r1 ≤ 2 * u1 := h1; show 1 + u0 + u1 ≤ 44 → r ≤ 63; omega
  | d + 4, _, _ => trivial
theorem bd_three {d r0 u0 r1 u1 r2 u2 r : Nat} (h0 : Bd d r0 u0) (h1 : Bd d r1 u1) (h2 : Bd d r2 u2) (p0 : 1 ≤ u0) (p1 : 1 ≤ u1) (p2 : 1 ≤ u2) (h : r ≤ r0 + r1 + r2 + max 1 r2) : Bd (d + 1) r (1 + u0 + u1 + u2) := by
  match d, h0, h1, h2 with
  | 0, h0, h1, h2 => have h0 : r0 = 0 := h0; have h1 : r1 = 0 := h1; have h2 : r2 = 0 := h2; show r ≤ 1 ∧ 3 * r ≤ 1 + u0 + u1 + u2; omega
  | 1, h0, h1, h2 => have h0 : r0 ≤ 1 ∧ 3 * r0 ≤ u0 := h0; have h1 : r1 ≤ 1 ∧ 3 * r1 ≤ u1 := h1; have h2 : r2 ≤ 1 ∧ 3 * r2 ≤ u2 := h2; show r ≤ 4 ∧ 7 * r ≤ 3 * (1 + u0 + u1 + u2); omega
  | 2, h0, h1, h2 => have h0 : r0 ≤ 4 ∧ 7 * r0 ≤ 3 * u0 := h0; have h1 : r1 ≤ 4 ∧ 7 * r1 ≤ 3 * u1 := h1; have h2 : r2 ≤ 4 ∧ 7 * r2 ≤ 3 * u2 := h2; show r ≤ 16 ∧ 3 * r ≤ 2 * (1 + u0 + u1 + u2); exact bd_b h0 h1 h2 p0 p1 p2 h
  | 3, h0, h1, h2 => have h0 : r0 ≤ 16 ∧ 3 * r0 ≤ 2 * u0 := h0; have h1 : r1 ≤ 16 ∧ 3 * r1 ≤ 2 * u1 := h1; have h2 : r2 ≤ 16 ∧ 3 * r2 ≤ 2 * u2 := h2; show 1 + u0 + u1 + u2 ≤ 44 → r ≤ 63; omega
  | d + 4, _, _, _ => trivial
theorem rho_leaf {t : Tm} (h : t.leaf = true) : rho t = 0 := by
  cases t <;> first | rfl | cases h
theorem Gr.rise {d a b : Nat} {t : Tm} (h : Gr d a t b) : a < b := by
  have := h.facts.2.1
  have := t.lv_pos
  omega
theorem Gr.bd {d a b : Nat} {t : Tm} (h : Gr d a t b) : Bd d (rho t) (b - a) := by
  induction h with
  | lf d a i hi => rw [rho_leaf (leafN_leaf i)]; exact bd_lf d _
  | @ap d a b c t u ha g1 g2 h1 h2 =>
    have k1 := g1.rise
    have k2 := g2.rise
    have := bd_two h1 h2 (by omega) (by omega) (rho_two t u)
    have e : 1 + (b - (a + 1)) + (c - b) = c - a := by omega
    rwa [e] at this
  | @kk d a b c t u ha g1 g2 h1 h2 =>
    have k1 := g1.rise
    have k2 := g2.rise
    have hr : rho (.ap (.ap .K t) u) ≤ rho t + rho u + max 1 (rho u) := by
      have e1 : rho (.ap .K t) = rho t := by rw [rho_ap]; show 0 + rho t + 0 = rho t; omega
      have := rho_two (.ap .K t) u
      rwa [e1] at this
    have := bd_two h1 h2 (by omega) (by omega) hr
    have e : 1 + (b - (a + 1)) + (c - b) = c - a := by omega
    rwa [e] at this
  | @ss d a b c e t u v ha g1 g2 g3 h1 h2 h3 =>
    have k1 := g1.rise
    have k2 := g2.rise
    have k3 := g3.rise
    have hr : rho (.ap (.ap (.ap .S t) u) v) ≤ rho t + rho u + rho v + max 1 (rho v) := by
      have e1 : rho (.ap (.ap .S t) u) = rho t + rho u := by rw [rho_ap, rho_ap]; show 0 + rho t + 0 + rho u + 0 = _; omega
      have := rho_two (.ap (.ap .S t) u) v
      rwa [e1] at this
    have := bd_three h1 h2 h3 (by omega) (by omega) (by omega) hr
    have e : 1 + (b - (a + 1)) + (c - b) + (e - c) = e - a := by omega
    rwa [e] at this
section
variable {T : Nat → Option FnDef}
end
end CH

/-! CH51: sorted(set(ways)), _law_onward, ways. -/
namespace CH
open PySem L2
def d_ways : FnDef := ⟨1, 1, sRet (mCall 18 [mCall 4 [mVar 0] []] [])⟩
def d__law_onward : FnDef := ⟨2, 3, sSeq (sIf (bOr (bTru (.ev (mUn (oIsa .tuple) (.pk 0)))) (bTru (.ev (mUn (oIsa .str) (.pk 0))))) (sIf (bAnd (bVal (mBin (oCmp .Eq) (.ev (mUn (fun _ => vSS) (.pk 1))) (.ev (mUn (fun _ => vSW false) (.pk 1))))) (bVal (mBin (oCmp .Eq) (.ev (mComp (.seq (mVar 1)) (.nm 2) [2] (some (bVal (mBin (oCmp .NotIn) (.pk 2) (.ev (mCall 219 [mVar 0] []))))) (mVar 2))) (.ev (mLst []))))) (sRet (mCall 29 [mVar 0, mVar 1] [])) sPass) sPass) (sRet (mCon (.none)))⟩
structure HasOn (T : Nat → Option FnDef) : Prop extends HasSides2 T, HasLawWays T where
  onward : T 229 = some d__law_onward
section
variable {T : Nat → Option FnDef}
end
end CH

/-! CH52: names put back. -/
namespace CH
open PySem L2
def d_back_row : FnDef := ⟨4, 7, sSeq (sIf (bAnd (bTru (.pk 3)) (bVal (mBin (oCmp .NotIn) (.pk 0) (.ev (mCall 6 [mVar 1] []))))) (sRet (mLst [mTup []])) sPass) (sSeq (sIf (bTru (.ev (mUn (oIsa .str) (.pk 1)))) (sRet (mIf (bVal (mBin (oCmp .Eq) (.pk 1) (.pk 0))) (mLst [mTup [], mTup []]) (mLst [mTup []]))) sPass) (sSeq (sIf (bAnd (bTru (.pk 3)) (bAnd (bVal (mBin (oCmp .Eq) (.ev (mBin (fun _ => vIdx) (.pk 1) (.ev (mCon (.int (1)))))) (.pk 0))) (bVal (mBin (oCmp .NotIn) (.pk 0) (.ev (mCall 6 [mBin (fun _ => vIdx) (.pk 1) (.ev (mCon (.int (0))))] [])))))) (sRet (mLst [])) sPass) (sSeq (sAsg 4 (mCall 53 [mVar 0, mBin (fun _ => vIdx) (.pk 1) (.ev (mCon (.int (0)))), mVar 2, mVar 3] [])) (sSeq (sAsg 5 (mCall 53 [mVar 0, mBin (fun _ => vIdx) (.pk 1) (.ev (mCon (.int (1)))), mVar 2, mVar 3] [])) (sRet (mBin (fun _ => vBin .Add) (.ev (mBin (fun _ => vBin .Add) (.ev (mLst [mTup []])) (.ev (mComp (.seq (mVar 4)) (.nm 6) [6] none (mBin (fun _ => vBin .Add) (.ev (mTup [mCon (.int (0))])) (.pk 6)))))) (.ev (mComp (.seq (mVar 5)) (.nm 6) [6] none (mBin (fun _ => vBin .Add) (.ev (mTup [mCon (.int (1))])) (.pk 6))))))))))⟩
def d_row_back : FnDef := ⟨4, 7, sSeq (sAsg 4 (mCall 15 [mTup [mCall 51 [mVar 0, mVar 1, mVar 3] [], mCall 4 [mVar 2] []]] [])) (sSeq (sAsg 5 (mCall 53 [mVar 0, mVar 1, mVar 2, mVar 3] [])) (sSeq (sFor (.seq (mVar 5)) (.nm 6) (sAsg 4 (mCall 15 [mCall 55 [mVar 4, mVar 6] []] []))) (sRet (mVar 5))))⟩
def d_stepped_at : FnDef := ⟨2, 2, sSeq (sIf (bVal (mBin (oCmp .Eq) (.pk 1) (.ev (mTup [])))) (sRet (mCall 17 [mVar 0] [])) sPass) (sSeq (sIf (bVal (mBin (oCmp .Eq) (.ev (mBin (fun _ => vIdx) (.pk 1) (.ev (mCon (.int (0)))))) (.ev (mCon (.int (0)))))) (sRet (mTup [mCall 55 [mBin (fun _ => vIdx) (.pk 0) (.ev (mCon (.int (0)))), mSl (.pk 1) (some (mCon (.int (1)))) none] [], mBin (fun _ => vIdx) (.pk 0) (.ev (mCon (.int (1))))])) sPass) (sRet (mTup [mBin (fun _ => vIdx) (.pk 0) (.ev (mCon (.int (0)))), mCall 55 [mBin (fun _ => vIdx) (.pk 0) (.ev (mCon (.int (1)))), mSl (.pk 1) (some (mCon (.int (1)))) none] []])))⟩
@[simp] theorem x_callN (cs : Cs) (s : S) (id : Nat) (es : List (M Val)) : mCallN id es cs s = (mArgs es cs s).bnd fun vs s1 => match cs.run id vs s1.ob with
  | .ok v ob => .ok v { s1 with ob := ob }
  | _ => .no := rfl
@[simp] theorem x_max2 (i j : Int) : vMax2 (.dat (.int i)) (.dat (.int j)) = some (.dat (.int (if j > i then j else i))) := rfl
/-! sizes -/
end CH

/-! CH53: names put back, the program. -/
namespace CH
open PySem L2
structure HasBack (T : Nat → Option FnDef) : Prop extends HasSteps T where
  names_of : T 6 = some d_names_of
  look_name : T 47 = some d_look_name
  filled_in : T 48 = some d_filled_in
  filled : T 49 = some d_filled
  taken_out : T 50 = some d_taken_out
  without : T 51 = some d_without
  back_row : T 53 = some d_back_row
  row_back : T 54 = some d_row_back
  stepped_at : T 55 = some d_stepped_at
section
variable {T : Nat → Option FnDef}
end
end CH

/-! CH54: functions made terms (as in L17). -/
namespace CH
open PySem L2
def d_free_in : FnDef := ⟨1, 2, sSeq (sIf (bTru (.ev (mUn (oIsa .str) (.pk 0)))) (sRet (mIf (bTru (.ev (mCall 0 [mVar 0] []))) (mLst [mVar 0]) (mLst []))) sPass) (sSeq (sIf (bVal (mBin (oCmp .Eq) (.ev (mUn (fun _ => vLen) (.pk 0))) (.ev (mCon (.int (3)))))) (sRet (mComp (.seq (mCall 58 [mBin (fun _ => vIdx) (.pk 0) (.ev (mCon (.int (2))))] [])) (.nm 1) [1] (some (bVal (mBin (oCmp .NotEq) (.pk 1) (.ev (mBin (fun _ => vIdx) (.pk 0) (.ev (mCon (.int (1))))))))) (mVar 1))) sPass) (sRet (mUn (fun _ => vSS) (.ev (mBin (fun _ => vBin .Add) (.ev (mCall 58 [mBin (fun _ => vIdx) (.pk 0) (.ev (mCon (.int (0))))] [])) (.ev (mCall 58 [mBin (fun _ => vIdx) (.pk 0) (.ev (mCon (.int (1))))] [])))))))⟩
def d_free : FnDef := ⟨1, 1, sSeq (sExpr (mCall 57 [mVar 0] [])) (sRet (mCall 58 [mVar 0] []))⟩
def d_made_term : FnDef := ⟨2, 2, sSeq (sIf (bTru (.ev (mUn (oIsa .str) (.pk 0)))) (sRet (mVar 0)) sPass) (sSeq (sIf (bVal (mBin (oCmp .Eq) (.ev (mUn (fun _ => vLen) (.pk 0))) (.ev (mCon (.int (3)))))) (sRet (mCall 15 [mCall 50 [mBin (fun _ => vIdx) (.pk 0) (.ev (mCon (.int (1)))), mCall 60 [mBin (fun _ => vIdx) (.pk 0) (.ev (mCon (.int (2)))), mVar 1] [], mVar 1] []] [])) sPass) (sRet (mCall 15 [mTup [mCall 60 [mBin (fun _ => vIdx) (.pk 0) (.ev (mCon (.int (0)))), mVar 1] [], mCall 60 [mBin (fun _ => vIdx) (.pk 0) (.ev (mCon (.int (1)))), mVar 1] []]] [])))⟩
def d_compiled : FnDef := ⟨2, 2, sSeq (sExpr (mCall 57 [mVar 0] [])) (sRet (mCall 60 [mVar 0, mVar 1] []))⟩
def d__law_function : FnDef := ⟨3, 8, sSeq (sAsg 3 (mIf (bVal (mBin (oCmp .Lt) (.pk 1) (.ev (mUn (fun _ => vLen) (.pk 0))))) (mBin (fun _ => vIdx) (.pk 0) (.pk 1)) (mCon (.int (0))))) (sSeq (sAsg 4 (mBin (fun _ => vBin .Mod) (.pk 3) (.ev (mCon (.int (8)))))) (sSeq (sIf (bOr (bVal (mBin (oCmp .Eq) (.pk 2) (.ev (mCon (.int (0)))))) (bOr (bVal (mBin (oCmp .Lt) (.pk 4) (.ev (mCon (.int (2)))))) (bVal (mBin (oCmp .GtE) (.pk 1) (.ev (mCon (.int (40)))))))) (sRet (mTup [mCall 203 [mBin (fun _ => vBin .FloorDiv) (.pk 3) (.ev (mCon (.int (8))))] [], mBin (fun _ => vBin .Add) (.pk 1) (.ev (mCon (.int (1))))])) sPass) (sSeq (sIf (bVal (mBin (oCmp .Lt) (.pk 4) (.ev (mCon (.int (5)))))) (sSeq (sAsg 5 (mCall 244 [mVar 0, mBin (fun _ => vBin .Add) (.pk 1) (.ev (mCon (.int (1)))), mBin (fun _ => vBin .Sub) (.pk 2) (.ev (mCon (.int (1))))] [])) (sRet (mTup [mTup [mCon (.str "fn"), mCall 202 [mBin (fun _ => vBin .FloorDiv) (.pk 3) (.ev (mCon (.int (8))))] [], mBin (fun _ => vIdx) (.pk 5) (.ev (mCon (.int (0))))], mBin (fun _ => vIdx) (.pk 5) (.ev (mCon (.int (1))))]))) sPass) (sSeq (sAsg 6 (mCall 244 [mVar 0, mBin (fun _ => vBin .Add) (.pk 1) (.ev (mCon (.int (1)))), mBin (fun _ => vBin .Sub) (.pk 2) (.ev (mCon (.int (1))))] [])) (sSeq (sAsg 7 (mCall 244 [mVar 0, mBin (fun _ => vIdx) (.pk 6) (.ev (mCon (.int (1)))), mBin (fun _ => vBin .Sub) (.pk 2) (.ev (mCon (.int (1))))] [])) (sRet (mTup [mTup [mBin (fun _ => vIdx) (.pk 6) (.ev (mCon (.int (0)))), mBin (fun _ => vIdx) (.pk 7) (.ev (mCon (.int (0))))], mBin (fun _ => vIdx) (.pk 7) (.ev (mCon (.int (1))))])))))))⟩
def d__law_free : FnDef := ⟨1, 2, sSeq (sIf (bTru (.ev (mUn (oIsa .str) (.pk 0)))) (sRet (mIf (bVal (mBin (oCmp .In) (.pk 0) (.ev (mTup [mCon (.str "K"), mCon (.str "S")])))) (mLst []) (mLst [mVar 0]))) sPass) (sSeq (sIf (bVal (mBin (oCmp .Eq) (.ev (mUn (fun _ => vLen) (.pk 0))) (.ev (mCon (.int (3)))))) (sRet (mComp (.seq (mCall 245 [mBin (fun _ => vIdx) (.pk 0) (.ev (mCon (.int (2))))] [])) (.nm 1) [1] (some (bVal (mBin (oCmp .NotEq) (.pk 1) (.ev (mBin (fun _ => vIdx) (.pk 0) (.ev (mCon (.int (1))))))))) (mVar 1))) sPass) (sRet (mUn (fun _ => vSS) (.ev (mBin (fun _ => vBin .Add) (.ev (mCall 245 [mBin (fun _ => vIdx) (.pk 0) (.ev (mCon (.int (0))))] [])) (.ev (mCall 245 [mBin (fun _ => vIdx) (.pk 0) (.ev (mCon (.int (1))))] [])))))))⟩
def d__law_compiled : FnDef := ⟨2, 5, sSeq (sIf (bTru (.ev (mUn (oIsa .str) (.pk 0)))) (sRet (mVar 0)) sPass) (sSeq (sAsg 2 (mCall 246 [mBin (fun _ => vIdx) (.pk 0) (.ev (mUn (fun _ => vNeg) (.ev (mCon (.int (1)))))), mVar 1] [])) (sSeq (sIf (bVal (mBin (oCmp .Eq) (.ev (mUn (fun _ => vLen) (.pk 0))) (.ev (mCon (.int (3)))))) (sAsg 3 (mIf (bVal (mBin (oCmp .Is) (.pk 2) (.ev (mCon (.none))))) (mCon (.none)) (mCall 243 [mBin (fun _ => vIdx) (.pk 0) (.ev (mCon (.int (1)))), mVar 2, mVar 1] []))) (sSeq (sAsg 4 (mCall 246 [mBin (fun _ => vIdx) (.pk 0) (.ev (mCon (.int (0)))), mVar 1] [])) (sAsg 3 (mIf (bOr (bVal (mBin (oCmp .Is) (.pk 2) (.ev (mCon (.none))))) (bVal (mBin (oCmp .Is) (.pk 4) (.ev (mCon (.none)))))) (mCon (.none)) (mTup [mVar 4, mVar 2]))))) (sRet (mIf (bOr (bVal (mBin (oCmp .Is) (.pk 3) (.ev (mCon (.none))))) (bVal (mBin (oCmp .Gt) (.ev (mCall 206 [mVar 3] [])) (.ev (mCon (.int (200))))))) (mCon (.none)) (mVar 3)))))⟩
def d__law_compiled_told : FnDef := ⟨2, 3, sTry (sRet (mCall 61 [mVar 0, mVar 1] [])) [(9, some 2, sRet (mIf (bTru (.ev (mIsE 2 (some 0)))) (mCon (.none)) (mCon (.str "other"))))]⟩
namespace Fn
structure HasFn (T : Nat → Option FnDef) : Prop extends HasFns T, HasRow T where
  left_of : T 2 = some d_left_of
  is_term : T 3 = some d_is_term
  names_of : T 6 = some d_names_of
  looked : T 15 = some d_looked
  taken_out : T 50 = some d_taken_out
  free_in : T 58 = some d_free_in
  free : T 59 = some d_free
  made_term : T 60 = some d_made_term
  compiled : T 61 = some d_compiled
  lleaf : T 203 = some d__law_leaf
  lleaves : T 206 = some d__law_leaves
  lnames : T 207 = some d__law_names
  lout : T 243 = some d__law_out
  fnn : T 244 = some d__law_function
  lfree : T 245 = some d__law_free
  lcomp : T 246 = some d__law_compiled
  told : T 247 = some d__law_compiled_told
section
variable {T : Nat → Option FnDef}
theorem HasFn.terms (H : HasFn T) : HasTerms T := ⟨H.toHasFns.is_name, H.toHasFns.is_leaf, H.left_of, H.is_term⟩
/-! ### the term of a function -/
end
end Fn
end CH

/-! CH55: functions with other names for holes (as in L18); alike ones have the same terms. -/
namespace CH
open PySem L2
def d__law_plain : FnDef := ⟨2, 3, sSeq (sIf (bTru (.ev (mUn (oIsa .str) (.pk 0)))) (sSeq (sFor (.range3 (mBin (fun _ => vBin .Sub) (.ev (mUn (fun _ => vLen) (.pk 1))) (.ev (mCon (.int (1))))) (mUn (fun _ => vNeg) (.ev (mCon (.int (1))))) (mUn (fun _ => vNeg) (.ev (mCon (.int (1)))))) (.nm 2) (sIf (bVal (mBin (oCmp .Eq) (.ev (mBin (fun _ => vIdx) (.pk 1) (.pk 2))) (.pk 0))) (sRet (mBin (fun _ => vBin .Sub) (.ev (mBin (fun _ => vBin .Sub) (.ev (mUn (fun _ => vLen) (.pk 1))) (.ev (mCon (.int (1)))))) (.pk 2))) sPass)) (sRet (mVar 0))) sPass) (sSeq (sIf (bVal (mBin (oCmp .Eq) (.ev (mUn (fun _ => vLen) (.pk 0))) (.ev (mCon (.int (3)))))) (sRet (mLst [mCall 250 [mBin (fun _ => vIdx) (.pk 0) (.ev (mCon (.int (2)))), mBin (fun _ => vBin .Add) (.pk 1) (.ev (mLst [mBin (fun _ => vIdx) (.pk 0) (.ev (mCon (.int (1))))]))] []])) sPass) (sRet (mTup [mCall 250 [mBin (fun _ => vIdx) (.pk 0) (.ev (mCon (.int (0)))), mVar 1] [], mCall 250 [mBin (fun _ => vIdx) (.pk 0) (.ev (mCon (.int (1)))), mVar 1] []])))⟩
def d__law_renamed : FnDef := ⟨4, 8, sSeq (sIf (bTru (.ev (mUn (oIsa .str) (.pk 0)))) (sSeq (sAsg 4 (mComp (.seq (mVar 3)) (.nm 7) [7] (some (bVal (mBin (oCmp .Eq) (.ev (mBin (fun _ => vIdx) (.pk 7) (.ev (mCon (.int (0)))))) (.pk 0)))) (mBin (fun _ => vIdx) (.pk 7) (.ev (mCon (.int (1))))))) (sRet (mIf (bVal (mBin (oCmp .NotEq) (.pk 4) (.ev (mLst [])))) (mBin (fun _ => vIdx) (.pk 4) (.ev (mUn (fun _ => vNeg) (.ev (mCon (.int (1))))))) (mVar 0)))) sPass) (sSeq (sIf (bVal (mBin (oCmp .Eq) (.ev (mUn (fun _ => vLen) (.pk 0))) (.ev (mCon (.int (2)))))) (sSeq (sAsg 5 (mCall 251 [mBin (fun _ => vIdx) (.pk 0) (.ev (mCon (.int (0)))), mVar 1, mBin (fun _ => vBin .Add) (.pk 2) (.ev (mCon (.int (1)))), mVar 3] [])) (sRet (mTup [mVar 5, mCall 251 [mBin (fun _ => vIdx) (.pk 0) (.ev (mCon (.int (1)))), mVar 1, mBin (fun _ => vBin .Add) (.pk 2) (.ev (mCon (.int (2)))), mVar 3] []]))) sPass) (sSeq (sAsg 6 (mCall 202 [mBin (fun _ => vIdx) (.pk 1) (.ev (mBin (fun _ => vBin .Mod) (.pk 2) (.ev (mCon (.int (60))))))] [])) (sSeq (sIf (bVal (mBin (oCmp .Eq) (.ev (mBin (fun _ => vBin .Mod) (.ev (mBin (fun _ => vIdx) (.pk 1) (.ev (mBin (fun _ => vBin .Mod) (.ev (mBin (fun _ => vBin .Add) (.pk 2) (.ev (mCon (.int (3)))))) (.ev (mCon (.int (60)))))))) (.ev (mCon (.int (2)))))) (.ev (mCon (.int (0)))))) (sAsg 6 (mBin (fun _ => vIdx) (.pk 0) (.ev (mCon (.int (1)))))) sPass) (sRet (mTup [mCon (.str "fn"), mVar 6, mCall 251 [mBin (fun _ => vIdx) (.pk 0) (.ev (mCon (.int (2)))), mVar 1, mBin (fun _ => vBin .Add) (.pk 2) (.ev (mCon (.int (5)))), mBin (fun _ => vBin .Add) (.pk 3) (.ev (mLst [mTup [mBin (fun _ => vIdx) (.pk 0) (.ev (mCon (.int (1)))), mVar 6]]))] []])))))⟩
namespace Pl
/-- where the name stands among the holes, the innermost first -/
def place (x : Str) : List Str → Nat → Option Nat
  | [], _ => none
  | y :: r, k => if y == x then some k else place x r (k + 1)
structure HasPl (T : Nat → Option FnDef) : Prop extends HasRow T where
  plain : T 250 = some d__law_plain
  renamed : T 251 = some d__law_renamed
section
variable {T : Nat → Option FnDef}
end
end Pl
/-! ### alike functions have the same terms -/
end CH

/-! CH56: terms as texts, in plain words. -/
namespace CH
open PySem L2
namespace Tx
def mkS (l : List Nat) : Str := ⟨l.toArray⟩
@[simp] theorem mkS_list (l : List Nat) : (mkS l).cps.toList = l := rfl
/-! ### the parser -/
structure InOk (l : List Nat) (inner : Nat → Option (Tm × Nat)) : Prop where
  ok : ∀ p t a, p ≤ l.length → inner p = some (t, a) → t.ok = true ∧ p ≤ a ∧ a ≤ l.length
/-! ### the text of a term is read to the term -/
end Tx
end CH

/-! CH57: terms as texts: the walks. -/
namespace CH
open PySem L2
namespace Tx
def d_spine : FnDef := ⟨1, 2, sSeq (sAsg 1 (mLst [])) (sSeq (sWhile (bTru (.ev (mUn (oIsa .tuple) (.pk 0)))) (sSeq (sOwn 1 kApp [mBin (fun _ => vIdx) (.pk 0) (.ev (mCon (.int (1))))]) (sAsg 0 (mBin (fun _ => vIdx) (.pk 0) (.ev (mCon (.int (0)))))))) (sRet (mBin (fun _ => vBin .Add) (.ev (mLst [mVar 0])) (.ev (mUn (fun _ => vRev) (.pk 1))))))⟩
def d_written : FnDef := ⟨1, 3, sSeq (sAsg 1 (mComp (.seq (mCall 8 [mVar 0] [])) (.nm 2) [2] none (mIf (bTru (.ev (mUn (oIsa .str) (.pk 2)))) (mVar 2) (mBin (fun _ => vBin .Add) (.ev (mBin (fun _ => vBin .Add) (.ev (mCon (.str "("))) (.ev (mCall 9 [mVar 2] [])))) (.ev (mCon (.str ")"))))))) (sRet (mUn (fun _ => vJoin " ") (.pk 1)))⟩
def d_shown : FnDef := ⟨1, 1, sRet (mCall 9 [mCall 4 [mVar 0] []] [])⟩
def d_word_at : FnDef := ⟨2, 3, sSeq (sAsg 2 (mVar 1)) (sSeq (sWhile (bAnd (bVal (mBin (oCmp .Lt) (.pk 2) (.ev (mUn (fun _ => vLen) (.pk 0))))) (bVal (mBin (oCmp .NotIn) (.ev (mBin (fun _ => vIdx) (.pk 0) (.pk 2))) (.ev (mCon (.str " ()")))))) (sAug 2 (mCon (.int (1))))) (sRet (mTup [mSl (.pk 0) (some (mVar 1)) (some (mVar 2)), mVar 2])))⟩
def d_taken : FnDef := ⟨3, 5, sSeq (sAsg 3 (mCon (.none))) (sWhile (bTru (.ev (mCon (.bool true)))) (sSeq (sIf (bVal (mBin (oCmp .Eq) (.ev (mSl (.pk 0) (some (mVar 1)) (some (mBin (fun _ => vBin .Add) (.pk 1) (.ev (mCon (.int (1)))))))) (.ev (mCon (.str "("))))) (sSeq (sIf (bOr (bVal (mBin (oCmp .Eq) (.pk 2) (.ev (mCon (.int (0)))))) (bVal (mBin (oCmp .Is) (.pk 3) (.ev (mCon (.none)))))) (sRaise 2) sPass) (sSeq (sTgt (.tup [(.nm 4), (.nm 1)]) (mCall 12 [mVar 0, mBin (fun _ => vBin .Add) (.pk 1) (.ev (mCon (.int (1)))), mBin (fun _ => vBin .Sub) (.pk 2) (.ev (mCon (.int (1))))] [])) (sSeq (sIf (bVal (mBin (oCmp .NotEq) (.ev (mSl (.pk 0) (some (mVar 1)) (some (mBin (fun _ => vBin .Add) (.pk 1) (.ev (mCon (.int (1)))))))) (.ev (mCon (.str ")"))))) (sRaise 2) sPass) (sAug 1 (mCon (.int (1))))))) (sSeq (sTgt (.tup [(.nm 4), (.nm 1)]) (mCall 11 [mVar 0, mVar 1] [])) (sIf (bNot (bTru (.ev (mCall 1 [mVar 4] [])))) (sRaise 2) sPass))) (sSeq (sAsg 3 (mIf (bVal (mBin (oCmp .Is) (.pk 3) (.ev (mCon (.none))))) (mVar 4) (mTup [mVar 3, mVar 4]))) (sSeq (sIf (bVal (mBin (oCmp .NotEq) (.ev (mSl (.pk 0) (some (mVar 1)) (some (mBin (fun _ => vBin .Add) (.pk 1) (.ev (mCon (.int (1)))))))) (.ev (mCon (.str " "))))) (sRet (mTup [mVar 3, mVar 1])) sPass) (sAug 1 (mCon (.int (1))))))))⟩
def d_read : FnDef := ⟨1, 3, sSeq (sIf (bNot (bTru (.ev (mUn (oIsa .str) (.pk 0))))) (sRaise 2) sPass) (sSeq (sTgt (.tup [(.nm 1), (.nm 2)]) (mCall 12 [mVar 0, mCon (.int (0)), mCon (.int (200))] [])) (sSeq (sIf (bOr (bVal (mBin (oCmp .Lt) (.pk 2) (.ev (mUn (fun _ => vLen) (.pk 0))))) (bOr (bNot (bTru (.ev (mCall 3 [mVar 1] [])))) (bVal (mBin (oCmp .NotEq) (.ev (mCall 9 [mVar 1] [])) (.pk 0))))) (sRaise 2) sPass) (sRet (mVar 1))))⟩
def d__law_text : FnDef := ⟨1, 1, sSeq (sIf (bTru (.ev (mUn (oIsa .str) (.pk 0)))) (sRet (mVar 0)) sPass) (sSeq (sIf (bTru (.ev (mUn (oIsa .str) (.ev (mBin (fun _ => vIdx) (.pk 0) (.ev (mCon (.int (1))))))))) (sRet (mBin (fun _ => vBin .Add) (.ev (mBin (fun _ => vBin .Add) (.ev (mCall 214 [mBin (fun _ => vIdx) (.pk 0) (.ev (mCon (.int (0))))] [])) (.ev (mCon (.str " "))))) (.ev (mBin (fun _ => vIdx) (.pk 0) (.ev (mCon (.int (1)))))))) sPass) (sRet (mBin (fun _ => vBin .Add) (.ev (mBin (fun _ => vBin .Add) (.ev (mBin (fun _ => vBin .Add) (.ev (mCall 214 [mBin (fun _ => vIdx) (.pk 0) (.ev (mCon (.int (0))))] [])) (.ev (mCon (.str " ("))))) (.ev (mCall 214 [mBin (fun _ => vIdx) (.pk 0) (.ev (mCon (.int (1))))] [])))) (.ev (mCon (.str ")"))))))⟩
def d__law_bent : FnDef := ⟨3, 8, sSeq (sAsg 3 (mBin (fun _ => vBin .Mod) (.ev (mBin (fun _ => vIdx) (.pk 1) (.pk 2))) (.ev (mUn (fun _ => vLen) (.pk 0))))) (sSeq (sAsg 4 (mBin (fun _ => vBin .Mod) (.ev (mBin (fun _ => vIdx) (.pk 1) (.ev (mBin (fun _ => vBin .Add) (.pk 2) (.ev (mCon (.int (1)))))))) (.ev (mCon (.int (5)))))) (sSeq (sIf (bVal (mBin (oCmp .Eq) (.pk 4) (.ev (mCon (.int (0)))))) (sRet (mBin (fun _ => vBin .Add) (.ev (mSl (.pk 0) none (some (mVar 3)))) (.ev (mSl (.pk 0) (some (mBin (fun _ => vBin .Add) (.pk 3) (.ev (mCon (.int (1)))))) none)))) sPass) (sSeq (sIf (bVal (mBin (oCmp .Eq) (.pk 4) (.ev (mCon (.int (1)))))) (sRet (mBin (fun _ => vBin .Add) (.ev (mSl (.pk 0) none (some (mBin (fun _ => vBin .Add) (.pk 3) (.ev (mCon (.int (1)))))))) (.ev (mSl (.pk 0) (some (mVar 3)) none)))) sPass) (sSeq (sIf (bVal (mBin (oCmp .Eq) (.pk 4) (.ev (mCon (.int (2)))))) (sSeq (sAsg 5 (mBin (fun _ => vIdx) (.ev (mCon (.str "KSxyz() ab"))) (.ev (mBin (fun _ => vBin .Mod) (.ev (mBin (fun _ => vIdx) (.pk 1) (.ev (mBin (fun _ => vBin .Add) (.pk 2) (.ev (mCon (.int (2)))))))) (.ev (mCon (.int (10)))))))) (sRet (mBin (fun _ => vBin .Add) (.ev (mBin (fun _ => vBin .Add) (.ev (mSl (.pk 0) none (some (mVar 3)))) (.pk 5))) (.ev (mSl (.pk 0) (some (mBin (fun _ => vBin .Add) (.pk 3) (.ev (mCon (.int (1)))))) none))))) sPass) (sSeq (sIf (bVal (mBin (oCmp .Eq) (.pk 4) (.ev (mCon (.int (3)))))) (sSeq (sAsg 6 (mUn (fun _ => vRev) (.ev (mSl (.pk 0) (some (mVar 3)) (some (mBin (fun _ => vBin .Add) (.pk 3) (.ev (mCon (.int (2)))))))))) (sRet (mBin (fun _ => vBin .Add) (.ev (mBin (fun _ => vBin .Add) (.ev (mSl (.pk 0) none (some (mVar 3)))) (.pk 6))) (.ev (mSl (.pk 0) (some (mBin (fun _ => vBin .Add) (.pk 3) (.ev (mCon (.int (2)))))) none))))) sPass) (sSeq (sAsg 7 (mLst [mCon (.str ""), mCon (.str " "), mCon (.str "(K)"), mCon (.str "K (S)"), mCon (.str "(K S) x"), mCon (.str "K  S"), mCon (.str "K S "), mCon (.str " K"), mCon (.str "K(S x)"), mCon (.str "K (S x"), mCon (.str "K S)"), mCon (.str "abcd")])) (sRet (mBin (fun _ => vIdx) (.ev (mBin (fun _ => vBin .Add) (.pk 7) (.ev (mLst [mCon (.str "K ()"), mCon (.str "KS"), mCon (.str "k K"), mCon (.str "K (S x)(S x)")])))) (.ev (mBin (fun _ => vBin .Mod) (.ev (mBin (fun _ => vIdx) (.pk 1) (.ev (mBin (fun _ => vBin .Add) (.pk 2) (.ev (mCon (.int (2)))))))) (.ev (mCon (.int (16))))))))))))))⟩
def d__law_text_refused : FnDef := ⟨1, 2, sSeq (sTry (sExpr (mCall 13 [mVar 0] [])) [(2, some 1, sRet (mAnd (mIsE 1 (some 0)) (mUn oNot (.ev (mIsE 1 (some 1))))))]) (sRet (mCon (.bool false)))⟩
structure HasRead (T : Nat → Option FnDef) : Prop extends HasTerms T where
  word_at : T 11 = some d_word_at
  taken : T 12 = some d_taken
section
variable {T : Nat → Option FnDef}
end
end Tx
end CH

/-! CH58: terms as texts: reading. -/
namespace CH
open PySem L2
namespace Tx
section
variable {T : Nat → Option FnDef}
end
end Tx
end CH

/-! CH59: terms as texts: writing. -/
namespace CH
open PySem L2
namespace Tx
structure HasWrite (T : Nat → Option FnDef) : Prop extends HasRead T where
  spine : T 8 = some d_spine
  written : T 9 = some d_written
section
variable {T : Nat → Option FnDef}
end
end Tx
end CH

/-! CH60: terms as texts: read, shown, the law's own texts. -/
namespace CH
open PySem L2
namespace Tx
structure HasTexts (T : Nat → Option FnDef) : Prop extends HasWrite T where
  read : T 13 = some d_read
  ltext : T 214 = some d__law_text
  refused : T 216 = some d__law_text_refused
section
variable {T : Nat → Option FnDef}
end
end Tx
end CH

/-! CH61: class Book: its methods. -/
namespace CH
open PySem L2
def d_Book___init__ : FnDef := ⟨1, 1, sSeq (sFset "Book" (mVar 0) "told" (mLst [])) (sFset "Book" (mVar 0) "rows" (mLst []))⟩
def d_Book___len__ : FnDef := ⟨1, 1, sRet (mUn (fun _ => vLen) (.ev (mFld "Book" (mVar 0) "told")))⟩
def d_Book___str__ : FnDef := ⟨1, 2, sRet (mUn (fun _ => vJoin " ") (.ev (mCompO (mFld "Book" (mVar 0) "told") (.nm 1) [1] none (mBin (fun _ => vIdx) (.pk 1) (.ev (mCon (.int (0))))))))⟩
def d_Book_tell : FnDef := ⟨3, 4, sSeq (sIf (bOr (bNot (bTru (.ev (mCall 0 [mVar 1] [])))) (bVal (mBin (oCmp .In) (.pk 1) (.ev (mMeth "Book" "names" 155 (mVar 0) [] []))))) (sRaiseF 5 "name" (mVar 1)) sPass) (sSeq (sAsg 3 (mMeth "Book" "spread" 157 (mVar 0) [mVar 2] [])) (sSeq (sExpr (mObM oApp (mFld "Book" (mVar 0) "told") [mTup [mVar 1, mVar 3]])) (sRet (mCall 5 [mVar 3] []))))⟩
def d_Book_names : FnDef := ⟨1, 2, sRet (mCompO (mFld "Book" (mVar 0) "told") (.nm 1) [1] none (mBin (fun _ => vIdx) (.pk 1) (.ev (mCon (.int (0))))))⟩
def d_Book_term : FnDef := ⟨2, 3, sSeq (sForO (mFld "Book" (mVar 0) "told") (.nm 2) (sIf (bVal (mBin (oCmp .Eq) (.ev (mBin (fun _ => vIdx) (.pk 2) (.ev (mCon (.int (0)))))) (.pk 1))) (sRet (mBin (fun _ => vIdx) (.pk 2) (.ev (mCon (.int (1)))))) sPass)) (sRaiseF 5 "name" (mVar 1))⟩
def d_Book_spread : FnDef := ⟨2, 2, sRet (mCall 15 [mMeth "Book" "put_in" 158 (mVar 0) [mCall 4 [mVar 1] []] []] [])⟩
def d_Book_put_in : FnDef := ⟨2, 4, sSeq (sIf (bTru (.ev (mUn (oIsa .tuple) (.pk 1)))) (sRet (mTup [mMeth "Book" "put_in" 158 (mVar 0) [mBin (fun _ => vIdx) (.pk 1) (.ev (mCon (.int (0))))] [], mMeth "Book" "put_in" 158 (mVar 0) [mBin (fun _ => vIdx) (.pk 1) (.ev (mCon (.int (1))))] []])) sPass) (sSeq (sAsg 2 (mCompO (mFld "Book" (mVar 0) "told") (.nm 3) [3] (some (bVal (mBin (oCmp .Eq) (.ev (mBin (fun _ => vIdx) (.pk 3) (.ev (mCon (.int (0)))))) (.pk 1)))) (mBin (fun _ => vIdx) (.pk 3) (.ev (mCon (.int (1))))))) (sRet (mIf (bTru (.pk 2)) (mBin (fun _ => vIdx) (.pk 2) (.ev (mCon (.int (0))))) (mVar 1))))⟩
def d_Book_play : FnDef := ⟨3, 5, sSeq (sAsg 3 (mMeth "Book" "spread" 157 (mVar 0) [mVar 1] [])) (sSeq (sAsg 4 (mCall 35 [mVar 3, mVar 2] [])) (sSeq (sExpr (mObM oApp (mFld "Book" (mVar 0) "rows") [mTup [mVar 3, mUn (fun _ => vLen) (.ev (mBin (fun _ => vIdx) (.pk 4) (.ev (mCon (.int (1)))))), mBin (fun _ => vIdx) (.pk 4) (.ev (mCon (.int (0))))]])) (sRet (mBin (fun _ => vIdx) (.pk 4) (.ev (mCon (.int (0))))))))⟩
def d_Book_log : FnDef := ⟨1, 1, sRet (mUn (fun _ => vToL) (.ev (mFld "Book" (mVar 0) "rows")))⟩
def d_Book_forget : FnDef := ⟨1, 1, sSeq (sIf (bNot (bTru (.ev (mFld "Book" (mVar 0) "told")))) (sRaise 10) sPass) (sRet (mBin (fun _ => vIdx) (.ev (mObM oPop (mFld "Book" (mVar 0) "told") [])) (.ev (mCon (.int (0))))))⟩
/-! ### walks over list objects -/
section
variable {β : Type} {cs : Cs} {n : Nat} {tg : Tg} {own : List Nat}
theorem live_fil (B : List β) (g : β → PyData) {t : M Bool} {elt : M Val} (p : β → Bool) (f : β → PyData) (s : S) (put : β → S) (hx : s.ob[n]? = some (.lst (B.map g))) (hp : ∀ b ∈ B, tgPut tg (g b) s = some (put b)) (ht : ∀ b ∈ B, t cs (put b) = .ok (p b) (put b)) (he : ∀ b ∈ B, p b = true → elt cs (put b) = .ok (.dat (f b)) (put b)) (hw : ∀ b ∈ B, (put b).wipe own = s) :
    ∀ (rest : List β) (i : Nat) (acc : List PyData) (m : Nat), rest = B.drop i → rest.length < m → acc.length + rest.length ≤ big → compLive n tg own (some t) elt cs m i acc s = .ok (acc ++ (rest.filter p).map f) s
  | [], i, acc, m + 1, hr, _, _ => by
    have h0 : B.length ≤ i := by
      have := congrArg List.length hr
      simp at this
      omega
    unfold compLive
    rw [hx]
    simp only
    rw [List.getElem?_eq_none (by rw [List.length_map]; exact h0)]
    simp
  | b :: rest, i, acc, m + 1, hr, hm, hb => by
    have hi : B[i]? = some b := by
      have := congrArg (fun l => l[0]?) hr
      simpa using this.symm
    have hmem : b ∈ B := List.mem_of_getElem? hi
    have hr' : rest = B.drop (i + 1) := by
      have := congrArg List.tail hr
      simpa using this
    have hxi : (B.map g)[i]? = some (g b) := by rw [List.getElem?_map, hi]; rfl
    simp only [List.length_cons] at hm hb
    unfold compLive
    rw [hx]
    simp only [hxi, hp b hmem, ht b hmem]
    cases e : p b with
    | false =>
      simp only [hw b hmem]
      rw [live_fil B g p f s put hx hp ht he hw rest (i + 1) acc m hr' (by omega) (by omega)]
      simp [e]
    | true =>
      have hlt : acc.length < big := by omega
      simp only [he b hmem e, x_toD_dat, hlt, if_true, hw b hmem]
      rw [live_fil B g p f s put hx hp ht he hw rest (i + 1) (acc ++ [f b]) m hr' (by omega) (by simp; omega)]
      simp [e]
  | [], _, _, 0, _, h, _ => by simp at h
  | _ :: _, _, _, 0, _, h, _ => by simp at h
theorem live_map (B : List β) (g : β → PyData) {elt : M Val} (f : β → PyData) (s : S) (put : β → S) (hx : s.ob[n]? = some (.lst (B.map g))) (hp : ∀ b ∈ B, tgPut tg (g b) s = some (put b)) (he : ∀ b ∈ B, elt cs (put b) = .ok (.dat (f b)) (put b)) (hw : ∀ b ∈ B, (put b).wipe own = s) :
    ∀ (rest : List β) (i : Nat) (acc : List PyData) (m : Nat), rest = B.drop i → rest.length < m → acc.length + rest.length ≤ big → compLive n tg own none elt cs m i acc s = .ok (acc ++ rest.map f) s
  | [], i, acc, m + 1, hr, _, _ => by
    have h0 : B.length ≤ i := by
      have := congrArg List.length hr
      simp at this
      omega
    unfold compLive
    rw [hx]
    simp only
    rw [List.getElem?_eq_none (by rw [List.length_map]; exact h0)]
    simp
  | b :: rest, i, acc, m + 1, hr, hm, hb => by
    have hi : B[i]? = some b := by
      have := congrArg (fun l => l[0]?) hr
      simpa using this.symm
    have hmem : b ∈ B := List.mem_of_getElem? hi
    have hr' : rest = B.drop (i + 1) := by
      have := congrArg List.tail hr
      simpa using this
    have hxi : (B.map g)[i]? = some (g b) := by rw [List.getElem?_map, hi]; rfl
    simp only [List.length_cons] at hm hb
    have hlt : acc.length < big := by omega
    unfold compLive
    rw [hx]
    simp only [hxi, hp b hmem, he b hmem, x_toD_dat, hlt, if_true, hw b hmem]
    rw [live_map B g f s put hx hp he hw rest (i + 1) (acc ++ [f b]) m hr' (by omega) (by simp; omega)]
    simp
  | [], _, _, 0, _, h, _ => by simp at h
  | _ :: _, _, _, 0, _, h, _ => by simp at h
/-- for b in the list: if p b: return r b -/
theorem live_find (B : List β) (g : β → PyData) {body : M Fl} (p : β → Bool) (r : β → Val) (st : Option β → S) (hx : ∀ o, (st o).ob[n]? = some (.lst (B.map g))) (hp : ∀ o, ∀ b ∈ B, tgPut tg (g b) (st o) = some (st (some b)))
    (hb : ∀ b ∈ B, body cs (st (some b)) = if p b = true then .ok (.rt (r b)) (st (some b)) else .ok .nx (st (some b))) :
    ∀ (rest : List β) (i : Nat) (o : Option β) (m : Nat), rest = B.drop i → rest.length < m → ∃ o', forLive n tg body cs m i (st o) = match rest.find? p with
      | some b => .ok (.rt (r b)) (st o')
      | none => .ok .nx (st o')
  | [], i, o, m + 1, hr, _ => by
    have h0 : B.length ≤ i := by
      have := congrArg List.length hr
      simp at this
      omega
    refine ⟨o, ?_⟩
    unfold forLive
    rw [hx]
    simp only
    rw [List.getElem?_eq_none (by rw [List.length_map]; exact h0)]
    simp
  | b :: rest, i, o, m + 1, hr, hm => by
    have hi : B[i]? = some b := by
      have := congrArg (fun l => l[0]?) hr
      simpa using this.symm
    have hmem : b ∈ B := List.mem_of_getElem? hi
    have hr' : rest = B.drop (i + 1) := by
      have := congrArg List.tail hr
      simpa using this
    have hxi : (B.map g)[i]? = some (g b) := by rw [List.getElem?_map, hi]; rfl
    simp only [List.length_cons] at hm
    unfold forLive
    rw [hx]
    simp only [hxi, hp o b hmem, hb b hmem]
    cases e : p b with
    | false =>
      obtain ⟨o', h'⟩ := live_find B g p r st hx hp hb rest (i + 1) (some b) m hr' (by omega)
      refine ⟨o', ?_⟩
      simp only [List.find?_cons, e]
      exact h'
    | true => exact ⟨some b, by simp [List.find?_cons, e]⟩
  | [], _, _, 0, _, h => by simp at h
  | _ :: _, _, _, 0, _, h => by simp at h
end
theorem lk_told (x y : Val) : List.lookup ("told" : Str) [("told", x), ("rows", y)] = some x := rfl
theorem lk_rows (x y : Val) : List.lookup ("rows" : Str) [("told", x), ("rows", y)] = some y := rfl
theorem lkb_len (x y : Val) : List.lookup ("__len__" : Str) [("told", x), ("rows", y)] = none := rfl
theorem lkb_str (x y : Val) : List.lookup ("__str__" : Str) [("told", x), ("rows", y)] = none := rfl
theorem lk_tell (x y : Val) : List.lookup ("tell" : Str) [("told", x), ("rows", y)] = none := rfl
theorem lk_names (x y : Val) : List.lookup ("names" : Str) [("told", x), ("rows", y)] = none := rfl
theorem lk_term (x y : Val) : List.lookup ("term" : Str) [("told", x), ("rows", y)] = none := rfl
theorem lk_spread (x y : Val) : List.lookup ("spread" : Str) [("told", x), ("rows", y)] = none := rfl
theorem lk_put_in (x y : Val) : List.lookup ("put_in" : Str) [("told", x), ("rows", y)] = none := rfl
theorem lk_play (x y : Val) : List.lookup ("play" : Str) [("told", x), ("rows", y)] = none := rfl
theorem lk_log (x y : Val) : List.lookup ("log" : Str) [("told", x), ("rows", y)] = none := rfl
theorem lk_forget (x y : Val) : List.lookup ("forget" : Str) [("told", x), ("rows", y)] = none := rfl
@[simp] theorem x_frz_obj (n : Nat) : frz (.obj n) = .obj n := rfl
theorem see_l {ob : List Ob} {n : Nat} {xs : List PyData} (h : ob[n]? = some (.lst xs)) : see ob (.obj n) = .own xs := by
  unfold see
  simp [h]
/-! ### what a book holds -/
abbrev Bk := List (Str × Tm)
def lnB (p : Str × Tm) : PyData := .tuple [.str p.1, tD p.2]
/-- a book: its place, the places of its two lists -/
structure BkAt (ob : List Ob) (b i j : Nat) (B : Bk) (R : List PyData) : Prop where
  me : ob[b]? = some (.ins "Book" [("told", .obj i), ("rows", .obj j)])
  told : ob[i]? = some (.lst (B.map lnB))
  rows : ob[j]? = some (.lst R)
  small : B.length ≤ 1000
  few : R.length ≤ 1000
structure HasBook (T : Nat → Option FnDef) : Prop extends HasSteps T where
  leaves : T 5 = some d_leaves
  played : T 35 = some d_played
  bini : T 150 = some d_Book___init__
  blen : T 151 = some d_Book___len__
  bstr : T 153 = some d_Book___str__
  btell : T 154 = some d_Book_tell
  bnames : T 155 = some d_Book_names
  bterm : T 156 = some d_Book_term
  bspread : T 157 = some d_Book_spread
  bput : T 158 = some d_Book_put_in
  bplay : T 159 = some d_Book_play
  blog : T 160 = some d_Book_log
  bforget : T 161 = some d_Book_forget
/-- the term of a name -/
def lookT (B : Bk) (d : PyData) : Option Tm := (B.find? fun p => (PyData.str p.1).eqv d).map (·.2)
def spreadT (B : Bk) : Tm → Tm
  | .ap a b => .ap (spreadT B a) (spreadT B b)
  | t => (lookT B (tD t)).getD t
section
variable {T : Nat → Option FnDef} {ob : List Ob} {b i j : Nat} {B : Bk} {R : List PyData}
theorem x_fuel : ∀ {k : Nat}, k ≤ 1000 → k < wFuel := fun {k} h => by unfold wFuel; omega
theorem x_big : ∀ {k : Nat}, k ≤ 1000 → k ≤ big := fun {k} h => by unfold big; omega
theorem b_names (H : T 155 = some d_Book_names) (A : BkAt ob b i j B R) (n : Nat) : (sem T (n + 1)).run 155 [.obj b] ob = .ok (.own ((B.map (·.1)).map .str)) ob := by
  rw [sem_run H]
  unfold d_Book_names
  refine Eq.trans (runDef_fin _ _ _ _ _ _ rfl) ?_
  have h := live_map (cs := sem T n) (n := i) (tg := .nm 1) (own := [1]) B lnB (elt := mBin (fun _ => vIdx) (.pk 1) (.ev (mCon (.int (0))))) (fun p => .str p.1) ⟨[some (.obj b), none], ob⟩ (fun p => ⟨[some (.obj b), some (.dat (lnB p))], ob⟩) A.told (fun p _ => by simp) (fun p _ => by simp [lnB]) (fun p _ => by simp) B 0 [] wFuel rfl (x_fuel A.small) (by simpa using x_big A.small)
  simp [mCompO, mFld, A.me, lk_told, lk_rows, lkb_len, lkb_str, lk_tell, lk_names, lk_term, lk_spread, lk_put_in, lk_play, lk_log, lk_forget, h]
theorem eq_strL (cs : Cs) (x : Str) (d : PyData) : vEq cs (.dat (.str x)) (.dat d) = some ((PyData.str x).eqv d) := vEq_dat cs (by simp [PyData.depth])
theorem b_term (H : T 156 = some d_Book_term) (A : BkAt ob b i j B R) (nm : PyData) (n : Nat) : (sem T (n + 3)).run 156 [.obj b, .dat nm] ob = match lookT B nm with
    | some t => .ok (.dat (tD t)) ob
    | none => .ex ⟨5, some ("name", nm)⟩ ob := by
  rw [sem_run H]
  unfold d_Book_term
  refine Eq.trans (runDef_fin _ _ _ _ _ _ rfl) ?_
  obtain ⟨o', h⟩ := live_find (cs := sem T (n + 2)) (n := i) (tg := .nm 2) B lnB (body := sIf (bVal (mBin (oCmp .Eq) (.ev (mBin (fun _ => vIdx) (.pk 2) (.ev (mCon (.int (0)))))) (.pk 1))) (sRet (mBin (fun _ => vIdx) (.pk 2) (.ev (mCon (.int (1)))))) sPass) (fun p => (PyData.str p.1).eqv nm) (fun p => .dat (tD p.2)) (fun o => ⟨[some (.obj b), some (.dat nm), o.map fun p => .dat (lnB p)], ob⟩) (fun _ => A.told) (fun o p _ => by simp) (fun p _ => by
      simp [lnB, eq_strL]) B 0 none wFuel rfl (x_fuel A.small)
  have h : forLive i (.nm 2) (sIf (bVal (mBin (oCmp .Eq) (.ev (mBin (fun _ => vIdx) (.pk 2) (.ev (mCon (.int (0)))))) (.pk 1))) (sRet (mBin (fun _ => vIdx) (.pk 2) (.ev (mCon (.int (1)))))) sPass) (sem T (n + 2)) wFuel 0 ⟨[some (.obj b), some (.dat nm), none], ob⟩ = _ := h
  unfold lookT
  cases e : B.find? (fun p => (PyData.str p.1).eqv nm) with
  | some p =>
    rw [e] at h
    simp [sForO, mFld, A.me, lk_told, lk_rows, lkb_len, lkb_str, lk_tell, lk_names, lk_term, lk_spread, lk_put_in, lk_play, lk_log, lk_forget, h]
  | none =>
    rw [e] at h
    simp [sForO, mFld, A.me, lk_told, lk_rows, lkb_len, lkb_str, lk_tell, lk_names, lk_term, lk_spread, lk_put_in, lk_play, lk_log, lk_forget, h]
theorem find_head {α : Type} (p : α → Bool) : ∀ l : List α, l.find? p = (l.filter p).head?
  | [] => rfl
  | a :: l => by
    rw [List.find?_cons, List.filter_cons]
    cases e : p a with
    | true => simp
    | false => simpa using find_head p l
theorem b_put (H : T 158 = some d_Book_put_in) (A : BkAt ob b i j B R) : ∀ (t : Tm) (n : Nat), t.dep + 1 ≤ n → (sem T n).run 158 [.obj b, .dat (tD t)] ob = .ok (.dat (tD (spreadT B t))) ob := by
  have leaf : ∀ (x : Str) (n : Nat), (sem T (n + 1)).run 158 [.obj b, .dat (.str x)] ob = .ok (.dat (((lookT B (.str x)).map tD).getD (.str x))) ob := fun x n => by
    rw [sem_run H]
    unfold d_Book_put_in
    refine Eq.trans (runDef_fin _ _ _ _ _ _ rfl) ?_
    have h := live_fil (cs := sem T n) (n := i) (tg := .nm 3) (own := [3]) B lnB (t := bVal (mBin (oCmp .Eq) (.ev (mBin (fun _ => vIdx) (.pk 3) (.ev (mCon (.int (0)))))) (.pk 1))) (elt := mBin (fun _ => vIdx) (.pk 3) (.ev (mCon (.int (1))))) (fun p => (PyData.str p.1).eqv (.str x)) (fun p => tD p.2) ⟨[some (.obj b), some (.dat (.str x)), none, none], ob⟩ (fun p => ⟨[some (.obj b), some (.dat (.str x)), none, some (.dat (lnB p))], ob⟩) A.told (fun p _ => by simp) (fun p _ => by simp [lnB]) (fun p _ _ => by simp [lnB]) (fun p _ => by simp) B 0 [] wFuel rfl (x_fuel A.small) (by simpa using x_big A.small)
    unfold lookT
    rw [find_head]
    cases e : B.filter (fun p => (PyData.str p.1).eqv (.str x)) with
    | nil =>
      rw [e] at h
      simp [mCompO, mFld, A.me, lk_told, lk_rows, lkb_len, lkb_str, lk_tell, lk_names, lk_term, lk_spread, lk_put_in, lk_play, lk_log, lk_forget, h]
    | cons p l =>
      rw [e] at h
      simp [mCompO, mFld, A.me, lk_told, lk_rows, lkb_len, lkb_str, lk_tell, lk_names, lk_term, lk_spread, lk_put_in, lk_play, lk_log, lk_forget, h]
  intro t
  induction t with
  | K => 
    intro n hn
    obtain ⟨m, rfl⟩ : ∃ m, n = m + 1 := ⟨n - 1, by omega⟩
    rw [show tD .K = .str "K" from rfl, leaf, show spreadT B .K = (lookT B (.str "K")).getD .K from rfl]
    cases lookT B (.str "K") <;> rfl
  | S =>
    intro n hn
    obtain ⟨m, rfl⟩ : ∃ m, n = m + 1 := ⟨n - 1, by omega⟩
    rw [show tD .S = .str "S" from rfl, leaf, show spreadT B .S = (lookT B (.str "S")).getD .S from rfl]
    cases lookT B (.str "S") <;> rfl
  | nm x =>
    intro n hn
    obtain ⟨m, rfl⟩ : ∃ m, n = m + 1 := ⟨n - 1, by omega⟩
    rw [show tD (.nm x) = .str x from rfl, leaf, show spreadT B (.nm x) = (lookT B (.str x)).getD (.nm x) from rfl]
    cases lookT B (.str x) <;> rfl
  | ap a c iha ihc =>
    intro n hn
    have hd : (Tm.ap a c).dep = max a.dep c.dep + 1 := rfl
    rw [hd] at hn
    obtain ⟨m, rfl⟩ : ∃ m, n = m + 1 := ⟨n - 1, by omega⟩
    have h1 := iha m (by omega)
    have h2 := ihc m (by omega)
    rw [sem_run H]
    unfold d_Book_put_in
    refine Eq.trans (runDef_fin _ _ _ _ _ _ rfl) ?_
    simp [tD, mMeth, A.me, lk_told, lk_rows, lkb_len, lkb_str, lk_tell, lk_names, lk_term, lk_spread, lk_put_in, lk_play, lk_log, lk_forget, h1, h2, spreadT]
theorem spread_ok (hB : ∀ p ∈ B, p.2.ok = true) : ∀ t : Tm, t.ok = true → (spreadT B t).ok = true := by
  have leaf : ∀ (d : PyData) (t : Tm), t.ok = true → ((lookT B d).getD t).ok = true := fun d t ht => by
    unfold lookT
    cases e : B.find? (fun p => (PyData.str p.1).eqv d) with
    | none => exact ht
    | some p => exact hB p (List.mem_of_find?_eq_some e)
  intro t ht
  induction t with
  | K => exact leaf _ _ ht
  | S => exact leaf _ _ ht
  | nm x => exact leaf _ _ ht
  | ap a c iha ihc =>
    obtain ⟨h1, h2⟩ := ap_ok ht
    show ((spreadT B a).ok && (spreadT B c).ok) = true
    rw [iha h1, ihc h2]
    rfl
theorem b_spread (H : HasBook T) (A : BkAt ob b i j B R) (hB : ∀ p ∈ B, p.2.ok = true) (t : Tm) (hok : t.ok = true) (hl : t.lv ≤ 200) (n : Nat) (hn : 207 ≤ n) : (sem T n).run 157 [.obj b, .dat (tD t)] ob = if (spreadT B t).lv ≤ 200 then .ok (.dat (tD (spreadT B t))) ob else .ex ⟨9, none⟩ ob := by
  obtain ⟨m, rfl⟩ : ∃ m, n = m + 1 := ⟨n - 1, by omega⟩
  have h1 := r_checked H.toHasSteps t m ob hok hl (by omega)
  have hd := t.dep_lv
  have h2 := b_put H.bput A t m (by omega)
  have so := spread_ok hB t hok
  rw [sem_run H.bspread]
  unfold d_Book_spread
  refine Eq.trans (runDef_fin _ _ _ _ _ _ rfl) ?_
  by_cases hc : (spreadT B t).lv ≤ 200
  · have h3 := r_looked H.toHasSteps (spreadT B t) m ob so hc (by omega)
    rw [if_pos hc]
    simp [mMeth, A.me, lk_told, lk_rows, lkb_len, lkb_str, lk_tell, lk_names, lk_term, lk_spread, lk_put_in, lk_play, lk_log, lk_forget, h1, h2, h3]
  · have h3 := bad_looked H.toHasSteps (spreadT B t) m ob so (by omega) (by omega)
    rw [if_neg hc]
    simp [mMeth, A.me, lk_told, lk_rows, lkb_len, lkb_str, lk_tell, lk_names, lk_term, lk_spread, lk_put_in, lk_play, lk_log, lk_forget, h1, h2, h3]
/-- no term at all -/
def NoTm (T : Nat → Option FnDef) (d : PyData) : Prop := ∀ (n : Nat) (ob : List Ob), 205 ≤ n → (sem T n).run 4 [.dat d] ob = .ex ⟨1, none⟩ ob
theorem bad_spread (H : HasBook T) (A : BkAt ob b i j B R) (d : PyData) (hd : NoTm T d) (n : Nat) (hn : 207 ≤ n) : (sem T n).run 157 [.obj b, .dat d] ob = .ex ⟨1, none⟩ ob := by
  obtain ⟨m, rfl⟩ : ∃ m, n = m + 1 := ⟨n - 1, by omega⟩
  have h1 := hd m ob (by omega)
  rw [sem_run H.bspread]
  unfold d_Book_spread
  refine Eq.trans (runDef_fin _ _ _ _ _ _ rfl) ?_
  simp [mMeth, A.me, lk_told, lk_rows, lkb_len, lkb_str, lk_tell, lk_names, lk_term, lk_spread, lk_put_in, lk_play, lk_log, lk_forget, h1]
theorem set_at {α : Type} {l : List α} {k : Nat} {o a : α} (h : l[k]? = some o) : (l.set k a)[k]? = some a := by
  rw [List.getElem?_set_self (List.getElem?_eq_some_iff.mp h).1]
theorem bad_tell (H : HasBook T) (A : BkAt ob b i j B R) (d e : PyData) (hd : noNm d = true) (hdl : ∀ x, d = .str x → x.length ≤ 1000000) (n : Nat) (hn : 4 ≤ n) : (sem T n).run 154 [.obj b, .dat d, .dat e] ob = .ex ⟨5, some ("name", d)⟩ ob := by
  obtain ⟨m, rfl⟩ : ∃ m, n = m + 4 := ⟨n - 4, by omega⟩
  have h1 := r_no_name H.is_name d hd hdl (m + 2) ob
  rw [sem_run H.btell]
  unfold d_Book_tell
  refine Eq.trans (runDef_fin _ _ _ _ _ _ rfl) ?_
  simp [h1]
theorem used_tell (H : HasBook T) (A : BkAt ob b i j B R) (x : Str) (e : PyData) (hx : isNm x = true) (hu : x ∈ B.map (·.1)) (n : Nat) (hn : 4 ≤ n) : (sem T n).run 154 [.obj b, .dat (.str x), .dat e] ob = .ex ⟨5, some ("name", .str x)⟩ ob := by
  obtain ⟨m, rfl⟩ : ∃ m, n = m + 4 := ⟨n - 4, by omega⟩
  have hl := nm_len hx
  have h1 := r_is_name H.is_name (m + 2) x (by omega) ob
  have h2 := b_names H.bnames A (m + 2)
  rw [hx] at h1
  rw [sem_run H.btell]
  unfold d_Book_tell
  refine Eq.trans (runDef_fin _ _ _ _ _ _ rfl) ?_
  generalize B.map (·.1) = xs at hu h2
  have h3 := in_names (sem T (m + 3)) x xs
  simp only [hu, decide_true] at h3
  simp [h1, mMeth, A.me, lk_told, lk_rows, lkb_len, lkb_str, lk_tell, lk_names, lk_term, lk_spread, lk_put_in, lk_play, lk_log, lk_forget, h2, h3]
theorem term_tell (H : HasBook T) (A : BkAt ob b i j B R) (x : Str) (d : PyData) (hx : isNm x = true) (hu : ¬ x ∈ B.map (·.1)) (hd : NoTm T d) (n : Nat) (hn : 208 ≤ n) : (sem T n).run 154 [.obj b, .dat (.str x), .dat d] ob = .ex ⟨1, none⟩ ob := by
  obtain ⟨m, rfl⟩ : ∃ m, n = m + 4 := ⟨n - 4, by omega⟩
  have hl := nm_len hx
  have h1 := r_is_name H.is_name (m + 2) x (by omega) ob
  have h2 := b_names H.bnames A (m + 2)
  have h4 := bad_spread H A d hd (m + 3) (by omega)
  rw [hx] at h1
  rw [sem_run H.btell]
  unfold d_Book_tell
  refine Eq.trans (runDef_fin _ _ _ _ _ _ rfl) ?_
  generalize B.map (·.1) = xs at hu h2
  have h3 := in_names (sem T (m + 3)) x xs
  simp only [hu, decide_false] at h3
  simp [h1, mMeth, A.me, lk_told, lk_rows, lkb_len, lkb_str, lk_tell, lk_names, lk_term, lk_spread, lk_put_in, lk_play, lk_log, lk_forget, h2, h3, h4]
theorem b_tell (H : HasBook T) (A : BkAt ob b i j B R) (hB : ∀ p ∈ B, p.2.ok = true) (x : Str) (t : Tm) (hx : isNm x = true) (hu : ¬ x ∈ B.map (·.1)) (hok : t.ok = true) (hl : t.lv ≤ 200) (n : Nat) (hn : 208 ≤ n) :
    (sem T n).run 154 [.obj b, .dat (.str x), .dat (tD t)] ob = if (spreadT B t).lv ≤ 200 then .ok (.dat (.int (spreadT B t).lv)) (ob.set i (.lst ((B ++ [(x, spreadT B t)]).map lnB))) else .ex ⟨9, none⟩ ob := by
  obtain ⟨m, rfl⟩ : ∃ m, n = m + 4 := ⟨n - 4, by omega⟩
  have hl' := nm_len hx
  have h1 := r_is_name H.is_name (m + 2) x (by omega) ob
  have h2 := b_names H.bnames A (m + 2)
  have h4 := b_spread H A hB t hok hl (m + 3) (by omega)
  have so := spread_ok hB t hok
  have hbg : B.length < big := by have := A.small; unfold big; omega
  rw [hx] at h1
  rw [sem_run H.btell]
  unfold d_Book_tell
  refine Eq.trans (runDef_fin _ _ _ _ _ _ rfl) ?_
  generalize hxs : B.map (·.1) = xs at hu h2
  have h3 := in_names (sem T (m + 3)) x xs
  simp only [hu, decide_false] at h3
  by_cases hc : (spreadT B t).lv ≤ 200
  · rw [if_pos hc] at h4 ⊢
    have h5 := r_leaves H.toHasSteps H.leaves (spreadT B t) (m + 3) (ob.set i (.lst ((B ++ [(x, spreadT B t)]).map lnB))) so hc (by omega)
    rw [List.map_append] at h5 ⊢
    simp [h1, mMeth, mFld, mObM, oApp, A.me, A.told, lk_told, lk_rows, lkb_len, lkb_str, lk_tell, lk_names, lk_term, lk_spread, lk_put_in, lk_play, lk_log, lk_forget, h2, h3, h4, hbg]
    simp [lnB] at h5
    simp [h5]
    rfl
  · rw [if_neg hc] at h4 ⊢
    simp [h1, mMeth, A.me, lk_told, lk_rows, lkb_len, lkb_str, lk_tell, lk_names, lk_term, lk_spread, lk_put_in, lk_play, lk_log, lk_forget, h2, h3, h4]
theorem bad_play (H : HasBook T) (A : BkAt ob b i j B R) (d k : PyData) (hd : NoTm T d) (n : Nat) (hn : 208 ≤ n) : (sem T n).run 159 [.obj b, .dat d, .dat k] ob = .ex ⟨1, none⟩ ob := by
  obtain ⟨m, rfl⟩ : ∃ m, n = m + 1 := ⟨n - 1, by omega⟩
  have h4 := bad_spread H A d hd m (by omega)
  rw [sem_run H.bplay]
  unfold d_Book_play
  refine Eq.trans (runDef_fin _ _ _ _ _ _ rfl) ?_
  simp [mMeth, A.me, lk_told, lk_rows, lkb_len, lkb_str, lk_tell, lk_names, lk_term, lk_spread, lk_put_in, lk_play, lk_log, lk_forget, h4]
theorem big_play (H : HasBook T) (A : BkAt ob b i j B R) (hB : ∀ p ∈ B, p.2.ok = true) (t : Tm) (k : PyData) (hok : t.ok = true) (hl : t.lv ≤ 200) (hc : 200 < (spreadT B t).lv) (n : Nat) (hn : 208 ≤ n) : (sem T n).run 159 [.obj b, .dat (tD t), .dat k] ob = .ex ⟨9, none⟩ ob := by
  obtain ⟨m, rfl⟩ : ∃ m, n = m + 1 := ⟨n - 1, by omega⟩
  have h4 := b_spread H A hB t hok hl m (by omega)
  rw [if_neg (by omega)] at h4
  rw [sem_run H.bplay]
  unfold d_Book_play
  refine Eq.trans (runDef_fin _ _ _ _ _ _ rfl) ?_
  simp [mMeth, A.me, lk_told, lk_rows, lkb_len, lkb_str, lk_tell, lk_names, lk_term, lk_spread, lk_put_in, lk_play, lk_log, lk_forget, h4]
/-- what is no number of steps -/
def NoCt (T : Nat → Option FnDef) (k : PyData) : Prop := ∀ (u : Tm) (n : Nat) (ob : List Ob), u.ok = true → u.lv ≤ 200 → 206 ≤ n → (sem T n).run 35 [.dat (tD u), .dat k] ob = .ex ⟨4, none⟩ ob
theorem count_play (H : HasBook T) (A : BkAt ob b i j B R) (hB : ∀ p ∈ B, p.2.ok = true) (t : Tm) (k : PyData) (hk : NoCt T k) (hok : t.ok = true) (hl : t.lv ≤ 200) (hc : (spreadT B t).lv ≤ 200) (n : Nat) (hn : 208 ≤ n) : (sem T n).run 159 [.obj b, .dat (tD t), .dat k] ob = .ex ⟨4, none⟩ ob := by
  obtain ⟨m, rfl⟩ : ∃ m, n = m + 1 := ⟨n - 1, by omega⟩
  have h4 := b_spread H A hB t hok hl m (by omega)
  have h5 := hk (spreadT B t) m ob (spread_ok hB t hok) hc (by omega)
  rw [if_pos (by omega)] at h4
  rw [sem_run H.bplay]
  unfold d_Book_play
  refine Eq.trans (runDef_fin _ _ _ _ _ _ rfl) ?_
  simp [mMeth, A.me, lk_told, lk_rows, lkb_len, lkb_str, lk_tell, lk_names, lk_term, lk_spread, lk_put_in, lk_play, lk_log, lk_forget, h4, h5]
/-- a line of the log -/
def rowD3 (u : Tm) (mo : Nat) : PyData := .tuple [tD u, .int (playT mo u).2.length, tD (playT mo u).1]
theorem bk_play (H : HasBook T) (A : BkAt ob b i j B R) (hB : ∀ p ∈ B, p.2.ok = true) (t : Tm) (mo : Nat) (hm : mo ≤ 400) (hok : t.ok = true) (hl : t.lv ≤ 200) (hc : (spreadT B t).lv ≤ 200) (n : Nat) (hn : 208 ≤ n) :
    (sem T n).run 159 [.obj b, .dat (tD t), .dat (.int mo)] ob = .ok (.dat (tD (playT mo (spreadT B t)).1)) (ob.set j (.lst (R ++ [rowD3 (spreadT B t) mo]))) := by
  obtain ⟨m, rfl⟩ : ∃ m, n = m + 1 := ⟨n - 1, by omega⟩
  have h4 := b_spread H A hB t hok hl m (by omega)
  have h5 := r_played H.toHasSteps H.played (spreadT B t) mo m ob (spread_ok hB t hok) hc hm (by omega)
  have hbg : R.length < big := by have := A.few; unfold big; omega
  rw [if_pos (by omega)] at h4
  rw [sem_run H.bplay]
  unfold d_Book_play
  refine Eq.trans (runDef_fin _ _ _ _ _ _ rfl) ?_
  unfold rowD3
  generalize playT mo (spreadT B t) = q at h5 ⊢
  simp [mMeth, mFld, mObM, oApp, A.me, A.rows, lk_told, lk_rows, lkb_len, lkb_str, lk_tell, lk_names, lk_term, lk_spread, lk_put_in, lk_play, lk_log, lk_forget, h4, h5, hbg, rowD3]
theorem b_forget0 (H : T 161 = some d_Book_forget) (A : BkAt ob b i j [] R) (n : Nat) : (sem T (n + 1)).run 161 [.obj b] ob = .ex ⟨10, none⟩ ob := by
  have ht := A.told
  rw [List.map_nil] at ht
  rw [sem_run H]
  unfold d_Book_forget
  refine Eq.trans (runDef_fin _ _ _ _ _ _ rfl) ?_
  simp [mFld, A.me, ht, lk_told, lk_rows, lkb_len, lkb_str, lk_tell, lk_names, lk_term, lk_spread, lk_put_in, lk_play, lk_log, lk_forget, see_l ht]
theorem b_forget (H : T 161 = some d_Book_forget) (p : Str × Tm) (A : BkAt ob b i j (B ++ [p]) R) (n : Nat) : (sem T (n + 1)).run 161 [.obj b] ob = .ok (.dat (.str p.1)) (ob.set i (.lst (B.map lnB))) := by
  have ht := A.told
  have e1 : (List.map lnB B ++ [lnB p])[(List.map lnB B ++ [lnB p]).length - 1]? = some (lnB p) := by simp
  rw [List.map_append, List.map_cons, List.map_nil] at ht
  rw [sem_run H]
  unfold d_Book_forget
  refine Eq.trans (runDef_fin _ _ _ _ _ _ rfl) ?_
  simp [mFld, mObM, oPop, A.me, ht, lk_told, lk_rows, lkb_len, lkb_str, lk_tell, lk_names, lk_term, lk_spread, lk_put_in, lk_play, lk_log, lk_forget, see_l ht, lnB]
end
end CH


/-! CH62: deeds of a book, and what is due. -/
namespace CH
open PySem L2
def d__law_book_deed : FnDef := ⟨2, 3, sTry (sSeq (sIf (bVal (mBin (oCmp .Eq) (.ev (mBin (fun _ => vIdx) (.pk 1) (.ev (mCon (.int (0)))))) (.ev (mCon (.str "tell"))))) (sRet (mMeth "Book" "tell" 154 (mVar 0) [mBin (fun _ => vIdx) (.pk 1) (.ev (mCon (.int (1)))), mBin (fun _ => vIdx) (.pk 1) (.ev (mCon (.int (2))))] [])) sPass) (sSeq (sIf (bVal (mBin (oCmp .Eq) (.ev (mBin (fun _ => vIdx) (.pk 1) (.ev (mCon (.int (0)))))) (.ev (mCon (.str "term"))))) (sRet (mMeth "Book" "term" 156 (mVar 0) [mBin (fun _ => vIdx) (.pk 1) (.ev (mCon (.int (1))))] [])) sPass) (sSeq (sIf (bVal (mBin (oCmp .Eq) (.ev (mBin (fun _ => vIdx) (.pk 1) (.ev (mCon (.int (0)))))) (.ev (mCon (.str "spread"))))) (sRet (mMeth "Book" "spread" 157 (mVar 0) [mBin (fun _ => vIdx) (.pk 1) (.ev (mCon (.int (1))))] [])) sPass) (sSeq (sIf (bVal (mBin (oCmp .Eq) (.ev (mBin (fun _ => vIdx) (.pk 1) (.ev (mCon (.int (0)))))) (.ev (mCon (.str "play"))))) (sRet (mMeth "Book" "play" 159 (mVar 0) [mBin (fun _ => vIdx) (.pk 1) (.ev (mCon (.int (1)))), mBin (fun _ => vIdx) (.pk 1) (.ev (mCon (.int (2))))] [])) sPass) (sRet (mMeth "Book" "forget" 161 (mVar 0) [] [])))))) [(5, some 2, sRet (mLst [mCon (.str "name"), mFldE 2 "name"])), (1, none, sRet (mLst [mCon (.str "term")])), (9, none, sRet (mLst [mCon (.str "big")])), (4, none, sRet (mLst [mCon (.str "count")])), (10, some 2, sRet (mLst [mCon (.str "none"), mIsE 2 (some 0)]))]⟩
def d__law_spread : FnDef := ⟨2, 4, sSeq (sIf (bTru (.ev (mUn (oIsa .tuple) (.pk 0)))) (sRet (mTup [mCall 275 [mBin (fun _ => vIdx) (.pk 0) (.ev (mCon (.int (0)))), mVar 1] [], mCall 275 [mBin (fun _ => vIdx) (.pk 0) (.ev (mCon (.int (1)))), mVar 1] []])) sPass) (sSeq (sForO (mVar 1) (.tup [(.nm 2), (.nm 3)]) (sIf (bVal (mBin (oCmp .Eq) (.pk 2) (.pk 0))) (sRet (mVar 3)) sPass)) (sRet (mVar 0)))⟩
structure HasDeeds (T : Nat → Option FnDef) : Prop extends HasBook T, HasLawWays T where
  lplayed : T 222 = some d__law_played
  lcount : T 208 = some d__law_count
  lwhole : T 233 = some d__law_whole
  bdeed : T 274 = some d__law_book_deed
  lspread : T 275 = some d__law_spread
section
variable {T : Nat → Option FnDef}
/-- a term spoilt -/
def spoilt (t : Tm) : PyData := .tuple [.tuple [tD t, .none], .str "x"]
theorem no_leaf (H : HasTerms T) (n : Nat) (ob : List Ob) : (sem T (n + 2)).run 1 [.dat .none] ob = .ok (.dat (.bool false)) ob := by
  rw [sem_run H.is_leaf]
  unfold d_is_leaf
  refine Eq.trans (runDef_fin _ _ _ _ _ _ rfl) ?_
  simp [isa]
theorem no_spoilt (H : HasSteps T) (t : Tm) (hok : t.ok = true) (hd : t.dep ≤ 100) : NoTm T (spoilt t) := by
  intro n ob hn
  obtain ⟨m, rfl⟩ : ∃ m, n = m + 6 := ⟨n - 6, by omega⟩
  have r0 := r_left_of H.toHasTerms t 198 (m + 2) ob hok (by omega)
  have r1 : (sem T (m + 3)).run 2 [.dat (.tuple [tD t, .none]), .dat (.int 199)] ob = .ok (.dat (.int (-1))) ob := by
    rw [sem_run H.left_of]
    unfold d_left_of
    refine Eq.trans (runDef_fin _ _ _ _ _ _ rfl) ?_
    by_cases h3 : leftT t 198 < 0
    · simp [PyData.eqv, r0, h3]
    · have r2 : (sem T (m + 2)).run 2 [.dat .none, .dat (.int (leftT t 198 + 1))] ob = .ok (.dat (.int (-1))) ob := by
        obtain ⟨q, rfl⟩ : ∃ q, m = q + 1 := ⟨m - 1, by omega⟩
        have h4 := no_leaf H.toHasTerms q ob
        rw [sem_run H.left_of]
        unfold d_left_of
        refine Eq.trans (runDef_fin _ _ _ _ _ _ rfl) ?_
        simp [isa, h4]
      simp [PyData.eqv, r0, h3, r2]
  have r3 : (sem T (m + 4)).run 2 [.dat (spoilt t), .dat (.int 200)] ob = .ok (.dat (.int (-1))) ob := by
    rw [sem_run H.left_of]
    unfold d_left_of spoilt
    refine Eq.trans (runDef_fin _ _ _ _ _ _ rfl) ?_
    simp [PyData.eqv, r1]
  have r4 : (sem T (m + 5)).run 3 [.dat (spoilt t)] ob = .ok (.dat (.bool false)) ob := by
    rw [sem_run H.is_term]
    unfold d_is_term
    refine Eq.trans (runDef_fin _ _ _ _ _ _ rfl) ?_
    simp [r3]
  rw [sem_run H.checked]
  unfold d_checked
  refine Eq.trans (runDef_fin _ _ _ _ _ _ rfl) ?_
  simp [r4]
theorem count_str (h : T 208 = some d__law_count) (x : Str) (hx : x.length ≤ 1000) (n : Nat) (ob : List Ob) (hn : 1 ≤ n) : (sem T n).run 208 [.dat (.str x)] ob = .ok (.dat (.int (if (("K" : Str) == x || ("S" : Str) == x) = true ∨ isNm x = true then 1 else -1000))) ob := by
  obtain ⟨m, rfl⟩ : ∃ m, n = m + 1 := ⟨n - 1, by omega⟩
  have hlen2 : x.cps.toList.length ≤ 1000 := by
    have : x.length = x.cps.toList.length := by simp [Str.length]
    omega
  have hb : x.length ≤ big := by unfold big; omega
  have hbig : 100000 ≤ big := by unfold big; omega
  have q := loop_filG (cs := sem T m) (i := 2) (t := bVal (mBin (oCmp .NotIn) (.pk 2) (.ev (mCon (.str "abcdefghijklmnopqrstuvwxyz"))))) (elt := mVar 2) (fun c => PyData.str ⟨#[c]⟩) (fun c => PyData.str ⟨#[c]⟩) (fun c => !small c) ⟨[some (.dat (.str x)), none, none], ob⟩ (fun d => rfl) x.cps.toList [] (by
    intro c _
    simp [vIn_sign]) (by intro c _ _; simp) (by simp only [List.length_nil]; omega)
  have es : signs x = x.cps.toList.map fun c => PyData.str ⟨#[c]⟩ := rfl
  rw [← es] at q
  have rk := in_KS (sem T m) x
  rw [sem_run h]
  unfold d__law_count
  refine Eq.trans (runDef_fin _ _ _ _ _ _ rfl) ?_
  simp only [List.nil_append] at q
  have hall : ((x.cps.toList.filter (fun c => !small c)).map fun c => PyData.str ⟨#[c]⟩).isEmpty = allSmall x := by
    unfold allSmall
    induction x.cps.toList with
    | nil => rfl
    | cons c l ih =>
      rw [List.filter_cons, List.all_cons]
      cases small c
      · rfl
      · simpa using ih
  generalize hL : ((x.cps.toList.filter (fun c => !small c)).map fun c => PyData.str ⟨#[c]⟩) = L at q hall
  have hE : vEq (sem T m) (.own L) (.dat (.list [])) = some (allSmall x) := by
    unfold vEq
    simp only [x_toD_own, x_toD_dat]
    rw [if_pos (by simp only [PyData.depth, PyData.depthAll]; unfold rm; omega)]
    rw [← hall]
    cases L <;> simp [PyData.eqv, PyData.eqvAll]
  cases hks : (("K" : Str) == x || ("S" : Str) == x) with
  | true =>
    rw [hks] at rk
    simp [q, rk]
  | false =>
    rw [hks] at rk
    by_cases h1 : (1 : Int) ≤ x.length
    · by_cases h3 : (x.length : Int) ≤ 3
      · have e : isNm x = allSmall x := by
          unfold isNm
          have a1 : 1 ≤ x.length := by omega
          have a3 : x.length ≤ 3 := by omega
          simp [a1, a3]
        cases ha : allSmall x with
        | true => rw [ha] at hE; simp [q, rk, hb, h1, h3, hE, e, ha]
        | false => rw [ha] at hE; simp [q, rk, hb, h1, h3, hE, e, ha]
      · have e : isNm x = false := by
          unfold isNm
          have a3 : ¬ x.length ≤ 3 := by omega
          simp [a3]
        simp [q, rk, hb, h1, h3, e]
    · have e : isNm x = false := by
        unfold isNm
        have a3 : ¬ 1 ≤ x.length := by omega
        simp [a3]
      simp [q, rk, hb, h1, e]
theorem count_spoilt (h : T 208 = some d__law_count) (t : Tm) (hok : t.ok = true) (n : Nat) (ob : List Ob) (hn : t.dep + 3 ≤ n) : (sem T n).run 208 [.dat (spoilt t)] ob = .ok (.dat (.int (t.lv - 999))) ob := by
  obtain ⟨m, rfl⟩ : ∃ m, n = m + 2 := ⟨n - 2, by omega⟩
  have r0 := r_count h t m ob hok (by omega)
  have r1 : (sem T m).run 208 [.dat .none] ob = .ok (.dat (.int (-1000))) ob := by
    obtain ⟨q, rfl⟩ : ∃ q, m = q + 1 := ⟨m - 1, by omega⟩
    rw [sem_run h]
    unfold d__law_count
    refine Eq.trans (runDef_fin _ _ _ _ _ _ rfl) ?_
    simp [isa]
  have r2 : (sem T (m + 1)).run 208 [.dat (.tuple [tD t, .none])] ob = .ok (.dat (.int (t.lv + -1000))) ob := by
    rw [sem_run h]
    unfold d__law_count
    refine Eq.trans (runDef_fin _ _ _ _ _ _ rfl) ?_
    simp [PyData.eqv, r0, r1]
  have r3 := r_count h (.nm "x") (m + 1) ob (by decide +kernel) (by show 0 + 1 ≤ _; omega)
  have e3 : tD (.nm "x") = .str "x" := rfl
  rw [e3] at r3
  rw [sem_run h]
  unfold d__law_count spoilt
  refine Eq.trans (runDef_fin _ _ _ _ _ _ rfl) ?_
  simp [PyData.eqv, r2, r3, Tm.lv]
  omega
theorem r_lspread (h : T 275 = some d__law_spread) {ob : List Ob} {k : Nat} {B : Bk} (hk : ob[k]? = some (.lst (B.map lnB))) (hs : B.length ≤ 1000) : ∀ (t : Tm) (n : Nat), t.dep + 1 ≤ n → (sem T n).run 275 [.dat (tD t), .obj k] ob = .ok (.dat (tD (spreadT B t))) ob := by
  have leaf : ∀ (x : Str) (n : Nat), (sem T (n + 1)).run 275 [.dat (.str x), .obj k] ob = .ok (.dat (((lookT B (.str x)).map tD).getD (.str x))) ob := fun x n => by
    rw [sem_run h]
    unfold d__law_spread
    refine Eq.trans (runDef_fin _ _ _ _ _ _ rfl) ?_
    obtain ⟨o', q⟩ := live_find (cs := sem T n) (n := k) (tg := .tup [.nm 2, .nm 3]) B lnB (body := sIf (bVal (mBin (oCmp .Eq) (.pk 2) (.pk 0))) (sRet (mVar 3)) sPass) (fun p => (PyData.str p.1).eqv (.str x)) (fun p => .dat (tD p.2)) (fun o => ⟨[some (.dat (.str x)), some (.obj k), o.map fun p => .dat (.str p.1), o.map fun p => .dat (tD p.2)], ob⟩) (fun _ => hk) (fun o p _ => by simp [lnB]) (fun p _ => by
        cases e : (PyData.str p.1).eqv (.str x) <;> simp [e]) B 0 none wFuel rfl (x_fuel hs)
    have q : forLive k (.tup [.nm 2, .nm 3]) (sIf (bVal (mBin (oCmp .Eq) (.pk 2) (.pk 0))) (sRet (mVar 3)) sPass) (sem T n) wFuel 0 ⟨[some (.dat (.str x)), some (.obj k), none, none], ob⟩ = _ := q
    unfold lookT
    cases e : B.find? (fun p => (PyData.str p.1).eqv (.str x)) with
    | some p =>
      rw [e] at q
      simp [sForO, q]
    | none =>
      rw [e] at q
      simp [sForO, q]
  intro t
  induction t with
  | K =>
    intro n hn
    obtain ⟨m, rfl⟩ : ∃ m, n = m + 1 := ⟨n - 1, by omega⟩
    rw [show tD .K = .str "K" from rfl, leaf, show spreadT B .K = (lookT B (.str "K")).getD .K from rfl]
    cases lookT B (.str "K") <;> rfl
  | S =>
    intro n hn
    obtain ⟨m, rfl⟩ : ∃ m, n = m + 1 := ⟨n - 1, by omega⟩
    rw [show tD .S = .str "S" from rfl, leaf, show spreadT B .S = (lookT B (.str "S")).getD .S from rfl]
    cases lookT B (.str "S") <;> rfl
  | nm x =>
    intro n hn
    obtain ⟨m, rfl⟩ : ∃ m, n = m + 1 := ⟨n - 1, by omega⟩
    rw [show tD (.nm x) = .str x from rfl, leaf, show spreadT B (.nm x) = (lookT B (.str x)).getD (.nm x) from rfl]
    cases lookT B (.str x) <;> rfl
  | ap a c iha ihc =>
    intro n hn
    have hd : (Tm.ap a c).dep = max a.dep c.dep + 1 := rfl
    rw [hd] at hn
    obtain ⟨m, rfl⟩ : ∃ m, n = m + 1 := ⟨n - 1, by omega⟩
    have h1 := iha m (by omega)
    have h2 := ihc m (by omega)
    rw [sem_run h]
    unfold d__law_spread
    refine Eq.trans (runDef_fin _ _ _ _ _ _ rfl) ?_
    simp [tD, h1, h2, spreadT]
end

theorem tg_tell_tell : (PyData.str "tell").eqv (.str "tell") = true := by decide +kernel
theorem tg_tell_term : (PyData.str "tell").eqv (.str "term") = false := by decide +kernel
theorem tg_tell_spread : (PyData.str "tell").eqv (.str "spread") = false := by decide +kernel
theorem tg_tell_play : (PyData.str "tell").eqv (.str "play") = false := by decide +kernel
theorem tg_tell_forget : (PyData.str "tell").eqv (.str "forget") = false := by decide +kernel
theorem tg_term_tell : (PyData.str "term").eqv (.str "tell") = false := by decide +kernel
theorem tg_term_term : (PyData.str "term").eqv (.str "term") = true := by decide +kernel
theorem tg_term_spread : (PyData.str "term").eqv (.str "spread") = false := by decide +kernel
theorem tg_term_play : (PyData.str "term").eqv (.str "play") = false := by decide +kernel
theorem tg_term_forget : (PyData.str "term").eqv (.str "forget") = false := by decide +kernel
theorem tg_spread_tell : (PyData.str "spread").eqv (.str "tell") = false := by decide +kernel
theorem tg_spread_term : (PyData.str "spread").eqv (.str "term") = false := by decide +kernel
theorem tg_spread_spread : (PyData.str "spread").eqv (.str "spread") = true := by decide +kernel
theorem tg_spread_play : (PyData.str "spread").eqv (.str "play") = false := by decide +kernel
theorem tg_spread_forget : (PyData.str "spread").eqv (.str "forget") = false := by decide +kernel
theorem tg_play_tell : (PyData.str "play").eqv (.str "tell") = false := by decide +kernel
theorem tg_play_term : (PyData.str "play").eqv (.str "term") = false := by decide +kernel
theorem tg_play_spread : (PyData.str "play").eqv (.str "spread") = false := by decide +kernel
theorem tg_play_play : (PyData.str "play").eqv (.str "play") = true := by decide +kernel
theorem tg_play_forget : (PyData.str "play").eqv (.str "forget") = false := by decide +kernel
theorem tg_forget_tell : (PyData.str "forget").eqv (.str "tell") = false := by decide +kernel
theorem tg_forget_term : (PyData.str "forget").eqv (.str "term") = false := by decide +kernel
theorem tg_forget_spread : (PyData.str "forget").eqv (.str "spread") = false := by decide +kernel
theorem tg_forget_play : (PyData.str "forget").eqv (.str "play") = false := by decide +kernel
theorem tg_forget_forget : (PyData.str "forget").eqv (.str "forget") = true := by decide +kernel
inductive Ct where
  | num (m : Nat) | over | tru
def ctD : Ct → PyData
  | .num m => .int m
  | .over => .int 401
  | .tru => .bool true
inductive Dd where
  | tell (nm : PyData) (t : Tm) (bad : Bool) | term (nm : PyData) | spread (t : Tm) (bad : Bool) | play (t : Tm) (bad : Bool) (k : Ct) | forget
def teD (t : Tm) (bad : Bool) : PyData := if bad = true then spoilt t else tD t
def ddD : Dd → PyData
  | .tell nm t bad => .tuple [.str "tell", nm, teD t bad]
  | .term nm => .tuple [.str "term", nm]
  | .spread t bad => .tuple [.str "spread", teD t bad]
  | .play t bad k => .tuple [.str "play", teD t bad, ctD k]
  | .forget => .tuple [.str "forget"]
def goodNm : PyData → Bool
  | .str x => isNm x
  | _ => false
def usedNm (B : Bk) : PyData → Bool
  | .str x => decide (x ∈ B.map (·.1))
  | _ => false
def nmStr : PyData → Str
  | .str x => x
  | _ => ""
/-- what a deed tells, and the book behind it -/
def outD (B : Bk) (R : List PyData) : Dd → Val × Bk × List PyData
  | .forget => (match B.getLast? with
    | some p => (.dat (.str p.1), B.dropLast, R)
    | none => (.own [.str "none", .bool true], B, R))
  | .term nm => (match lookT B nm with
    | some t => (.dat (tD t), B, R)
    | none => (.own [.str "name", nm], B, R))
  | .tell nm t bad => if goodNm nm = false ∨ usedNm B nm = true then (.own [.str "name", nm], B, R) else if bad = true then (.own [.str "term"], B, R) else
      if (spreadT B t).lv ≤ 200 then (.dat (.int (spreadT B t).lv), B ++ [(nmStr nm, spreadT B t)], R) else (.own [.str "big"], B, R)
  | .spread t bad => if bad = true then (.own [.str "term"], B, R) else if (spreadT B t).lv ≤ 200 then (.dat (tD (spreadT B t)), B, R) else (.own [.str "big"], B, R)
  | .play t bad k => if bad = true then (.own [.str "term"], B, R) else if (spreadT B t).lv ≤ 200 then (match k with
      | .num m => (.dat (tD (playT m (spreadT B t)).1), B, R ++ [rowD3 (spreadT B t) m])
      | _ => (.own [.str "count"], B, R)) else (.own [.str "big"], B, R)
theorem out_tell (B : Bk) (R : List PyData) (nm : PyData) (t : Tm) (bad : Bool) : outD B R (.tell nm t bad) = if goodNm nm = false ∨ usedNm B nm = true then (.own [.str "name", nm], B, R) else if bad = true then (.own [.str "term"], B, R) else
      if (spreadT B t).lv ≤ 200 then (.dat (.int (spreadT B t).lv), B ++ [(nmStr nm, spreadT B t)], R) else (.own [.str "big"], B, R) := rfl
theorem out_used {B : Bk} {R : List PyData} {x : Str} {t : Tm} {bad : Bool} (hu : x ∈ B.map (·.1)) : outD B R (.tell (.str x) t bad) = (.own [.str "name", .str x], B, R) := by
  have h : usedNm B (.str x) = true := decide_eq_true hu
  rw [out_tell, if_pos (.inr h)]
theorem out_free {B : Bk} {R : List PyData} {x : Str} {t : Tm} {bad : Bool} (hx : isNm x = true) (hu : ¬ x ∈ B.map (·.1)) : outD B R (.tell (.str x) t bad) = if bad = true then (.own [.str "term"], B, R) else
      if (spreadT B t).lv ≤ 200 then (.dat (.int (spreadT B t).lv), B ++ [(x, spreadT B t)], R) else (.own [.str "big"], B, R) := by
  have h1 : goodNm (.str x) = true := hx
  have h2 : usedNm B (.str x) = false := decide_eq_false hu
  rw [out_tell, if_neg (by rw [h1, h2]; simp)]
  rfl
theorem out_odd {B : Bk} {R : List PyData} {nm : PyData} {t : Tm} {bad : Bool} (hg : ¬ goodNm nm = true) : outD B R (.tell nm t bad) = (.own [.str "name", nm], B, R) := by
  rw [out_tell, if_pos (.inl (by simpa using hg))]
def nmOk (nm : PyData) : Prop := (goodNm nm = true ∨ noNm nm = true) ∧ ∀ x, nm = .str x → x.length ≤ 1000
def tmOk (t : Tm) : Prop := t.ok = true ∧ t.lv ≤ 200 ∧ t.dep ≤ 9
def ddOk : Dd → Prop
  | .tell nm t _ => nmOk nm ∧ tmOk t
  | .term nm => nmOk nm
  | .spread t _ => tmOk t
  | .play t _ k => tmOk t ∧ ∀ m, k = .num m → m ≤ 400
  | .forget => True
/-- the two lists as they stand then -/
def setB (ob : List Ob) (i j : Nat) (B : Bk) (R : List PyData) : List Ob := (ob.set i (.lst (B.map lnB))).set j (.lst R)
theorem set_same {ob : List Ob} {i : Nat} {o : Ob} (h : ob[i]? = some o) : ob.set i o = ob := by
  apply List.ext_getElem?
  intro k
  by_cases e : k = i
  · subst e
    rw [h, set_at h]
  · rw [List.getElem?_set_ne (Ne.symm e)]
theorem setB_self {ob : List Ob} {i j : Nat} {B : Bk} {R : List PyData} (h1 : ob[i]? = some (.lst (B.map lnB))) (h2 : ob[j]? = some (.lst R)) : setB ob i j B R = ob := by
  unfold setB
  rw [set_same h1, set_same h2]
theorem setB_l {ob : List Ob} {i j : Nat} (B : Bk) {R : List PyData} (ne : i ≠ j) (h2 : ob[j]? = some (.lst R)) : setB ob i j B R = ob.set i (.lst (B.map lnB)) := by
  unfold setB
  refine set_same ?_
  rw [List.getElem?_set_ne ne]
  exact h2
theorem setB_r {ob : List Ob} {i j : Nat} {B : Bk} (R : List PyData) (h1 : ob[i]? = some (.lst (B.map lnB))) : setB ob i j B R = ob.set j (.lst R) := by
  unfold setB
  rw [set_same h1]
theorem ct_no {T : Nat → Option FnDef} (H : HasBook T) : NoCt T (ctD .over) ∧ NoCt T (ctD .tru) := by
  constructor
  · intro u n ob hok hl hn
    exact bad_played H.toHasSteps H.played u 401 (by omega) n ob hok hl hn
  · intro u n ob hok hl hn
    obtain ⟨m, rfl⟩ : ∃ m, n = (m + 1) + 1 := ⟨n - 2, by omega⟩
    rw [sem_run H.played]
    have r1 := r_checked H.toHasSteps u (m + 1) ob hok hl (by omega)
    have r2 : (sem T (m + 1)).run 14 [.dat (.bool true), .dat (.int 0), .dat (.int 400)] ob = .ok (.dat (.bool false)) ob := by
      rw [sem_run H.is_within]
      unfold d_is_within
      refine Eq.trans (runDef_fin _ _ _ _ _ _ rfl) ?_
      simp [isa]
    unfold d_played
    refine Eq.trans (runDef_fin _ _ _ _ _ _ rfl) ?_
    simp [ctD, r1, r2]
section
variable {T : Nat → Option FnDef} {ob : List Ob} {b i j : Nat} {B : Bk} {R : List PyData}
theorem last_split {α : Type} (l : List α) : l = [] ∨ ∃ l' p, l = l' ++ [p] := by
  rcases List.eq_nil_or_concat l with h | ⟨l', p, h⟩
  · exact .inl h
  · exact .inr ⟨l', p, by rw [h, List.concat_eq_append]⟩
theorem r_bdeed (H : HasDeeds T) (A : BkAt ob b i j B R) (ne : i ≠ j) (hB : ∀ p ∈ B, p.2.ok = true) (d : Dd) (hd : ddOk d) (n : Nat) (hn : 210 ≤ n) : (sem T n).run 274 [.obj b, .dat (ddD d)] ob = .ok (outD B R d).1 (setB ob i j (outD B R d).2.1 (outD B R d).2.2) := by
  obtain ⟨m, rfl⟩ : ∃ m, n = m + 1 := ⟨n - 1, by omega⟩
  have self := setB_self A.told A.rows
  rw [sem_run H.bdeed]
  unfold d__law_book_deed
  refine Eq.trans (runDef_fin _ _ _ _ _ _ rfl) ?_
  cases d with
  | forget =>
    rcases last_split B with e | ⟨B', p, e⟩
    · subst e
      obtain ⟨q, rfl⟩ : ∃ q, m = q + 1 := ⟨m - 1, by omega⟩
      have r := b_forget0 H.bforget A q
      simp [ddD, tg_forget_tell, tg_forget_term, tg_forget_spread, tg_forget_play, tg_forget_forget, mMeth, A.me, lk_told, lk_rows, lkb_len, lkb_str, lk_tell, lk_names, lk_term, lk_spread, lk_put_in, lk_play, lk_log, lk_forget, r, subc, outD, self]
    · subst e
      obtain ⟨q, rfl⟩ : ∃ q, m = q + 1 := ⟨m - 1, by omega⟩
      have r := b_forget H.bforget p A q
      simp [ddD, tg_forget_tell, tg_forget_term, tg_forget_spread, tg_forget_play, tg_forget_forget, mMeth, A.me, lk_told, lk_rows, lkb_len, lkb_str, lk_tell, lk_names, lk_term, lk_spread, lk_put_in, lk_play, lk_log, lk_forget, r, outD, setB_l B' ne A.rows]
  | term nm =>
    obtain ⟨q, rfl⟩ : ∃ q, m = q + 3 := ⟨m - 3, by omega⟩
    have r := b_term H.bterm A nm q
    unfold outD
    cases e : lookT B nm with
    | some t =>
      rw [e] at r
      simp [ddD, tg_term_tell, tg_term_term, tg_term_spread, tg_term_play, tg_term_forget, mMeth, A.me, lk_told, lk_rows, lkb_len, lkb_str, lk_tell, lk_names, lk_term, lk_spread, lk_put_in, lk_play, lk_log, lk_forget, r, self, e]
    | none =>
      rw [e] at r
      simp [ddD, tg_term_tell, tg_term_term, tg_term_spread, tg_term_play, tg_term_forget, mMeth, A.me, lk_told, lk_rows, lkb_len, lkb_str, lk_tell, lk_names, lk_term, lk_spread, lk_put_in, lk_play, lk_log, lk_forget, r, subc, fldOf, self, e]
  | spread t bad =>
    obtain ⟨h1, h2, h3⟩ := hd
    cases bad with
    | true =>
      have r := bad_spread H.toHasBook A (spoilt t) (no_spoilt H.toHasSteps t h1 (by omega)) m (by omega)
      simp [ddD, teD, tg_spread_tell, tg_spread_term, tg_spread_spread, tg_spread_play, tg_spread_forget, mMeth, A.me, lk_told, lk_rows, lkb_len, lkb_str, lk_tell, lk_names, lk_term, lk_spread, lk_put_in, lk_play, lk_log, lk_forget, r, subc, outD, self]
    | false =>
      have r := b_spread H.toHasBook A hB t h1 h2 m (by omega)
      by_cases hc : (spreadT B t).lv ≤ 200
      · rw [if_pos hc] at r
        simp [ddD, teD, tg_spread_tell, tg_spread_term, tg_spread_spread, tg_spread_play, tg_spread_forget, mMeth, A.me, lk_told, lk_rows, lkb_len, lkb_str, lk_tell, lk_names, lk_term, lk_spread, lk_put_in, lk_play, lk_log, lk_forget, r, outD, self, hc]
      · rw [if_neg hc] at r
        simp [ddD, teD, tg_spread_tell, tg_spread_term, tg_spread_spread, tg_spread_play, tg_spread_forget, mMeth, A.me, lk_told, lk_rows, lkb_len, lkb_str, lk_tell, lk_names, lk_term, lk_spread, lk_put_in, lk_play, lk_log, lk_forget, r, subc, outD, self, hc]
  | play t bad k =>
    obtain ⟨⟨h1, h2, h3⟩, h4⟩ := hd
    cases bad with
    | true =>
      have r := bad_play H.toHasBook A (spoilt t) (ctD k) (no_spoilt H.toHasSteps t h1 (by omega)) m (by omega)
      simp [ddD, teD, tg_play_tell, tg_play_term, tg_play_spread, tg_play_play, tg_play_forget, mMeth, A.me, lk_told, lk_rows, lkb_len, lkb_str, lk_tell, lk_names, lk_term, lk_spread, lk_put_in, lk_play, lk_log, lk_forget, r, subc, outD, self]
    | false =>
      by_cases hc : (spreadT B t).lv ≤ 200
      · cases k with
        | num mo =>
          have r := bk_play H.toHasBook A hB t mo (h4 mo rfl) h1 h2 hc m (by omega)
          simp [ddD, teD, ctD, tg_play_tell, tg_play_term, tg_play_spread, tg_play_play, tg_play_forget, mMeth, A.me, lk_told, lk_rows, lkb_len, lkb_str, lk_tell, lk_names, lk_term, lk_spread, lk_put_in, lk_play, lk_log, lk_forget, r, outD, hc, setB_r _ A.told]
        | over =>
          have r := count_play H.toHasBook A hB t _ (ct_no H.toHasBook).1 h1 h2 hc m (by omega)
          simp [ddD, teD, tg_play_tell, tg_play_term, tg_play_spread, tg_play_play, tg_play_forget, mMeth, A.me, lk_told, lk_rows, lkb_len, lkb_str, lk_tell, lk_names, lk_term, lk_spread, lk_put_in, lk_play, lk_log, lk_forget, r, subc, outD, hc, self]
        | tru =>
          have r := count_play H.toHasBook A hB t _ (ct_no H.toHasBook).2 h1 h2 hc m (by omega)
          simp [ddD, teD, tg_play_tell, tg_play_term, tg_play_spread, tg_play_play, tg_play_forget, mMeth, A.me, lk_told, lk_rows, lkb_len, lkb_str, lk_tell, lk_names, lk_term, lk_spread, lk_put_in, lk_play, lk_log, lk_forget, r, subc, outD, hc, self]
      · have r := big_play H.toHasBook A hB t (ctD k) h1 h2 (by omega) m (by omega)
        simp [ddD, teD, tg_play_tell, tg_play_term, tg_play_spread, tg_play_play, tg_play_forget, mMeth, A.me, lk_told, lk_rows, lkb_len, lkb_str, lk_tell, lk_names, lk_term, lk_spread, lk_put_in, lk_play, lk_log, lk_forget, r, subc, outD, hc, self]
  | tell nm t bad =>
    obtain ⟨⟨h0, hs⟩, h1, h2, h3⟩ := hd
    by_cases hg : goodNm nm = true
    · obtain ⟨x, rfl⟩ : ∃ x, nm = .str x := by cases nm <;> first | exact ⟨_, rfl⟩ | cases hg
      have hx : isNm x = true := hg
      by_cases hu : x ∈ B.map (·.1)
      · have r := used_tell H.toHasBook A x (teD t bad) hx hu m (by omega)
        rw [out_used hu]
        simp [ddD, tg_tell_tell, tg_tell_term, tg_tell_spread, tg_tell_play, tg_tell_forget, mMeth, A.me, lk_told, lk_rows, lkb_len, lkb_str, lk_tell, lk_names, lk_term, lk_spread, lk_put_in, lk_play, lk_log, lk_forget, r, subc, fldOf, self]
      · rw [out_free hx hu]
        cases bad with
        | true =>
          have r := term_tell H.toHasBook A x (spoilt t) hx hu (no_spoilt H.toHasSteps t h1 (by omega)) m (by omega)
          simp [ddD, teD, tg_tell_tell, tg_tell_term, tg_tell_spread, tg_tell_play, tg_tell_forget, mMeth, A.me, lk_told, lk_rows, lkb_len, lkb_str, lk_tell, lk_names, lk_term, lk_spread, lk_put_in, lk_play, lk_log, lk_forget, r, subc, self]
        | false =>
          have r := b_tell H.toHasBook A hB x t hx hu h1 h2 m (by omega)
          by_cases hc : (spreadT B t).lv ≤ 200
          · rw [if_pos hc] at r
            have sl := setB_l (B ++ [(x, spreadT B t)]) ne A.rows
            rw [List.map_append] at r sl
            simp [ddD, teD, tg_tell_tell, tg_tell_term, tg_tell_spread, tg_tell_play, tg_tell_forget, mMeth, A.me, lk_told, lk_rows, lkb_len, lkb_str, lk_tell, lk_names, lk_term, lk_spread, lk_put_in, lk_play, lk_log, lk_forget, r, hc, sl]
          · rw [if_neg hc] at r
            simp [ddD, teD, tg_tell_tell, tg_tell_term, tg_tell_spread, tg_tell_play, tg_tell_forget, mMeth, A.me, lk_told, lk_rows, lkb_len, lkb_str, lk_tell, lk_names, lk_term, lk_spread, lk_put_in, lk_play, lk_log, lk_forget, r, subc, hc, self]
    · have hn' : noNm nm = true := h0.resolve_left hg
      have r := bad_tell H.toHasBook A nm (teD t bad) hn' (fun x e => Nat.le_trans (hs x e) (by omega)) m (by omega)
      rw [out_odd hg]
      simp [ddD, tg_tell_tell, tg_tell_term, tg_tell_spread, tg_tell_play, tg_tell_forget, mMeth, A.me, lk_told, lk_rows, lkb_len, lkb_str, lk_tell, lk_names, lk_term, lk_spread, lk_put_in, lk_play, lk_log, lk_forget, r, subc, fldOf, self]
end
end CH


/-! CH63: what is due of a deed. -/
namespace CH
open PySem L2
def dueTail : M Fl := sSeq (sAsg 5 (mIf (bVal (mBin (oCmp .Eq) (.ev (mBin (fun _ => vIdx) (.pk 2) (.ev (mCon (.int (0)))))) (.ev (mCon (.str "tell"))))) (mBin (fun _ => vIdx) (.pk 2) (.ev (mCon (.int (2))))) (mBin (fun _ => vIdx) (.pk 2) (.ev (mCon (.int (1))))))) (sSeq (sIf (bNot (bVal (mChain .Lt .LtE (.ev (mCon (.int (0)))) (.ev (mCall 208 [mVar 5] [])) (.ev (mCon (.int (200))))))) (sRet (mLst [mCon (.str "term")])) sPass) (sSeq (sAsg 5 (mCall 275 [mVar 5, mVar 0] [])) (sSeq (sIf (bVal (mBin (oCmp .Gt) (.ev (mCall 206 [mVar 5] [])) (.ev (mCon (.int (200)))))) (sRet (mLst [mCon (.str "big")])) sPass) (sSeq (sIf (bVal (mBin (oCmp .Eq) (.ev (mBin (fun _ => vIdx) (.pk 2) (.ev (mCon (.int (0)))))) (.ev (mCon (.str "tell"))))) (sSeq (sExpr (mObM oApp (mVar 0) [mTup [mBin (fun _ => vIdx) (.pk 2) (.ev (mCon (.int (1)))), mVar 5]])) (sRet (mCall 206 [mVar 5] []))) sPass) (sSeq (sIf (bVal (mBin (oCmp .Eq) (.ev (mBin (fun _ => vIdx) (.pk 2) (.ev (mCon (.int (0)))))) (.ev (mCon (.str "spread"))))) (sRet (mVar 5)) sPass) (sSeq (sIf (bOr (bNot (bTru (.ev (mCall 233 [mBin (fun _ => vIdx) (.pk 2) (.ev (mCon (.int (2))))] [])))) (bNot (bVal (mChain .LtE .LtE (.ev (mCon (.int (0)))) (.ev (mBin (fun _ => vIdx) (.pk 2) (.ev (mCon (.int (2)))))) (.ev (mCon (.int (400)))))))) (sRet (mLst [mCon (.str "count")])) sPass) (sSeq (sTgt (.tup [(.nm 6), (.nm 7)]) (mCall 222 [mVar 5, mBin (fun _ => vIdx) (.pk 2) (.ev (mCon (.int (2))))] [])) (sSeq (sExpr (mObM oApp (mVar 1) [mTup [mVar 5, mUn (fun _ => vLen) (.pk 7), mVar 6]])) (sRet (mVar 6))))))))))
def dueGood : M Fl := sAsg 4 (mAnd (mUn (oIsa .str) (.ev (mBin (fun _ => vIdx) (.pk 2) (.ev (mCon (.int (1))))))) (mAnd (mBin (oCmp .NotIn) (.ev (mBin (fun _ => vIdx) (.pk 2) (.ev (mCon (.int (1)))))) (.ev (mTup [mCon (.str "K"), mCon (.str "S")]))) (mBin (oCmp .Eq) (.ev (mCall 208 [mBin (fun _ => vIdx) (.pk 2) (.ev (mCon (.int (1))))] [])) (.ev (mCon (.int (1)))))))
def dueUsed : M Fl := sIf (bOr (bNot (bTru (.pk 4))) (bVal (mBin (oCmp .In) (.ev (mBin (fun _ => vIdx) (.pk 2) (.ev (mCon (.int (1)))))) (.ev (mCompO (mVar 0) (.tup [(.nm 8), (.nm 9)]) [8, 9] none (mVar 8)))))) (sRet (mLst [mCon (.str "name"), mBin (fun _ => vIdx) (.pk 2) (.ev (mCon (.int (1))))])) sPass
def d__law_due_deed : FnDef := ⟨3, 10, sSeq (sIf (bVal (mBin (oCmp .Eq) (.ev (mBin (fun _ => vIdx) (.pk 2) (.ev (mCon (.int (0)))))) (.ev (mCon (.str "forget"))))) (sRet (mIf (bVal (mBin (oCmp .NotEq) (.pk 0) (.ev (mLst [])))) (mBin (fun _ => vIdx) (.ev (mObM oPop (mVar 0) [])) (.ev (mCon (.int (0))))) (mLst [mCon (.str "none"), mCon (.bool true)]))) sPass) (sSeq (sIf (bVal (mBin (oCmp .Eq) (.ev (mBin (fun _ => vIdx) (.pk 2) (.ev (mCon (.int (0)))))) (.ev (mCon (.str "term"))))) (sSeq (sAsg 3 (mCompO (mVar 0) (.tup [(.nm 8), (.nm 9)]) [8, 9] (some (bVal (mBin (oCmp .Eq) (.pk 8) (.ev (mBin (fun _ => vIdx) (.pk 2) (.ev (mCon (.int (1))))))))) (mVar 9))) (sRet (mIf (bVal (mBin (oCmp .NotEq) (.pk 3) (.ev (mLst [])))) (mBin (fun _ => vIdx) (.pk 3) (.ev (mCon (.int (0))))) (mLst [mCon (.str "name"), mBin (fun _ => vIdx) (.pk 2) (.ev (mCon (.int (1))))])))) sPass) (sSeq (sIf (bVal (mBin (oCmp .Eq) (.ev (mBin (fun _ => vIdx) (.pk 2) (.ev (mCon (.int (0)))))) (.ev (mCon (.str "tell"))))) (sSeq dueGood dueUsed) sPass) dueTail))⟩
structure HasDue (T : Nat → Option FnDef) : Prop extends HasDeeds T where
  due : T 276 = some d__law_due_deed
@[simp] theorem x_tgSlots2 (a b : Nat) : tgSlots (.tup [.nm a, .nm b]) = [a, b] := by simp [tgSlots, tgsSlots]
theorem own_nil (cs : Cs) (L : List PyData) : vEq cs (.own L) (.dat (.list [])) = some L.isEmpty := by
  unfold vEq
  simp only [x_toD_own, x_toD_dat]
  rw [if_pos (by simp only [PyData.depth, PyData.depthAll]; unfold rm; omega)]
  cases L <;> simp [PyData.eqv, PyData.eqvAll]
theorem eqi (a b : Int) : (PyData.int a).eqv (.int b) = (a == b) := by simp [PyData.eqv]
theorem eql_nil (L : List PyData) : (PyData.list L).eqv (.list []) = L.isEmpty := by cases L <;> simp [PyData.eqv, PyData.eqvAll]
theorem out_term (B : Bk) (R : List PyData) (nm : PyData) : outD B R (.term nm) = (match lookT B nm with
    | some t => (.dat (tD t), B, R)
    | none => (.own [.str "name", nm], B, R)) := rfl
theorem spread_dep {B : Bk} (hL : ∀ p ∈ B, p.2.lv ≤ 200) : ∀ t : Tm, (spreadT B t).dep ≤ t.dep + 199 := by
  have leaf : ∀ (d : PyData) (t : Tm), ((lookT B d).getD t).dep ≤ t.dep + 199 := fun d t => by
    unfold lookT
    cases e : B.find? (fun p => (PyData.str p.1).eqv d) with
    | none => simp
    | some p =>
      have h1 := hL p (List.mem_of_find?_eq_some e)
      have h2 := p.2.dep_lv
      simp
      omega
  intro t
  induction t with
  | K => exact leaf _ _
  | S => exact leaf _ _
  | nm x => exact leaf _ _
  | ap a c iha ihc =>
    show max (spreadT B a).dep (spreadT B c).dep + 1 ≤ max a.dep c.dep + 1 + 199
    omega
section
variable {T : Nat → Option FnDef} {ob : List Ob} {i j : Nat} {B : Bk} {R : List PyData}
/-- two lists, told and rows -/
structure TwoAt (ob : List Ob) (i j : Nat) (B : Bk) (R : List PyData) : Prop where
  told : ob[i]? = some (.lst (B.map lnB))
  rows : ob[j]? = some (.lst R)
  ne : i ≠ j
  small : B.length ≤ 1000
  few : R.length ≤ 1000
  ok : ∀ p ∈ B, p.2.ok = true
  lv : ∀ p ∈ B, p.2.lv ≤ 200
theorem tail_bad (H : HasDue T) (A : TwoAt ob i j B R) (t : Tm) (ht : tmOk t) (m : Nat) (hm : 210 ≤ m) (dd : List PyData) (o3 o4 : Option Val) (tell : Bool)
    (h0 : ∃ z, atI dd 0 = some (.str z) ∧ (PyData.str z).eqv (.str "tell") = tell) (hd : atI dd (if tell = true then 2 else 1) = some (spoilt t)) :
    fin (dueTail (sem T m) ⟨[some (.obj i), some (.obj j), some (.dat (.tuple dd)), o3, o4, none, none, none, none, none], ob⟩) = .ok (.own [.str "term"]) ob := by
  obtain ⟨z, h1, h2⟩ := h0
  obtain ⟨t1, t2, t3⟩ := ht
  have rc := count_spoilt H.lcount t t1 m ob (by omega)
  have n0 : ¬ (0 : Int) < (t.lv : Int) - 999 := by omega
  have n0' : ¬ (999 : Int) < (t.lv : Int) := by omega
  have n0'' : ¬ 999 < t.lv := by omega
  unfold dueTail
  cases tell with
  | true => simp at hd; simp [h1, h2, hd, rc, n0, n0', n0'']
  | false => simp at hd; simp [h1, h2, hd, rc, n0, n0', n0'']
/-- a good term: spread, or too big -/
theorem tail_big (H : HasDue T) (A : TwoAt ob i j B R) (t : Tm) (ht : tmOk t) (hc : 200 < (spreadT B t).lv) (m : Nat) (hm : 210 ≤ m) (dd : List PyData) (o3 o4 : Option Val) (tell : Bool)
    (h0 : ∃ z, atI dd 0 = some (.str z) ∧ (PyData.str z).eqv (.str "tell") = tell) (hd : atI dd (if tell = true then 2 else 1) = some (tD t)) :
    fin (dueTail (sem T m) ⟨[some (.obj i), some (.obj j), some (.dat (.tuple dd)), o3, o4, none, none, none, none, none], ob⟩) = .ok (.own [.str "big"]) ob := by
  obtain ⟨z, h1, h2⟩ := h0
  obtain ⟨t1, t2, t3⟩ := ht
  have rc := r_count H.lcount t m ob t1 (by omega)
  have rs := r_lspread H.lspread A.told A.small t m (by omega)
  have sd := spread_dep A.lv t
  have rl := r_law_leaves H.lleaves (spreadT B t) m ob (by omega)
  have lp := t.lv_pos
  have n0 : (0 : Int) < (t.lv : Int) := by omega
  have n0' : 0 < t.lv := by omega
  have n1 : (t.lv : Int) ≤ 200 := by omega
  have n2 : (200 : Int) < ((spreadT B t).lv : Int) := by omega
  unfold dueTail
  cases tell with
  | true => simp at hd; simp [h1, h2, hd, rc, n0, n0', n1, rs, rl, n2]
  | false => simp at hd; simp [h1, h2, hd, rc, n0, n0', n1, rs, rl, n2]
theorem tail_tell (H : HasDue T) (A : TwoAt ob i j B R) (x : Str) (t : Tm) (ht : tmOk t) (hc : (spreadT B t).lv ≤ 200) (m : Nat) (hm : 210 ≤ m) (o3 o4 : Option Val) :
    fin (dueTail (sem T m) ⟨[some (.obj i), some (.obj j), some (.dat (.tuple [.str "tell", .str x, tD t])), o3, o4, none, none, none, none, none], ob⟩) = .ok (.dat (.int (spreadT B t).lv)) (ob.set i (.lst (B.map lnB ++ [lnB (x, spreadT B t)]))) := by
  obtain ⟨t1, t2, t3⟩ := ht
  have rc := r_count H.lcount t m ob t1 (by omega)
  have rs := r_lspread H.lspread A.told A.small t m (by omega)
  have sd := spread_dep A.lv t
  have rl := r_law_leaves H.lleaves (spreadT B t) m ob (by omega)
  have rl2 := r_law_leaves H.lleaves (spreadT B t) m (ob.set i (.lst (B.map lnB ++ [lnB (x, spreadT B t)]))) (by omega)
  have lp := t.lv_pos
  have n0 : (0 : Int) < (t.lv : Int) := by omega
  have n0' : 0 < t.lv := by omega
  have n1 : (t.lv : Int) ≤ 200 := by omega
  have n2 : ¬ (200 : Int) < ((spreadT B t).lv : Int) := by omega
  have hbg : B.length < big := by have := A.small; unfold big; omega
  unfold lnB at rl2
  unfold dueTail
  simp [tg_tell_tell, tg_tell_term, tg_tell_spread, tg_tell_play, tg_tell_forget, rc, n0, n0', n1, rs, rl, n2, mObM, oApp, A.told, hbg]
  unfold lnB
  simp [rl2]
theorem tail_spread (H : HasDue T) (A : TwoAt ob i j B R) (t : Tm) (ht : tmOk t) (hc : (spreadT B t).lv ≤ 200) (m : Nat) (hm : 210 ≤ m) (o3 o4 : Option Val) :
    fin (dueTail (sem T m) ⟨[some (.obj i), some (.obj j), some (.dat (.tuple [.str "spread", tD t])), o3, o4, none, none, none, none, none], ob⟩) = .ok (.dat (tD (spreadT B t))) ob := by
  obtain ⟨t1, t2, t3⟩ := ht
  have rc := r_count H.lcount t m ob t1 (by omega)
  have rs := r_lspread H.lspread A.told A.small t m (by omega)
  have sd := spread_dep A.lv t
  have rl := r_law_leaves H.lleaves (spreadT B t) m ob (by omega)
  have lp := t.lv_pos
  have n0 : (0 : Int) < (t.lv : Int) := by omega
  have n0' : 0 < t.lv := by omega
  have n1 : (t.lv : Int) ≤ 200 := by omega
  have n2 : ¬ (200 : Int) < ((spreadT B t).lv : Int) := by omega
  unfold dueTail
  simp [tg_spread_tell, tg_spread_term, tg_spread_spread, tg_spread_play, tg_spread_forget, rc, n0, n0', n1, rs, rl, n2]
theorem whole_int (h : T 233 = some d__law_whole) (k : Int) (n : Nat) (ob : List Ob) : (sem T (n + 1)).run 233 [.dat (.int k)] ob = .ok (.dat (.bool true)) ob := by
  rw [sem_run h]
  unfold d__law_whole
  refine Eq.trans (runDef_fin _ _ _ _ _ _ rfl) ?_
  simp [isa]
theorem whole_bool (h : T 233 = some d__law_whole) (k : Bool) (n : Nat) (ob : List Ob) : (sem T (n + 1)).run 233 [.dat (.bool k)] ob = .ok (.dat (.bool false)) ob := by
  rw [sem_run h]
  unfold d__law_whole
  refine Eq.trans (runDef_fin _ _ _ _ _ _ rfl) ?_
  simp [isa]
theorem tail_count (H : HasDue T) (A : TwoAt ob i j B R) (t : Tm) (k : Ct) (hk : ∀ m, k ≠ .num m) (ht : tmOk t) (hc : (spreadT B t).lv ≤ 200) (m : Nat) (hm : 210 ≤ m) (o3 o4 : Option Val) :
    fin (dueTail (sem T m) ⟨[some (.obj i), some (.obj j), some (.dat (.tuple [.str "play", tD t, ctD k])), o3, o4, none, none, none, none, none], ob⟩) = .ok (.own [.str "count"]) ob := by
  obtain ⟨q, rfl⟩ : ∃ q, m = q + 1 := ⟨m - 1, by omega⟩
  obtain ⟨t1, t2, t3⟩ := ht
  have rc := r_count H.lcount t (q + 1) ob t1 (by omega)
  have rs := r_lspread H.lspread A.told A.small t (q + 1) (by omega)
  have sd := spread_dep A.lv t
  have rl := r_law_leaves H.lleaves (spreadT B t) (q + 1) ob (by omega)
  have lp := t.lv_pos
  have n0 : (0 : Int) < (t.lv : Int) := by omega
  have n0' : 0 < t.lv := by omega
  have n1 : (t.lv : Int) ≤ 200 := by omega
  have n2 : ¬ (200 : Int) < ((spreadT B t).lv : Int) := by omega
  unfold dueTail
  cases k with
  | num m => exact absurd rfl (hk m)
  | over =>
    have rw_ := whole_int H.lwhole 401 q ob
    simp [tg_play_tell, tg_play_term, tg_play_spread, tg_play_play, tg_play_forget, ctD, rc, n0, n0', n1, rs, rl, n2, rw_]
  | tru =>
    have rw_ := whole_bool H.lwhole true q ob
    simp [tg_play_tell, tg_play_term, tg_play_spread, tg_play_play, tg_play_forget, ctD, rc, n0, n0', n1, rs, rl, n2, rw_]
theorem tail_play (H : HasDue T) (A : TwoAt ob i j B R) (t : Tm) (mo : Nat) (hmo : mo ≤ 400) (ht : tmOk t) (hc : (spreadT B t).lv ≤ 200) (m : Nat) (hm : 210 ≤ m) (o3 o4 : Option Val) :
    fin (dueTail (sem T m) ⟨[some (.obj i), some (.obj j), some (.dat (.tuple [.str "play", tD t, .int mo])), o3, o4, none, none, none, none, none], ob⟩) = .ok (.dat (tD (playT mo (spreadT B t)).1)) (ob.set j (.lst (R ++ [rowD3 (spreadT B t) mo]))) := by
  obtain ⟨q, rfl⟩ : ∃ q, m = q + 1 := ⟨m - 1, by omega⟩
  obtain ⟨t1, t2, t3⟩ := ht
  have rc := r_count H.lcount t (q + 1) ob t1 (by omega)
  have rs := r_lspread H.lspread A.told A.small t (q + 1) (by omega)
  have sd := spread_dep A.lv t
  have rl := r_law_leaves H.lleaves (spreadT B t) (q + 1) ob (by omega)
  have rp := r_lplayed H.toHasLawWays H.lplayed (spreadT B t) mo (q + 1) ob (spread_ok A.ok t t1) hc hmo (by omega)
  have rw_ := whole_int H.lwhole mo q ob
  have lp := t.lv_pos
  have n0 : (0 : Int) < (t.lv : Int) := by omega
  have n0' : 0 < t.lv := by omega
  have n1 : (t.lv : Int) ≤ 200 := by omega
  have n2 : ¬ (200 : Int) < ((spreadT B t).lv : Int) := by omega
  have n3 : (mo : Int) ≤ 400 := by omega
  have hbg : R.length < big := by have := A.few; unfold big; omega
  unfold dueTail rowD3
  generalize playT mo (spreadT B t) = pl at rp ⊢
  simp [tg_play_tell, tg_play_term, tg_play_spread, tg_play_play, tg_play_forget, rc, n0, n0', n1, rs, rl, n2, rw_, n3, rp, mObM, oApp, A.rows, hbg]
theorem due_forget (H : HasDue T) (A : TwoAt ob i j B R)  (hd : ddOk .forget) (n : Nat) (hn : 211 ≤ n) : (sem T n).run 276 [.obj i, .obj j, .dat (ddD .forget)] ob = .ok (outD B R .forget).1 (setB ob i j (outD B R .forget).2.1 (outD B R .forget).2.2) := by
  obtain ⟨m, rfl⟩ : ∃ m, n = m + 1 := ⟨n - 1, by omega⟩
  have self := setB_self A.told A.rows
  rw [sem_run H.due]
  unfold d__law_due_deed
  refine Eq.trans (runDef_fin _ _ _ _ _ _ rfl) ?_
  rcases last_split B with e | ⟨B', p, e⟩
  · subst e
    have ht := A.told
    rw [List.map_nil] at ht
    simp [ddD, tg_forget_tell, tg_forget_term, tg_forget_spread, tg_forget_play, tg_forget_forget, see_l ht, own_nil, eql_nil, outD, self]
  · subst e
    have ht := A.told
    rw [List.map_append, List.map_cons, List.map_nil] at ht
    simp [ddD, tg_forget_tell, tg_forget_term, tg_forget_spread, tg_forget_play, tg_forget_forget, see_l ht, own_nil, eql_nil, outD, mObM, oPop, ht, lnB, setB_l B' A.ne A.rows]
theorem due_term (H : HasDue T) (A : TwoAt ob i j B R) (nm : PyData) (hd : ddOk (.term nm)) (n : Nat) (hn : 211 ≤ n) : (sem T n).run 276 [.obj i, .obj j, .dat (ddD (.term nm))] ob = .ok (outD B R (.term nm)).1 (setB ob i j (outD B R (.term nm)).2.1 (outD B R (.term nm)).2.2) := by
  obtain ⟨m, rfl⟩ : ∃ m, n = m + 1 := ⟨n - 1, by omega⟩
  have self := setB_self A.told A.rows
  rw [sem_run H.due]
  unfold d__law_due_deed
  refine Eq.trans (runDef_fin _ _ _ _ _ _ rfl) ?_
  have q := live_fil (cs := sem T m) (n := i) (tg := .tup [.nm 8, .nm 9]) (own := [8, 9]) B lnB (t := bVal (mBin (oCmp .Eq) (.pk 8) (.ev (mBin (fun _ => vIdx) (.pk 2) (.ev (mCon (.int (1)))))))) (elt := mVar 9) (fun p => (PyData.str p.1).eqv nm) (fun p => tD p.2)
    ⟨[some (.obj i), some (.obj j), some (.dat (.tuple [.str "term", nm])), none, none, none, none, none, none, none], ob⟩ (fun p => ⟨[some (.obj i), some (.obj j), some (.dat (.tuple [.str "term", nm])), none, none, none, none, none, some (.dat (.str p.1)), some (.dat (tD p.2))], ob⟩)
    A.told (fun p _ => by simp [lnB]) (fun p _ => by simp [eq_strL]) (fun p _ _ => by simp) (fun p _ => by simp) B 0 [] wFuel rfl (x_fuel A.small) (by simpa using x_big A.small)
  rw [out_term]
  unfold lookT
  rw [find_head]
  cases e : B.filter (fun p => (PyData.str p.1).eqv nm) with
  | nil =>
    rw [e] at q
    simp [ddD, tg_term_tell, tg_term_term, tg_term_spread, tg_term_play, tg_term_forget, mCompO, q, own_nil, eql_nil, self]
  | cons p l =>
    rw [e] at q
    simp [ddD, tg_term_tell, tg_term_term, tg_term_spread, tg_term_play, tg_term_forget, mCompO, q, own_nil, eql_nil, self]
theorem due_spread (H : HasDue T) (A : TwoAt ob i j B R) (t : Tm) (bad : Bool) (hd : ddOk (.spread t bad)) (n : Nat) (hn : 211 ≤ n) : (sem T n).run 276 [.obj i, .obj j, .dat (ddD (.spread t bad))] ob = .ok (outD B R (.spread t bad)).1 (setB ob i j (outD B R (.spread t bad)).2.1 (outD B R (.spread t bad)).2.2) := by
  obtain ⟨m, rfl⟩ : ∃ m, n = m + 1 := ⟨n - 1, by omega⟩
  have self := setB_self A.told A.rows
  rw [sem_run H.due]
  unfold d__law_due_deed
  refine Eq.trans (runDef_fin _ _ _ _ _ _ rfl) ?_
  have step : fin (dueTail (sem T m) ⟨[some (.obj i), some (.obj j), some (.dat (.tuple [.str "spread", teD t bad])), none, none, none, none, none, none, none], ob⟩) = .ok (outD B R (.spread t bad)).1 (setB ob i j (outD B R (.spread t bad)).2.1 (outD B R (.spread t bad)).2.2) := by
    cases bad with
    | true =>
      rw [tail_bad H A t hd m (by omega) _ none none false ⟨"spread", by simp, tg_spread_tell⟩ (by simp [teD])]
      simp [outD, self]
    | false =>
      by_cases hc : (spreadT B t).lv ≤ 200
      · have r := tail_spread H A t hd hc m (by omega) none none
        simp only [teD, Bool.false_eq_true, if_false]
        rw [r]
        simp [outD, self, hc]
      · rw [tail_big H A t hd (by omega) m (by omega) _ none none false ⟨"spread", by simp, tg_spread_tell⟩ (by simp [teD])]
        simp [outD, self, hc]
  rw [← step]
  simp [ddD, tg_spread_tell, tg_spread_term, tg_spread_spread, tg_spread_play, tg_spread_forget]
theorem due_play (H : HasDue T) (A : TwoAt ob i j B R) (t : Tm) (bad : Bool) (k : Ct) (hd : ddOk (.play t bad k)) (n : Nat) (hn : 211 ≤ n) : (sem T n).run 276 [.obj i, .obj j, .dat (ddD (.play t bad k))] ob = .ok (outD B R (.play t bad k)).1 (setB ob i j (outD B R (.play t bad k)).2.1 (outD B R (.play t bad k)).2.2) := by
  obtain ⟨m, rfl⟩ : ∃ m, n = m + 1 := ⟨n - 1, by omega⟩
  have self := setB_self A.told A.rows
  rw [sem_run H.due]
  unfold d__law_due_deed
  refine Eq.trans (runDef_fin _ _ _ _ _ _ rfl) ?_
  obtain ⟨ht, hk⟩ := hd
  have step : fin (dueTail (sem T m) ⟨[some (.obj i), some (.obj j), some (.dat (.tuple [.str "play", teD t bad, ctD k])), none, none, none, none, none, none, none], ob⟩) = .ok (outD B R (.play t bad k)).1 (setB ob i j (outD B R (.play t bad k)).2.1 (outD B R (.play t bad k)).2.2) := by
    cases bad with
    | true =>
      rw [tail_bad H A t ht m (by omega) _ none none false ⟨"play", by simp, tg_play_tell⟩ (by simp [teD])]
      simp [outD, self]
    | false =>
      by_cases hc : (spreadT B t).lv ≤ 200
      · simp only [teD, Bool.false_eq_true, if_false]
        cases k with
        | num mo =>
          have r := tail_play H A t mo (hk mo rfl) ht hc m (by omega) none none
          rw [show ctD (.num mo) = .int mo from rfl, r]
          simp [outD, hc, setB_r _ A.told]
        | over =>
          rw [tail_count H A t .over (fun m z => by cases z) ht hc m (by omega) none none]
          simp [outD, self, hc]
        | tru =>
          rw [tail_count H A t .tru (fun m z => by cases z) ht hc m (by omega) none none]
          simp [outD, self, hc]
      · rw [tail_big H A t ht (by omega) m (by omega) _ none none false ⟨"play", by simp, tg_play_tell⟩ (by simp [teD])]
        simp [outD, self, hc]
  rw [← step]
  simp [ddD, tg_play_tell, tg_play_term, tg_play_spread, tg_play_play, tg_play_forget]
/-- the names told, as a list -/
theorem names_here (A : TwoAt ob i j B R) (cs : Cs) (a b c d : Option Val) : compLive i (.tup [.nm 8, .nm 9]) [8, 9] none (mVar 8) cs wFuel 0 [] ⟨[some (.obj i), a, b, c, d, none, none, none, none, none], ob⟩ = .ok ((B.map (·.1)).map .str) ⟨[some (.obj i), a, b, c, d, none, none, none, none, none], ob⟩ := by
  have q := live_map (cs := cs) (n := i) (tg := .tup [.nm 8, .nm 9]) (own := [8, 9]) B lnB (elt := mVar 8) (fun p => PyData.str p.1)
    ⟨[some (.obj i), a, b, c, d, none, none, none, none, none], ob⟩ (fun p => ⟨[some (.obj i), a, b, c, d, none, none, none, some (.dat (.str p.1)), some (.dat (tD p.2))], ob⟩)
    A.told (fun p _ => by simp [lnB]) (fun p _ => by simp) (fun p _ => by simp) B 0 [] wFuel rfl (x_fuel A.small) (by simpa using x_big A.small)
  have eN : (B.map fun p => PyData.str p.1) = (B.map (·.1)).map .str := by rw [List.map_map]; rfl
  rw [eN] at q
  simpa using q
theorem good_is (H : HasDue T) (nm te : PyData) (hn : nmOk nm) (m : Nat) (hm : 1 ≤ m) (o : Option Val) : dueGood (sem T m) ⟨[some (.obj i), some (.obj j), some (.dat (.tuple [.str "tell", nm, te])), none, o, none, none, none, none, none], ob⟩ = .ok .nx ⟨[some (.obj i), some (.obj j), some (.dat (.tuple [.str "tell", nm, te])), none, some (.dat (.bool (goodNm nm))), none, none, none, none, none], ob⟩ := by
  obtain ⟨h0, hs⟩ := hn
  unfold dueGood
  cases nm with
  | str x =>
    have hks := in_KS (sem T m) x
    have hc := count_str H.lcount x (hs x rfl) m ob hm
    cases hx : isNm x with
    | true =>
      have nks := nm_ne hx
      have e1 : (("K" : Str) == x || ("S" : Str) == x) = false := by
        rw [BEq.comm (a := ("K" : Str)), BEq.comm (a := ("S" : Str)), nks.1, nks.2]
        rfl
      rw [e1] at hks
      rw [if_pos (.inr hx)] at hc
      simp [hks, hc, eqi, goodNm, hx]
    | false =>
      cases e1 : (("K" : Str) == x || ("S" : Str) == x) with
      | true =>
        rw [e1] at hks
        simp [hks, goodNm, hx]
      | false =>
        rw [e1] at hks
        rw [if_neg (by rw [e1, hx]; simp)] at hc
        simp [hks, hc, eqi, goodNm, hx]
  | dict _ => rcases h0 with h | h <;> cases h
  | none => simp [isa, goodNm]
  | bool _ => simp [isa, goodNm]
  | int _ => simp [isa, goodNm]
  | list _ => simp [isa, goodNm]
  | tuple _ => simp [isa, goodNm]
theorem used_is (A : TwoAt ob i j B R) (nm te : PyData) (m : Nat) : dueUsed (sem T m) ⟨[some (.obj i), some (.obj j), some (.dat (.tuple [.str "tell", nm, te])), none, some (.dat (.bool (goodNm nm))), none, none, none, none, none], ob⟩ = if goodNm nm = false ∨ usedNm B nm = true then .ok (.rt (.own [.str "name", nm])) ⟨[some (.obj i), some (.obj j), some (.dat (.tuple [.str "tell", nm, te])), none, some (.dat (.bool (goodNm nm))), none, none, none, none, none], ob⟩ else .ok .nx ⟨[some (.obj i), some (.obj j), some (.dat (.tuple [.str "tell", nm, te])), none, some (.dat (.bool (goodNm nm))), none, none, none, none, none], ob⟩ := by
  unfold dueUsed
  cases hg : goodNm nm with
  | false => simp
  | true =>
    obtain ⟨x, rfl⟩ : ∃ x, nm = .str x := by cases nm <;> first | exact ⟨_, rfl⟩ | cases hg
    have q := names_here A (sem T m) (some (.obj j)) (some (.dat (.tuple [.str "tell", .str x, te]))) none (some (.dat (.bool true)))
    have hin := in_names (sem T m) x (B.map (·.1))
    have hu : usedNm B (.str x) = decide (x ∈ B.map (·.1)) := rfl
    rw [hu]
    generalize decide (x ∈ B.map (·.1)) = u at hin
    generalize (B.map (·.1)).map PyData.str = L at q hin
    cases u with
    | true => simp [mCompO, q, hin]
    | false => simp [mCompO, q, hin]
theorem tell_lead (H : HasDue T) (nm te : PyData) (hn : nmOk nm) (m : Nat) (hm : 1 ≤ m) (k : M Fl) (A : TwoAt ob i j B R) : fin (sSeq (sSeq dueGood dueUsed) k (sem T m) ⟨[some (.obj i), some (.obj j), some (.dat (.tuple [.str "tell", nm, te])), none, none, none, none, none, none, none], ob⟩) =
    if goodNm nm = false ∨ usedNm B nm = true then .ok (.own [.str "name", nm]) ob else fin (k (sem T m) ⟨[some (.obj i), some (.obj j), some (.dat (.tuple [.str "tell", nm, te])), none, some (.dat (.bool (goodNm nm))), none, none, none, none, none], ob⟩) := by
  have h1 := good_is (ob := ob) (i := i) (j := j) H nm te hn m hm none
  have h2 := used_is (T := T) A nm te m
  by_cases hh : goodNm nm = false ∨ usedNm B nm = true
  · rw [if_pos hh] at h2 ⊢
    show fin (((dueGood (sem T m) _).bnd _).bnd _) = _
    rw [h1]
    show fin ((dueUsed (sem T m) _).bnd _) = _
    rw [h2]
    rfl
  · rw [if_neg hh] at h2 ⊢
    show fin (((dueGood (sem T m) _).bnd _).bnd _) = _
    rw [h1]
    show fin ((dueUsed (sem T m) _).bnd _) = _
    rw [h2]
    rfl
theorem due_tell (H : HasDue T) (A : TwoAt ob i j B R) (nm : PyData) (t : Tm) (bad : Bool) (hd : ddOk (.tell nm t bad)) (n : Nat) (hn : 211 ≤ n) : (sem T n).run 276 [.obj i, .obj j, .dat (ddD (.tell nm t bad))] ob = .ok (outD B R (.tell nm t bad)).1 (setB ob i j (outD B R (.tell nm t bad)).2.1 (outD B R (.tell nm t bad)).2.2) := by
  obtain ⟨m, rfl⟩ : ∃ m, n = m + 1 := ⟨n - 1, by omega⟩
  obtain ⟨hnm, ht⟩ := hd
  have self := setB_self A.told A.rows
  rw [sem_run H.due]
  unfold d__law_due_deed
  refine Eq.trans (runDef_fin _ _ _ _ _ _ rfl) ?_
  have lead : fin (sSeq (sSeq dueGood dueUsed) dueTail (sem T m) ⟨[some (.obj i), some (.obj j), some (.dat (.tuple [.str "tell", nm, teD t bad])), none, none, none, none, none, none, none], ob⟩) = .ok (outD B R (.tell nm t bad)).1 (setB ob i j (outD B R (.tell nm t bad)).2.1 (outD B R (.tell nm t bad)).2.2) := by
    rw [tell_lead H nm (teD t bad) hnm m (by omega) dueTail A, out_tell]
    by_cases hh : goodNm nm = false ∨ usedNm B nm = true
    · rw [if_pos hh, if_pos hh, self]
    · rw [if_neg hh, if_neg hh]
      have hg : goodNm nm = true := by
        cases e : goodNm nm with
        | true => rfl
        | false => exact absurd (.inl e) hh
      obtain ⟨x, rfl⟩ : ∃ x, nm = .str x := by cases nm <;> first | exact ⟨_, rfl⟩ | cases hg
      cases bad with
      | true =>
        rw [tail_bad H A t ht m (by omega) _ none _ true ⟨"tell", by simp, tg_tell_tell⟩ (by simp [teD])]
        simp [self]
      | false =>
        by_cases hc : (spreadT B t).lv ≤ 200
        · have r := tail_tell H A x t ht hc m (by omega) none (some (.dat (.bool (goodNm (.str x)))))
          have sl := setB_l (B ++ [(x, spreadT B t)]) A.ne A.rows
          simp only [teD, Bool.false_eq_true, if_false]
          rw [r]
          rw [List.map_append] at sl
          simp [hc, sl, nmStr]
        · rw [tail_big H A t ht (by omega) m (by omega) _ none _ true ⟨"tell", by simp, tg_tell_tell⟩ (by simp [teD])]
          simp [self, hc]
  rw [← lead]
  simp [ddD, tg_tell_tell, tg_tell_term, tg_tell_spread, tg_tell_play, tg_tell_forget]
theorem r_due (H : HasDue T) (A : TwoAt ob i j B R) (d : Dd) (hd : ddOk d) (n : Nat) (hn : 211 ≤ n) : (sem T n).run 276 [.obj i, .obj j, .dat (ddD d)] ob = .ok (outD B R d).1 (setB ob i j (outD B R d).2.1 (outD B R d).2.2) := by
  cases d with
  | forget => exact due_forget H A hd n hn
  | term nm => exact due_term H A nm hd n hn
  | spread t bad => exact due_spread H A t bad hd n hn
  | play t bad k => exact due_play H A t bad k hd n hn
  | tell nm t bad => exact due_tell H A nm t bad hd n hn
end
end CH


/-! CH64: deeds drawn. -/
namespace CH
open PySem L2
def d__law_odd_name : FnDef := ⟨1, 1, sRet (mBin (fun _ => vIdx) (.ev (mLst [mCon (.str "K"), mCon (.str "S"), mCon (.str ""), mCon (.str "abcd"), mCon (.str "X"), mCon (.str "x1"), mCon (.none), mCon (.int (7)), mLst [mCon (.str "x")], mTup [mCon (.str "x")], mCon (.str "x y"), mCon (.bool true)])) (.ev (mBin (fun _ => vBin .Mod) (.pk 0) (.ev (mCon (.int (12)))))))⟩
def d__law_deeds_drawn : FnDef := ⟨2, 4, sSeq (sAsg 2 (mBin (fun _ => vBin .Add) (.ev (mCall 201 [mVar 0, mVar 1] [])) (.ev (mCall 201 [mVar 0, mBin (fun _ => vBin .Add) (.pk 1) (.ev (mCon (.int (1))))] [])))) (sRet (mComp (.range1 (mBin (fun _ => vBin .Add) (.ev (mCon (.int (4)))) (.ev (mBin (fun _ => vBin .Mod) (.ev (mBin (fun _ => vIdx) (.pk 2) (.ev (mCon (.int (0)))))) (.ev (mCon (.int (12)))))))) (.nm 3) [3] none (mCall 277 [mVar 2, mBin (fun _ => vBin .Add) (.ev (mCon (.int (1)))) (.ev (mBin (fun _ => vBin .Mult) (.ev (mCon (.int (7)))) (.pk 3)))] [])))⟩
def dr1 : M Fl := sAsg 2 (mBin (fun _ => vBin .Mod) (.ev (mBin (fun _ => vIdx) (.pk 0) (.pk 1))) (.ev (mCon (.int (10)))))
def dr2 : M Fl := sAsg 3 (mCall 202 [mBin (fun _ => vIdx) (.pk 0) (.ev (mBin (fun _ => vBin .Add) (.pk 1) (.ev (mCon (.int (1))))))] [])
def dr3 : M Fl := sIf (bVal (mBin (oCmp .Eq) (.ev (mBin (fun _ => vBin .Mod) (.ev (mBin (fun _ => vIdx) (.pk 0) (.ev (mBin (fun _ => vBin .Add) (.pk 1) (.ev (mCon (.int (1)))))))) (.ev (mCon (.int (13)))))) (.ev (mCon (.int (0)))))) (sAsg 3 (mCall 242 [mBin (fun _ => vIdx) (.pk 0) (.ev (mBin (fun _ => vBin .Add) (.pk 1) (.ev (mCon (.int (2))))))] [])) sPass
def dr4 : M Fl := sAsg 4 (mBin (fun _ => vIdx) (.ev (mCall 204 [mVar 0, mBin (fun _ => vBin .Add) (.pk 1) (.ev (mCon (.int (2)))), mBin (fun _ => vBin .Add) (.ev (mCon (.int (1)))) (.ev (mBin (fun _ => vBin .Mod) (.ev (mBin (fun _ => vBin .FloorDiv) (.ev (mBin (fun _ => vIdx) (.pk 0) (.pk 1))) (.ev (mCon (.int (10)))))) (.ev (mCon (.int (3))))))] [])) (.ev (mCon (.int (0)))))
def dr5 : M Fl := sIf (bVal (mBin (oCmp .Eq) (.ev (mBin (fun _ => vBin .Mod) (.ev (mBin (fun _ => vIdx) (.pk 0) (.ev (mBin (fun _ => vBin .Add) (.pk 1) (.ev (mCon (.int (3)))))))) (.ev (mCon (.int (17)))))) (.ev (mCon (.int (0)))))) (sAsg 4 (mTup [mTup [mVar 4, mCon (.none)], mCon (.str "x")])) sPass
def drK : M Fl := sSeq (sIf (bVal (mBin (oCmp .Lt) (.pk 2) (.ev (mCon (.int (5)))))) (sRet (mTup [mCon (.str "tell"), mVar 3, mVar 4])) sPass) (sSeq (sIf (bVal (mBin (oCmp .Lt) (.pk 2) (.ev (mCon (.int (6)))))) (sRet (mTup [mCon (.str "term"), mVar 3])) sPass) (sSeq (sIf (bVal (mBin (oCmp .Lt) (.pk 2) (.ev (mCon (.int (7)))))) (sRet (mTup [mCon (.str "spread"), mVar 4])) sPass) (sSeq (sIf (bVal (mBin (oCmp .Lt) (.pk 2) (.ev (mCon (.int (9)))))) (sRet (mTup [mCon (.str "play"), mVar 4, mBin (fun _ => vIdx) (.ev (mLst [mBin (fun _ => vBin .Mod) (.ev (mBin (fun _ => vIdx) (.pk 0) (.ev (mBin (fun _ => vBin .Add) (.pk 1) (.ev (mCon (.int (4)))))))) (.ev (mCon (.int (9)))), mCon (.int (401)), mCon (.bool true)])) (.ev (mBin (fun _ => vBin .Mult) (.ev (mBin (fun _ => vBin .FloorDiv) (.ev (mBin (fun _ => vBin .Mod) (.ev (mBin (fun _ => vIdx) (.pk 0) (.ev (mBin (fun _ => vBin .Add) (.pk 1) (.ev (mCon (.int (5)))))))) (.ev (mCon (.int (13)))))) (.ev (mCon (.int (11)))))) (.ev (mBin (fun _ => vBin .Add) (.ev (mCon (.int (1)))) (.ev (mBin (fun _ => vBin .Mod) (.ev (mBin (fun _ => vIdx) (.pk 0) (.ev (mBin (fun _ => vBin .Add) (.pk 1) (.ev (mCon (.int (4)))))))) (.ev (mCon (.int (2))))))))))])) sPass) (sRet (mTup [mCon (.str "forget")])))))
def d__law_deed_drawn : FnDef := ⟨2, 5, sSeq dr1 (sSeq dr2 (sSeq dr3 (sSeq dr4 (sSeq dr5 drK))))⟩
structure HasDraw (T : Nat → Option FnDef) : Prop extends HasRow T, HasGrown T where
  odd : T 242 = some d__law_odd_name
  dd1 : T 277 = some d__law_deed_drawn
  dds : T 278 = some d__law_deeds_drawn
def nmRf (nm : PyData) : Prop := nm.eqv nm = true ∧ nm.depth ≤ 2
def ddRf : Dd → Prop
  | .tell nm _ _ => nmRf nm
  | .term nm => nmRf nm
  | _ => True
section
variable {T : Nat → Option FnDef}
theorem r_odd27 (h : T 242 = some d__law_odd_name) (k : Nat) (n : Nat) (ob : List Ob) (hn : 1 ≤ n) : ∃ d, nmOk d ∧ nmRf d ∧ (sem T n).run 242 [.dat (.int k)] ob = .ok (.dat d) ob := by
  obtain ⟨m, rfl⟩ : ∃ m, n = m + 1 := ⟨n - 1, by omega⟩
  rw [sem_run h]
  unfold d__law_odd_name
  have hk : ∃ d, nmOk d ∧ nmRf d ∧ atI [PyData.str "K", .str "S", .str "", .str "abcd", .str "X", .str "x1", .none, .int 7, .list [.str "x"], .tuple [.str "x"], .str "x y", .bool true] ((k : Int) % 12) = some d := by
    have e : (k : Int) % 12 = ((k % 12 : Nat) : Int) := by omega
    rw [e]
    have h : k % 12 = 0 ∨ k % 12 = 1 ∨ k % 12 = 2 ∨ k % 12 = 3 ∨ k % 12 = 4 ∨ k % 12 = 5 ∨ k % 12 = 6 ∨ k % 12 = 7 ∨ k % 12 = 8 ∨ k % 12 = 9 ∨ k % 12 = 10 ∨ k % 12 = 11 := by omega
    have st : ∀ (z : Str), noNm (.str z) = true → z.length ≤ 1000 → nmOk (.str z) ∧ nmRf (.str z) := fun z h1 h2 => ⟨⟨.inr h1, fun x e => by cases e; exact h2⟩, by simp [PyData.eqv], by simp [PyData.depth]⟩
    have ot : ∀ (d : PyData), noNm d = true → (∀ x, d ≠ .str x) → d.eqv d = true → d.depth ≤ 2 → nmOk d ∧ nmRf d := fun d h1 h2 h3 h4 => ⟨⟨.inr h1, fun x e => absurd e (h2 x)⟩, h3, h4⟩
    rcases h with h | h | h | h | h | h | h | h | h | h | h | h <;> rw [h]
    · exact ⟨_, (st "K" (by decide +kernel) (by decide +kernel)).1, (st "K" (by decide +kernel) (by decide +kernel)).2, rfl⟩
    · exact ⟨_, (st "S" (by decide +kernel) (by decide +kernel)).1, (st "S" (by decide +kernel) (by decide +kernel)).2, rfl⟩
    · exact ⟨_, (st "" (by decide +kernel) (by decide +kernel)).1, (st "" (by decide +kernel) (by decide +kernel)).2, rfl⟩
    · exact ⟨_, (st "abcd" (by decide +kernel) (by decide +kernel)).1, (st "abcd" (by decide +kernel) (by decide +kernel)).2, rfl⟩
    · exact ⟨_, (st "X" (by decide +kernel) (by decide +kernel)).1, (st "X" (by decide +kernel) (by decide +kernel)).2, rfl⟩
    · exact ⟨_, (st "x1" (by decide +kernel) (by decide +kernel)).1, (st "x1" (by decide +kernel) (by decide +kernel)).2, rfl⟩
    · obtain ⟨a, b⟩ := ot .none rfl (fun x z => by cases z) (by simp [PyData.eqv]) (by simp [PyData.depth])
      exact ⟨_, a, b, rfl⟩
    · obtain ⟨a, b⟩ := ot (.int 7) rfl (fun x z => by cases z) (by simp [PyData.eqv]) (by simp [PyData.depth])
      exact ⟨_, a, b, rfl⟩
    · obtain ⟨a, b⟩ := ot (.list [.str "x"]) rfl (fun x z => by cases z) (by simp [PyData.eqv, PyData.eqvAll]) (by simp [PyData.depth, PyData.depthAll])
      exact ⟨_, a, b, rfl⟩
    · obtain ⟨a, b⟩ := ot (.tuple [.str "x"]) rfl (fun x z => by cases z) (by simp [PyData.eqv, PyData.eqvAll]) (by simp [PyData.depth, PyData.depthAll])
      exact ⟨_, a, b, rfl⟩
    · exact ⟨_, (st "x y" (by decide +kernel) (by decide +kernel)).1, (st "x y" (by decide +kernel) (by decide +kernel)).2, rfl⟩
    · obtain ⟨a, b⟩ := ot (.bool true) rfl (fun x z => by cases z) (by simp [PyData.eqv]) (by simp [PyData.depth])
      exact ⟨_, a, b, rfl⟩
  obtain ⟨d, h1, h2, hi⟩ := hk
  refine ⟨d, h1, h2, ?_⟩
  refine Eq.trans (runDef_fin _ _ _ _ _ _ rfl) ?_
  simp [hi]
def rw_ (ks : List Nat) : Val := .dat (.list (ks.map fun (k : Nat) => PyData.int k))
theorem row_i (ks : List Nat) (a c : Nat) (h : a + c < ks.length) : atI (ks.map fun (k : Nat) => PyData.int k) ((a : Int) + (c : Int)) = some (.int (rowAt ks (a + c))) := by
  have := idx_row ks (a + c) h
  rw [Int.natCast_add] at this
  exact this
theorem dr_name (H : HasDraw T) {ks : List Nat} (hlt : ∀ k ∈ ks, k < 1000) (a : Nat) (ha : a + 6 ≤ ks.length) (m : Nat) (hm : 8 ≤ m) (ob : List Ob) (o2 : Val) : ∃ nm, nmOk nm ∧ nmRf nm ∧ ∀ k : M Fl, (sSeq dr2 (sSeq dr3 k)) (sem T m) ⟨[some (rw_ ks), some (.dat (.int a)), some o2, none, none], ob⟩ = k (sem T m) ⟨[some (rw_ ks), some (.dat (.int a)), some o2, some (.dat nm), none], ob⟩ := by
  have i1 := row_i ks a 1 (by omega)
  have i2 := row_i ks a 2 (by omega)
  simp only [Int.cast_ofNat_Int] at i1 i2
  obtain ⟨q, rfl⟩ : ∃ q, m = q + 1 := ⟨m - 1, by omega⟩
  have rn := r_name H.toHasRow.name (rowAt ks (a + 1)) q ob
  have hr := rowAt_lt hlt (a + 1)
  have hok := name_ok (rowAt ks (a + 1)) hr
  have h3 := nm_len hok
  by_cases h13 : (rowAt ks (a + 1) : Int) % 13 = 0
  · obtain ⟨d, d1, d2, d3⟩ := r_odd27 H.odd (rowAt ks (a + 2)) (q + 1) ob (by omega)
    refine ⟨d, d1, d2, fun k => ?_⟩
    have e : (PyData.int ((rowAt ks (a + 1) : Int) % 13)).eqv (.int 0) = true := by rw [eqi, h13]; rfl
    unfold rw_ dr2 dr3
    simp [i1, i2, rn, e, d3]
  · refine ⟨.str (nameOf (rowAt ks (a + 1))), ⟨.inl hok, fun x e => by cases e; omega⟩, ⟨by simp [PyData.eqv], by simp [PyData.depth]⟩, fun k => ?_⟩
    have e : (PyData.int ((rowAt ks (a + 1) : Int) % 13)).eqv (.int 0) = false := by rw [eqi]; simpa using h13
    unfold rw_ dr2 dr3
    simp [i1, rn, e]
theorem dr_term (H : HasDraw T) {ks : List Nat} (hlt : ∀ k ∈ ks, k < 1000) (a : Nat) (ha : a + 6 ≤ ks.length) (m : Nat) (hm : 8 ≤ m) (ob : List Ob) (o2 nm : Val) : ∃ t bad, tmOk t ∧ ∀ k : M Fl, (sSeq dr4 (sSeq dr5 k)) (sem T m) ⟨[some (rw_ ks), some (.dat (.int a)), some o2, some nm, none], ob⟩ = k (sem T m) ⟨[some (rw_ ks), some (.dat (.int a)), some o2, some nm, some (.dat (teD t bad))], ob⟩ := by
  have i0 := idx_row ks a (by omega)
  have i3 := row_i ks a 3 (by omega)
  simp only [Int.cast_ofNat_Int] at i3
  obtain ⟨t, b, t1, t2, t3, t4, t5, r⟩ := r_grown2 H.toHasGrown hlt (1 + rowAt ks a / 10 % 3) (a + 2) m ob (by omega)
  have e : ((1 + rowAt ks a / 10 % 3 : Nat) : Int) = 1 + (rowAt ks a : Int) / 10 % 3 := by omega
  have e2 : ((a + 2 : Nat) : Int) = (a : Int) + 2 := by omega
  rw [e, e2] at r
  have hlv : t.lv ≤ 200 := by
    by_cases h36 : 36 ≤ a + 2
    · have := t3 h36; omega
    · have := t4 (by omega); omega
  by_cases h17 : (rowAt ks (a + 3) : Int) % 17 = 0
  · refine ⟨t, true, ⟨t1, hlv, by omega⟩, fun k => ?_⟩
    have e : (PyData.int ((rowAt ks (a + 3) : Int) % 17)).eqv (.int 0) = true := by rw [eqi, h17]; rfl
    unfold rw_ dr4 dr5
    simp [i0, i3, r, e, teD, spoilt]
  · refine ⟨t, false, ⟨t1, hlv, by omega⟩, fun k => ?_⟩
    have e : (PyData.int ((rowAt ks (a + 3) : Int) % 17)).eqv (.int 0) = false := by rw [eqi]; simpa using h17
    unfold rw_ dr4 dr5
    simp [i0, i3, r, e, teD]
theorem dr_last {ks : List Nat} (a : Nat) (ha : a + 6 ≤ ks.length) (cs : Cs) (ob : List Ob) (pk : Nat) (nm : PyData) (t : Tm) (bad : Bool) (h1 : nmOk nm) (h2 : nmRf nm) (h3 : tmOk t) : ∃ d, ddOk d ∧ ddRf d ∧ fin (drK cs ⟨[some (rw_ ks), some (.dat (.int a)), some (.dat (.int pk)), some (.dat nm), some (.dat (teD t bad))], ob⟩) = .ok (.dat (ddD d)) ob := by
  have i4 := row_i ks a 4 (by omega)
  have i5 := row_i ks a 5 (by omega)
  simp only [Int.cast_ofNat_Int] at i4 i5
  unfold drK rw_
  by_cases p5 : (pk : Int) < 5
  · exact ⟨.tell nm t bad, ⟨h1, h3⟩, h2, by simp [p5, ddD]⟩
  · by_cases p6 : (pk : Int) < 6
    · exact ⟨.term nm, h1, h2, by simp [p5, p6, ddD]⟩
    · by_cases p7 : (pk : Int) < 7
      · exact ⟨.spread t bad, h3, trivial, by simp [p5, p6, p7, ddD]⟩
      · by_cases p9 : (pk : Int) < 9
        · generalize rowAt ks (a + 4) = x4 at i4
          generalize rowAt ks (a + 5) = x5 at i5
          have hx : (x5 : Int) % 13 / 11 = 0 ∨ (x5 : Int) % 13 / 11 = 1 := by omega
          have hy : (x4 : Int) % 2 = 0 ∨ (x4 : Int) % 2 = 1 := by omega
          have e9 : (x4 : Int) % 9 = ((x4 % 9 : Nat) : Int) := by omega
          rcases hx with hx | hx
          · refine ⟨.play t bad (.num (x4 % 9)), ⟨h3, fun m e => by cases e; omega⟩, trivial, ?_⟩
            simp [p5, p6, p7, p9, ddD, ctD, i4, i5, hx]
          · rcases hy with hy | hy
            · refine ⟨.play t bad .over, ⟨h3, fun m e => by cases e⟩, trivial, ?_⟩
              simp [p5, p6, p7, p9, ddD, ctD, i4, i5, hx, hy]
            · refine ⟨.play t bad .tru, ⟨h3, fun m e => by cases e⟩, trivial, ?_⟩
              simp [p5, p6, p7, p9, ddD, ctD, i4, i5, hx, hy]
        · exact ⟨.forget, trivial, trivial, by simp [p5, p6, p7, p9, ddD]⟩
theorem r_deed1 (H : HasDraw T) {ks : List Nat} (hlt : ∀ k ∈ ks, k < 1000) (a : Nat) (ha : a + 6 ≤ ks.length) (n : Nat) (hn : 9 ≤ n) (ob : List Ob) : ∃ d, ddOk d ∧ ddRf d ∧ (sem T n).run 277 [rw_ ks, .dat (.int a)] ob = .ok (.dat (ddD d)) ob := by
  obtain ⟨m, rfl⟩ : ∃ m, n = m + 1 := ⟨n - 1, by omega⟩
  have i0 := idx_row ks a (by omega)
  have e10 : (rowAt ks a : Int) % 10 = ((rowAt ks a % 10 : Nat) : Int) := by omega
  obtain ⟨nm, n1, n2, n3⟩ := dr_name H hlt a ha m (by omega) ob (.dat (.int (rowAt ks a % 10 : Nat)))
  obtain ⟨t, bad, t1, t2⟩ := dr_term H hlt a ha m (by omega) ob (.dat (.int (rowAt ks a % 10 : Nat))) (.dat nm)
  obtain ⟨d, d1, d2, d3⟩ := dr_last (ks := ks) a ha (sem T m) ob (rowAt ks a % 10) nm t bad n1 n2 t1
  refine ⟨d, d1, d2, ?_⟩
  rw [sem_run H.dd1]
  unfold d__law_deed_drawn
  refine Eq.trans (runDef_fin _ _ _ _ _ _ rfl) ?_
  rw [← d3, ← t2 drK, ← n3 (sSeq dr4 (sSeq dr5 drK))]
  have s1 : ∀ k : M Fl, (sSeq dr1 k) (sem T m) ⟨[some (rw_ ks), some (.dat (.int a)), none, none, none], ob⟩ = k (sem T m) ⟨[some (rw_ ks), some (.dat (.int a)), some (.dat (.int (rowAt ks a % 10 : Nat))), none, none], ob⟩ := fun k => by
    unfold dr1 rw_
    simp [i0]
  exact congrArg fin (s1 _)
/-- a comprehension over numbers whose first turn settles the row -/
theorem r_deeds (H : HasDraw T) (ns : List Int) (a : Nat) (n : Nat) (hn : 12 ≤ n) (ob : List Ob) : ∃ ds : List Dd, (4 ≤ ds.length ∧ ds.length ≤ 15) ∧ (∀ d ∈ ds, ddOk d ∧ ddRf d) ∧ (sem T n).run 278 [.scr ns, .dat (.int a)] ob = .ok (.own (ds.map ddD)) ob := by
  obtain ⟨m, rfl⟩ : ∃ m, n = m + 1 := ⟨n - 1, by omega⟩
  obtain ⟨k1, l1, h1, r1⟩ := r_rowN H.toHasRow ns a m ob (by omega)
  obtain ⟨k2, l2, h2, r2⟩ := r_rowN H.toHasRow ns (a + 1) m ob (by omega)
  have hks : ∀ k ∈ k1 ++ k2, k < 1000 := fun k hk => (List.mem_append.mp hk).elim (h1 k) (h2 k)
  have lk : (k1 ++ k2).length = 120 := by rw [List.length_append]; omega
  have ea : ((a + 1 : Nat) : Int) = (a : Int) + 1 := by omega
  rw [ea] at r2
  have hmap : (k1.map fun (k : Nat) => PyData.int k) ++ (k2.map fun (k : Nat) => PyData.int k) = (k1 ++ k2).map fun (k : Nat) => PyData.int k := by rw [List.map_append]
  have hbig : k1.length + k2.length ≤ big := by unfold big; omega
  have hx : ∀ k : Nat, ∃ d : Dd, k < 15 → ddOk d ∧ ddRf d ∧ (sem T m).run 277 [rw_ (k1 ++ k2), .dat (.int (1 + 7 * k : Nat))] ob = .ok (.dat (ddD d)) ob := fun k => by
    by_cases hk : k < 15
    · obtain ⟨d, d1, d2, d3⟩ := r_deed1 H hks (1 + 7 * k) (by omega) m (by omega) ob
      exact ⟨d, fun _ => ⟨d1, d2, d3⟩⟩
    · exact ⟨.forget, fun z => absurd z hk⟩
  obtain ⟨f, hf⟩ := Classical.axiomOfChoice hx
  have hf' : ∀ k : Nat, k < 15 → (sem T m).run 277 [.dat (.list ((k1 ++ k2).map fun (k : Nat) => PyData.int k)), .dat (.int (1 + 7 * (k : Int)))] ob = .ok (.dat (ddD (f k))) ob := fun k hk => by
    have := (hf k hk).2.2
    have e : ((1 + 7 * k : Nat) : Int) = 1 + 7 * (k : Int) := by omega
    rw [e] at this
    exact this
  have i0 := idx_row (k1 ++ k2) 0 (by omega)
  simp only [Int.cast_ofNat_Int] at i0
  generalize hL : (k1 ++ k2).map (fun (k : Nat) => PyData.int k) = L at hf' i0 hmap
  generalize rowAt (k1 ++ k2) 0 = x0 at i0
  refine ⟨(List.range (4 + x0 % 12)).map f, ⟨by simp, by simp; omega⟩, fun d hd => ?_, ?_⟩
  · obtain ⟨k, hk, rfl⟩ := List.mem_map.mp hd
    have hk := List.mem_range.mp hk
    have := hf k (by omega)
    exact ⟨this.1, this.2.1⟩
  · rw [sem_run H.dds]
    unfold d__law_deeds_drawn
    refine Eq.trans (runDef_fin _ _ _ _ _ _ rfl) ?_
    have ej : (4 : Int) + (x0 : Int) % 12 = ((4 + x0 % 12 : Nat) : Int) := by omega
    have ir := i_range1 (f := mBin (fun _ => vBin .Add) (.ev (mCon (.int (4)))) (.ev (mBin (fun _ => vBin .Mod) (.ev (mBin (fun _ => vIdx) (.pk 2) (.ev (mCon (.int (0)))))) (.ev (mCon (.int (12))))))) (cs := sem T m) (s := ⟨[some (.scr ns), some (.dat (.int a)), some (.own L), none], ob⟩) (s1 := ⟨[some (.scr ns), some (.dat (.int a)), some (.own L), none], ob⟩) (j := 4 + x0 % 12) (by simp [i0]) (by omega)
    obtain ⟨j, hj⟩ : ∃ j, 4 + x0 % 12 = j + 1 := ⟨3 + x0 % 12, by omega⟩
    rw [hj] at ir ⊢
    have hb : (j + 1) ≤ 1000 := by omega
    have q := loop_mapG (cs := sem T m) (i := 3) (elt := mCall 277 [mVar 2, mBin (fun _ => vBin .Add) (.ev (mCon (.int (1)))) (.ev (mBin (fun _ => vBin .Mult) (.ev (mCon (.int (7)))) (.pk 3)))] []) (fun (k : Nat) => PyData.int k) (fun k => ddD (f k)) ⟨[some (.scr ns), some (.dat (.int a)), some (.dat (.list L)), none], ob⟩ (fun d => rfl) (List.range' 1 j) [ddD (f 0)] (by
      intro k hk
      have hk : k < 15 := by
        have := List.mem_range'.mp hk
        obtain ⟨i, hi, rfl⟩ := this
        omega
      simp [hf' k hk]) (by simp; unfold big; omega)
    have e0 : nums 0 (j + 1) = .int 0 :: ((List.range' 1 j).map fun (k : Nat) => PyData.int k) := by
      rw [nums_eq, nums_go]
      simp
    rw [e0] at ir
    have f0 := hf' 0 (by omega)
    simp at f0
    have step : compLoop (.nm 3) [3] none (mCall 277 [mVar 2, mBin (fun _ => vBin .Add) (.ev (mCon (.int (1)))) (.ev (mBin (fun _ => vBin .Mult) (.ev (mCon (.int (7)))) (.pk 3)))] []) (sem T m) (.int 0 :: ((List.range' 1 j).map fun (k : Nat) => PyData.int k)) [] ⟨[some (.scr ns), some (.dat (.int a)), some (.own L), none], ob⟩ = .ok ([ddD (f 0)] ++ (List.range' 1 j).map fun k => ddD (f k)) ⟨[some (.scr ns), some (.dat (.int a)), some (.dat (.list L)), none], ob⟩ := by
      rw [← q]
      rw [x_cloop_cons]
      have b0 : (0 : Nat) < big := by unfold big; omega
      simp [f0, b0]
    have er : ((List.range (j + 1)).map f).map ddD = [ddD (f 0)] ++ (List.range' 1 j).map fun k => ddD (f k) := by
      rw [List.range_eq_range', List.range'_succ, List.map_map]
      rfl
    rw [er]
    generalize [ddD (f 0)] ++ (List.range' 1 j).map (fun k => ddD (f k)) = out at step
    simp [r1, r2, hbig, mComp, -x_i_range1, hmap, ir, step]
end
end CH


/-! CH65: what is kept by deeds. -/
namespace CH
open PySem L2
/-- a thing that is equal to itself, not too deep -/
def rfD (e : PyData) : Prop := e.eqv e = true ∧ e.depth ≤ 300
theorem rf_tm {t : Tm} (h : t.ok = true) (hl : t.lv ≤ 200) : rfD (tD t) := by
  refine ⟨by rw [tD_eqv t t h h]; simp, ?_⟩
  have := t.dep_lv
  rw [tD_depth]
  omega
theorem rf_all : ∀ {l : List PyData} {k : Nat}, (∀ e ∈ l, e.eqv e = true ∧ e.depth ≤ k) → PyData.eqvAll l l = true ∧ PyData.depthAll l ≤ k
  | [], _, _ => ⟨by simp [PyData.eqvAll], by simp [PyData.depthAll]⟩
  | a :: l, k, h => by
    obtain ⟨h1, h2⟩ := rf_all (l := l) (k := k) fun e he => h e (List.mem_cons_of_mem _ he)
    obtain ⟨h3, h4⟩ := h a List.mem_cons_self
    refine ⟨by rw [PyData.eqvAll, h1, h3]; rfl, ?_⟩
    show max a.depth (PyData.depthAll l) ≤ k
    omega
theorem rf_list {l : List PyData} {k : Nat} (h : ∀ e ∈ l, e.eqv e = true ∧ e.depth ≤ k) : (PyData.list l).eqv (.list l) = true ∧ (PyData.list l).depth ≤ k + 1 := by
  obtain ⟨h1, h2⟩ := rf_all h
  refine ⟨by rw [PyData.eqv]; exact h1, ?_⟩
  show PyData.depthAll l + 1 ≤ k + 1
  omega
theorem rf_tuple {l : List PyData} {k : Nat} (h : ∀ e ∈ l, e.eqv e = true ∧ e.depth ≤ k) : (PyData.tuple l).eqv (.tuple l) = true ∧ (PyData.tuple l).depth ≤ k + 1 := by
  obtain ⟨h1, h2⟩ := rf_all h
  refine ⟨by rw [PyData.eqv]; exact h1, ?_⟩
  show PyData.depthAll l + 1 ≤ k + 1
  omega
theorem rf_str (x : Str) : (PyData.str x).eqv (.str x) = true ∧ (PyData.str x).depth ≤ 2 := ⟨by simp [PyData.eqv], by simp [PyData.depth]⟩
/-- what stands in a book's lists -/
structure Inv27 (B : Bk) (R : List PyData) (k : Nat) : Prop where
  ok : ∀ p ∈ B, p.2.ok = true
  lv : ∀ p ∈ B, p.2.lv ≤ 200
  nm : ∀ p ∈ B, isNm p.1 = true
  bl : B.length ≤ k
  rl : R.length ≤ k
  rr : ∀ r ∈ R, r.eqv r = true ∧ r.depth ≤ 200
def vD : Val → PyData
  | .dat e => e
  | .own xs => .list xs
  | _ => .none
def isV : Val → Bool
  | .dat _ => true
  | .own _ => true
  | _ => false
theorem inv_same {B : Bk} {R : List PyData} {k : Nat} (I : Inv27 B R k) : Inv27 B R (k + 1) := ⟨I.ok, I.lv, I.nm, by have := I.bl; omega, by have := I.rl; omega, I.rr⟩
theorem look_mem {B : Bk} {d : PyData} {t : Tm} (h : lookT B d = some t) : ∃ p ∈ B, p.2 = t := by
  unfold lookT at h
  cases e : B.find? (fun p => (PyData.str p.1).eqv d) with
  | none => rw [e] at h; cases h
  | some p => rw [e] at h; exact ⟨p, List.mem_of_find?_eq_some e, Option.some.inj h⟩
theorem rf_one (x : Str) : rfD (.list [.str x]) := by
  obtain ⟨a, b⟩ := rf_list (l := [.str x]) (k := 2) (fun e he => by rw [List.mem_singleton.mp he]; exact rf_str x)
  exact ⟨a, by omega⟩
theorem rf_two (x : Str) (e : PyData) (h : nmRf e) : rfD (.list [.str x, e]) := by
  obtain ⟨a, b⟩ := rf_list (l := [.str x, e]) (k := 2) (fun d he => by
    rcases List.mem_cons.mp he with z | z
    · rw [z]; exact rf_str x
    · rw [List.mem_singleton.mp z]; exact h)
  exact ⟨a, by omega⟩
theorem out_inv {B : Bk} {R : List PyData} {k : Nat} (I : Inv27 B R k) (d : Dd) (h1 : ddOk d) (h2 : ddRf d) : Inv27 (outD B R d).2.1 (outD B R d).2.2 (k + 1) ∧ isV (outD B R d).1 = true ∧ rfD (vD (outD B R d).1) := by
  have S := inv_same I
  cases d with
  | forget =>
    rcases last_split B with e | ⟨B', p, e⟩
    · subst e
      exact ⟨S, rfl, rf_two "none" (.bool true) ⟨by simp [PyData.eqv], by simp [PyData.depth]⟩⟩
    · subst e
      have o : outD (B' ++ [p]) R .forget = (.dat (.str p.1), B', R) := by simp [outD]
      rw [o]
      refine ⟨⟨fun q hq => I.ok q (List.mem_append_left _ hq), fun q hq => I.lv q (List.mem_append_left _ hq), fun q hq => I.nm q (List.mem_append_left _ hq), ?_, S.rl, I.rr⟩, rfl, (rf_str p.1).1, Nat.le_trans (rf_str p.1).2 (by omega)⟩
      have := I.bl
      rw [List.length_append] at this
      show B'.length ≤ k + 1
      omega
  | term nm =>
    rw [out_term]
    cases e : lookT B nm with
    | some t =>
      obtain ⟨p, hp, rfl⟩ := look_mem e
      exact ⟨S, rfl, rf_tm (I.ok p hp) (I.lv p hp)⟩
    | none => exact ⟨S, rfl, rf_two "name" nm h2⟩
  | spread t bad =>
    cases bad with
    | true => exact ⟨S, rfl, rf_one "term"⟩
    | false =>
      by_cases hc : (spreadT B t).lv ≤ 200
      · have o : outD B R (.spread t false) = (.dat (tD (spreadT B t)), B, R) := by simp [outD, hc]
        rw [o]
        exact ⟨S, rfl, rf_tm (spread_ok I.ok t h1.1) hc⟩
      · have o : outD B R (.spread t false) = (.own [.str "big"], B, R) := by simp [outD, hc]
        rw [o]
        exact ⟨S, rfl, rf_one "big"⟩
  | play t bad c =>
    cases bad with
    | true => exact ⟨S, rfl, rf_one "term"⟩
    | false =>
      by_cases hc : (spreadT B t).lv ≤ 200
      · have so := spread_ok I.ok t h1.1.1
        cases c with
        | num m =>
          have o : outD B R (.play t false (.num m)) = (.dat (tD (playT m (spreadT B t)).1), B, R ++ [rowD3 (spreadT B t) m]) := by simp [outD, hc]
          rw [o]
          obtain ⟨p1, p2⟩ := play_ok m (spreadT B t) so hc
          have a1 := rf_tm so hc
          have a2 := rf_tm p1 p2
          have d1 := (spreadT B t).dep_lv
          have d2 := (playT m (spreadT B t)).1.dep_lv
          refine ⟨⟨I.ok, I.lv, I.nm, S.bl, ?_, fun r hr => ?_⟩, rfl, a2⟩
          · have := I.rl
            show (R ++ [_]).length ≤ k + 1
            rw [List.length_append, List.length_singleton]
            omega
          · rcases List.mem_append.mp hr with z | z
            · exact I.rr r z
            · rw [List.mem_singleton.mp z]
              unfold rowD3
              refine rf_tuple (k := 199) fun e he => ?_
              rcases List.mem_cons.mp he with z | z
              · rw [z]; exact ⟨a1.1, by rw [tD_depth]; omega⟩
              · rcases List.mem_cons.mp z with z | z
                · rw [z]; exact ⟨by simp [PyData.eqv], by simp [PyData.depth]⟩
                · rw [List.mem_singleton.mp z]; exact ⟨a2.1, by rw [tD_depth]; omega⟩
        | over =>
          have o : outD B R (.play t false .over) = (.own [.str "count"], B, R) := by simp [outD, hc]
          rw [o]
          exact ⟨S, rfl, rf_one "count"⟩
        | tru =>
          have o : outD B R (.play t false .tru) = (.own [.str "count"], B, R) := by simp [outD, hc]
          rw [o]
          exact ⟨S, rfl, rf_one "count"⟩
      · have o : outD B R (.play t false c) = (.own [.str "big"], B, R) := by simp [outD, hc]
        rw [o]
        exact ⟨S, rfl, rf_one "big"⟩
  | tell nm t bad =>
    rw [out_tell]
    by_cases hh : goodNm nm = false ∨ usedNm B nm = true
    · rw [if_pos hh]
      exact ⟨S, rfl, rf_two "name" nm h2⟩
    · rw [if_neg hh]
      have hg : goodNm nm = true := by
        cases e : goodNm nm with
        | true => rfl
        | false => exact absurd (.inl e) hh
      obtain ⟨x, rfl⟩ : ∃ x, nm = .str x := by cases nm <;> first | exact ⟨_, rfl⟩ | cases hg
      cases bad with
      | true => exact ⟨S, rfl, rf_one "term"⟩
      | false =>
        by_cases hc : (spreadT B t).lv ≤ 200
        · simp only [Bool.false_eq_true, if_false, hc, if_true]
          have so := spread_ok I.ok t h1.2.1
          have mem : ∀ {P : Str × Tm → Prop}, (∀ p ∈ B, P p) → P (x, spreadT B t) → ∀ p ∈ B ++ [(x, spreadT B t)], P p := fun hB hx p hp => by
            rcases List.mem_append.mp hp with z | z
            · exact hB p z
            · rw [List.mem_singleton.mp z]; exact hx
          refine ⟨⟨mem I.ok so, mem I.lv hc, mem I.nm hg, ?_, S.rl, I.rr⟩, rfl, ⟨by simp [vD, PyData.eqv], by simp [vD, PyData.depth]⟩⟩
          have := I.bl
          show (B ++ [(nmStr (.str x), spreadT B t)]).length ≤ k + 1
          rw [List.length_append, List.length_singleton]
          omega
        · simp only [Bool.false_eq_true, if_false, hc]
          exact ⟨S, rfl, rf_one "big"⟩
/-! ### the places -/
theorem app_at {α : Type} {l : List α} {k : Nat} {a o : α} (h : l[k]? = some a) : (l ++ [o])[k]? = some a := by
  rw [List.getElem?_append_left (List.getElem?_eq_some_iff.mp h).1]
  exact h
theorem setB_ne {ob : List Ob} {i j k : Nat} {B : Bk} {R : List PyData} (h1 : k ≠ i) (h2 : k ≠ j) : (setB ob i j B R)[k]? = ob[k]? := by
  unfold setB
  rw [List.getElem?_set_ne (Ne.symm h2), List.getElem?_set_ne (Ne.symm h1)]
theorem setB_i {ob : List Ob} {i j : Nat} {B : Bk} {R : List PyData} {o : Ob} (ne : i ≠ j) (h : ob[i]? = some o) : (setB ob i j B R)[i]? = some (.lst (B.map lnB)) := by
  unfold setB
  rw [List.getElem?_set_ne (Ne.symm ne)]
  exact set_at h
theorem setB_j {ob : List Ob} {i j : Nat} {B : Bk} {R : List PyData} {o : Ob} (ne : i ≠ j) (h : ob[j]? = some o) : (setB ob i j B R)[j]? = some (.lst R) := by
  unfold setB
  refine set_at (o := o) ?_
  rw [List.getElem?_set_ne ne]
  exact h
/-- the whole stage: the book, and the two lists beside it -/
structure Stg (ob : List Ob) (B : Bk) (R : List PyData) (B' : Bk) (R' : List PyData) : Prop where
  me : ob[0]? = some (.ins "Book" [("told", .obj 1), ("rows", .obj 2)])
  t1 : ob[1]? = some (.lst (B.map lnB))
  r1 : ob[2]? = some (.lst R)
  t2 : ob[3]? = some (.lst (B'.map lnB))
  r2 : ob[4]? = some (.lst R')
section
variable {ob : List Ob} {B B' C C' : Bk} {R R' Q Q' : List PyData}
theorem Stg.bk (S : Stg ob B R B' R') {k : Nat} (I : Inv27 B R k) (hk : k ≤ 1000) : BkAt ob 0 1 2 B R := ⟨S.me, S.t1, S.r1, Nat.le_trans I.bl hk, Nat.le_trans I.rl hk⟩
theorem Stg.two (S : Stg ob B R B' R') {k : Nat} (I : Inv27 B' R' k) (hk : k ≤ 1000) : TwoAt ob 3 4 B' R' := ⟨S.t2, S.r2, by decide, Nat.le_trans I.bl hk, Nat.le_trans I.rl hk, I.ok, I.lv⟩
theorem Stg.app (S : Stg ob B R B' R') (o : Ob) : Stg (ob ++ [o]) B R B' R' := ⟨app_at S.me, app_at S.t1, app_at S.r1, app_at S.t2, app_at S.r2⟩
theorem Stg.set2 (S : Stg ob B R B' R') : Stg (setB ob 3 4 C Q) B R C Q :=
  ⟨by rw [setB_ne (by decide) (by decide)]; exact S.me, by rw [setB_ne (by decide) (by decide)]; exact S.t1, by rw [setB_ne (by decide) (by decide)]; exact S.r1, setB_i (by decide) S.t2, setB_j (by decide) S.r2⟩
theorem Stg.set1 (S : Stg ob B R B' R') : Stg (setB ob 1 2 C Q) C Q B' R' :=
  ⟨by rw [setB_ne (by decide) (by decide)]; exact S.me, setB_i (by decide) S.t1, setB_j (by decide) S.r1, by rw [setB_ne (by decide) (by decide)]; exact S.t2, by rw [setB_ne (by decide) (by decide)]; exact S.r2⟩
theorem Stg.len (S : Stg ob B R B' R') : 5 ≤ ob.length := (List.getElem?_eq_some_iff.mp S.r2).1
end
end CH


/-! CH66: books compared. -/
namespace CH
open PySem L2
def d_first_of : FnDef := ⟨1, 1, sRet (mBin (fun _ => vIdx) (.pk 0) (.ev (mCon (.int (0)))))⟩
noncomputable def d_Book___eq__ : FnDef := ⟨2, 2, sSeq (sIf (bNot (bTru (.ev (mIsO "Book" (.pk 1))))) (sRet (mCon (.bool false))) sPass) (sRet (mBin (oCmp .Eq) (.ev (mSortK 79 (.ev (mFld "Book" (mVar 0) "told")))) (.ev (mSortK 79 (.ev (mFld "Book" (mVar 1) "told"))))))⟩
section
variable {α β : Type}
theorem insK_map (g : α → β) (p : Str × α) : ∀ l : List (Str × α), insK (p.1, g p.2) (l.map fun q => (q.1, g q.2)) = (insK p l).map fun q => (q.1, g q.2)
  | [] => rfl
  | q :: r => by
    rw [List.map_cons]
    unfold insK
    by_cases h : ltS q.1 p.1 = true
    · rw [if_pos h, if_pos h, insK_map g p r]
      rfl
    · rw [if_neg h, if_neg h]
      rfl
theorem sortK_map (g : α → β) : ∀ l : List (Str × α), sortK (l.map fun q => (q.1, g q.2)) = (sortK l).map fun q => (q.1, g q.2)
  | [] => rfl
  | p :: r => by
    rw [List.map_cons]
    unfold sortK
    rw [sortK_map g r, insK_map g p]
end
/-- what == of two books is -/
def sameB (B C : Bk) : Bool := decide (sortK B = sortK C)
theorem perm_of_sub {α : Type} [DecidableEq α] : ∀ {l m : List α}, l.Nodup → (∀ x ∈ l, x ∈ m) → l.length = m.length → l.Perm m
  | [], m, _, _, h => by
    have : m = [] := List.eq_nil_of_length_eq_zero h.symm
    rw [this]
  | x :: l, m, hn, hs, hl => by
    rw [List.nodup_cons] at hn
    have hx := hs x List.mem_cons_self
    refine List.Perm.trans ?_ (List.perm_cons_erase hx).symm
    refine (perm_of_sub hn.2 (fun y hy => ?_) ?_).cons x
    · have hy' := hs y (List.mem_cons_of_mem _ hy)
      rcases (List.mem_cons.mp ((List.perm_cons_erase hx).mem_iff.mp hy')) with e | e
      · rw [e] at hy; exact absurd hy hn.1
      · exact e
    · rw [List.length_erase_of_mem hx, ← hl]
      simp
theorem nodup_of_map {α β : Type} (f : α → β) : ∀ {l : List α}, (l.map f).Nodup → l.Nodup
  | [], _ => List.nodup_nil
  | x :: l, h => by
    rw [List.map_cons, List.nodup_cons] at h
    rw [List.nodup_cons]
    exact ⟨fun z => h.1 (List.mem_map.mpr ⟨x, z, rfl⟩), nodup_of_map f h.2⟩
theorem sameB_iff {B C : Bk} (hB : (B.map (·.1)).Nodup) (hC : (C.map (·.1)).Nodup) : sameB B C = (decide (B.length = C.length) && (B.filter fun p => !decide (p ∈ C)).isEmpty) := by
  have key : sortK B = sortK C ↔ B.length = C.length ∧ ∀ p ∈ B, p ∈ C := by
    constructor
    · intro h
      have p : B.Perm C := (sortK_perm B).symm.trans (h ▸ sortK_perm C)
      exact ⟨p.length_eq, fun q hq => p.mem_iff.mp hq⟩
    · rintro ⟨h1, h2⟩
      have p := perm_of_sub (nodup_of_map _ hB) h2 h1
      refine sorted_one ((sortK_perm B).trans (p.trans (sortK_perm C).symm)) (sortK_sorted _) (sortK_sorted _) ?_
      exact (((sortK_perm C).map (·.1)).nodup_iff).mpr hC
  have e2 : (B.filter fun p => !decide (p ∈ C)).isEmpty = true ↔ ∀ p ∈ B, p ∈ C := by
    rw [List.isEmpty_iff, List.filter_eq_nil_iff]
    constructor
    · intro h p hp
      have := h p hp
      simpa using this
    · intro h p hp
      simp [h p hp]
  unfold sameB
  rw [Bool.eq_iff_iff, Bool.and_eq_true, decide_eq_true_eq, decide_eq_true_eq, e2]
  exact key
theorem lnB_eqv {p q : Str × Tm} (hp : p.2.ok = true) (hq : q.2.ok = true) : (lnB p).eqv (lnB q) = decide (p = q) := by
  unfold lnB
  rw [PyData.eqv, PyData.eqvAll, PyData.eqvAll, PyData.eqvAll, tD_eqv _ _ hp hq]
  obtain ⟨x, t⟩ := p
  obtain ⟨y, u⟩ := q
  simp only [PyData.eqv, Prod.mk.injEq]
  by_cases h1 : x = y
  · by_cases h2 : t = u
    · simp [h1, h2]
    · simp [h1, h2]
  · simp [h1]
theorem lnBs_eqv : ∀ {B C : Bk}, (∀ p ∈ B, p.2.ok = true) → (∀ p ∈ C, p.2.ok = true) → PyData.eqvAll (B.map lnB) (C.map lnB) = decide (B = C)
  | [], [], _, _ => by simp [PyData.eqvAll]
  | [], _ :: _, _, _ => by simp [PyData.eqvAll]
  | _ :: _, [], _, _ => by simp [PyData.eqvAll]
  | p :: B, q :: C, hB, hC => by
    rw [List.map_cons, List.map_cons, PyData.eqvAll, lnB_eqv (hB p List.mem_cons_self) (hC q List.mem_cons_self), lnBs_eqv (fun x hx => hB x (List.mem_cons_of_mem _ hx)) fun x hx => hC x (List.mem_cons_of_mem _ hx)]
    by_cases h1 : p = q
    · by_cases h2 : B = C
      · simp [h1, h2]
      · simp [h1, h2]
    · simp [h1]
theorem lnB_depth {p : Str × Tm} (h : p.2.lv ≤ 200) : (lnB p).depth ≤ 200 := by
  unfold lnB
  have := p.2.dep_lv
  simp only [PyData.depth, PyData.depthAll, tD_depth]
  omega
theorem lnBs_depth : ∀ {B : Bk}, (∀ p ∈ B, p.2.lv ≤ 200) → PyData.depthAll (B.map lnB) ≤ 200
  | [], _ => by simp [PyData.depthAll]
  | p :: B, h => by
    have h1 := lnB_depth (h p List.mem_cons_self)
    have h2 := lnBs_depth fun x hx => h x (List.mem_cons_of_mem _ hx)
    show max (lnB p).depth (PyData.depthAll (B.map lnB)) ≤ 200
    omega
structure HasEq (T : Nat → Option FnDef) : Prop where
  beq : T 152 = some d_Book___eq__
  fst : T 79 = some d_first_of
section
variable {T : Nat → Option FnDef} {ob : List Ob} {b i j b' i' j' : Nat} {B B' : Bk} {R R' : List PyData}
theorem r_first (h : T 79 = some d_first_of) (p : Str × Tm) (n : Nat) (ob : List Ob) : (sem T (n + 1)).run 79 [.dat (lnB p)] ob = .ok (.dat (.str p.1)) ob := by
  rw [sem_run h]
  unfold d_first_of
  refine Eq.trans (runDef_fin _ _ _ _ _ _ rfl) ?_
  simp [lnB]
/-- sorted(b.told, key=first_of) -/
theorem sort_told (H : HasEq T) (A : BkAt ob b i j B R) (hn : (B.map (·.1)).Nodup) (h64 : B.length < 64) (n : Nat) (s : S) (hs : s.ob = ob) (f : M Val) (hf : f (sem T (n + 2)) s = .ok (.obj i) s) : mSortK 79 (.ev f) (sem T (n + 2)) s = .ok (.own ((sortK B).map lnB)) s := by
  have hk : keysOf (sem T (n + 2)) 79 ob (B.map lnB) = some (B.map (·.1)) := keysOf_map lnB (·.1) B fun p _ => by
    rw [sem_low]
    exact r_first H.fst p n ob
  have hz : ∀ B : Bk, (B.map (·.1)).zip (B.map lnB) = B.map fun q => (q.1, lnB q) := fun B => by
    induction B with
    | nil => rfl
    | cons p B ih => rw [List.map_cons, List.map_cons, List.map_cons, List.zip_cons_cons, ih]
  have hsort : (sortK ((B.map (·.1)).zip (B.map lnB))).map (·.2) = (sortK B).map lnB := by
    rw [hz B]
    have e : (B.map fun q => (q.1, lnB q)) = ((B.map fun q => (q.1, q)).map fun q => (q.1, lnB q.2)) := by rw [List.map_map]; rfl
    rw [e, sortK_map lnB (B.map fun q => (q.1, q))]
    have e2 : sortK (B.map fun q => (q.1, q)) = (sortK B).map fun q => (q.1, q) := by
      clear hz hk hn h64 A e
      induction B with
      | nil => rfl
      | cons p B ih =>
        rw [List.map_cons]
        unfold sortK
        rw [ih]
        generalize sortK B = l
        induction l with
        | nil => rfl
        | cons q r ih2 =>
          rw [List.map_cons]
          unfold insK
          by_cases h : ltS q.1 p.1 = true
          · rw [if_pos h, if_pos h, ih2]; rfl
          · rw [if_neg h, if_neg h]; rfl
    rw [e2, List.map_map, List.map_map]
    rfl
  have hl : (B.map (·.1)).length < 64 := by rw [List.length_map]; exact h64
  unfold mSortK
  rw [if_pos (by rw [sem_lv]; omega)]
  have ev : ∀ (k : Val → S → CH.R Val), ev1 (.ev f) k (sem T (n + 2)) s = k (.own (B.map lnB)) s := fun k => by
    show ((f (sem T (n + 2)) s).bnd fun x s1 => k (see s1.ob (frz x)) s1) = _
    rw [hf]
    show k (see s.ob (.obj i)) s = _
    rw [hs, see_l A.told]
  rw [ev]
  have ha : asL (.own (B.map lnB)) = some (B.map lnB) := rfl
  simp only [ha, hs, hk]
  rw [if_pos ⟨hn, hl⟩, hsort]
theorem b_eq (H : HasEq T) (A : BkAt ob b i j B R) (A' : BkAt ob b' i' j' B' R') (h1 : ∀ p ∈ B, p.2.ok = true) (h2 : ∀ p ∈ B', p.2.ok = true) (l1 : ∀ p ∈ B, p.2.lv ≤ 200) (l2 : ∀ p ∈ B', p.2.lv ≤ 200) (n1 : (B.map (·.1)).Nodup) (n2 : (B'.map (·.1)).Nodup) (f1 : B.length < 64) (f2 : B'.length < 64) (n : Nat) :
    (sem T (n + 3)).run 152 [.obj b, .obj b'] ob = .ok (.dat (.bool (sameB B B'))) ob := by
  have e1 := sort_told H A n1 f1 n ⟨[some (.obj b), some (.obj b')], ob⟩ rfl (mFld "Book" (mVar 0) "told") (by simp [mFld, A.me, lk_told])
  have e2 := sort_told H A' n2 f2 n ⟨[some (.obj b), some (.obj b')], ob⟩ rfl (mFld "Book" (mVar 1) "told") (by simp [mFld, A'.me, lk_told])
  have pm : ∀ {P : Str × Tm → Prop} {B : Bk}, (∀ p ∈ B, P p) → ∀ p ∈ sortK B, P p := fun h p hp => h p ((sortK_perm _).mem_iff.mp hp)
  have ee := lnBs_eqv (pm h1) (pm h2)
  have dd := lnBs_depth (pm l1)
  have eq : vEq (sem T (n + 2)) (.dat (.list ((sortK B).map lnB))) (.dat (.list ((sortK B').map lnB))) = some (sameB B B') := by
    rw [vEq_dat]
    · rw [PyData.eqv, ee]
      rfl
    · show min (PyData.depthAll _ + 1) _ ≤ rm _
      unfold rm
      rw [sem_lv]
      omega
  rw [sem_run H.beq]
  unfold d_Book___eq__
  refine Eq.trans (runDef_fin _ _ _ _ _ _ rfl) ?_
  generalize (sortK B).map lnB = L1 at e1 eq
  generalize (sortK B').map lnB = L2 at e2 eq
  simp [mIsO, ev1, see, A'.me, isO, e1, e2, eq]
/-- == of a book and what is none -/
theorem b_eq_no (H : HasEq T) (d : PyData) (hd : (∃ x, d = .str x) ∨ (∃ x, d = .int x) ∨ ∃ x, d = .list x) (n : Nat) (ob : List Ob) (b : Nat) : (sem T (n + 1)).run 152 [.obj b, .dat d] ob = .ok (.dat (.bool false)) ob := by
  rw [sem_run H.beq]
  unfold d_Book___eq__
  refine Eq.trans (runDef_fin _ _ _ _ _ _ rfl) ?_
  rcases hd with ⟨x, rfl⟩ | ⟨x, rfl⟩ | ⟨x, rfl⟩ <;> simp [mIsO, ev1, see, isO]
theorem b_init (h : T 150 = some d_Book___init__) (ob : List Ob) (n : Nat) : (sem T (n + 1)).run 150 [.obj ob.length] (ob ++ [.ins "Book" []]) = .ok (.dat .none) (ob ++ [.ins "Book" [("told", .obj (ob.length + 1)), ("rows", .obj (ob.length + 2))], .lst [], .lst []]) := by
  rw [sem_run h]
  unfold d_Book___init__
  refine Eq.trans (runDef_fin _ _ _ _ _ _ rfl) ?_
  have e1 : (ob ++ [Ob.ins "Book" [], .lst []])[ob.length]? = some (.ins "Book" []) := by simp
  have e2 : (ob ++ [Ob.ins "Book" [], .lst []]).set ob.length (.ins "Book" [("told", .obj (ob.length + 1))]) = ob ++ [.ins "Book" [("told", .obj (ob.length + 1))], .lst []] := by simp [List.set_append_right]
  have e3 : (ob ++ [Ob.ins "Book" [("told", .obj (ob.length + 1))], .lst [], .lst []])[ob.length]? = some (.ins "Book" [("told", .obj (ob.length + 1))]) := by simp
  have e4 : (ob ++ [Ob.ins "Book" [("told", .obj (ob.length + 1))], .lst [], .lst []]).set ob.length (.ins "Book" [("told", .obj (ob.length + 1)), ("rows", .obj (ob.length + 2))]) = ob ++ [.ins "Book" [("told", .obj (ob.length + 1)), ("rows", .obj (ob.length + 2))], .lst [], .lst []] := by simp [List.set_append_right]
  have ne : ("told" : Str) ≠ "rows" := by decide +kernel
  simp [sFset, toO, putV, ne]
theorem join_bk {B : Bk} (hs : B.length ≤ 1000) (hn : ∀ p ∈ B, isNm p.1 = true) : vJoin " " (.dat (.list ((B.map (·.1)).map .str))) = some (.dat (.str (Txt.join " " (B.map (·.1))))) := by
  unfold vJoin
  have e : asL (.dat (.list ((B.map (·.1)).map .str))) = some ((B.map (·.1)).map .str) := rfl
  rw [e]
  simp only [txts_str]
  have h1 : ((B.map (·.1)).map (·.length)).sum ≤ 3 * B.length := by
    clear hs e
    induction B with
    | nil => simp
    | cons p B ih =>
      have h3 := nm_len (hn p List.mem_cons_self)
      have := ih fun q hq => hn q (List.mem_cons_of_mem _ hq)
      simp only [List.map_cons, List.sum_cons, List.length_cons]
      omega
  have h2 : (" " : Str).length = 1 := by decide +kernel
  rw [if_pos (by rw [h2, List.length_map]; unfold big; omega)]
theorem b_str (h : T 153 = some d_Book___str__) {b i j : Nat} (A : BkAt ob b i j B R) (hn : ∀ p ∈ B, isNm p.1 = true) (n : Nat) : (sem T (n + 1)).run 153 [.obj b] ob = .ok (.dat (.str (Txt.join " " (B.map (·.1))))) ob := by
  rw [sem_run h]
  unfold d_Book___str__
  refine Eq.trans (runDef_fin _ _ _ _ _ _ rfl) ?_
  have q := live_map (cs := sem T n) (n := i) (tg := .nm 1) (own := [1]) B lnB (elt := mBin (fun _ => vIdx) (.pk 1) (.ev (mCon (.int (0))))) (fun p => .str p.1) ⟨[some (.obj b), none], ob⟩ (fun p => ⟨[some (.obj b), some (.dat (lnB p))], ob⟩) A.told (fun p _ => by simp) (fun p _ => by simp [lnB]) (fun p _ => by simp) B 0 [] wFuel rfl (x_fuel A.small) (by simpa using x_big A.small)
  have eN : (B.map fun p => PyData.str p.1) = (B.map (·.1)).map .str := by rw [List.map_map]; rfl
  rw [eN] at q
  have j1 := join_bk A.small hn
  generalize Txt.join " " (B.map (·.1)) = J at j1 ⊢
  generalize (B.map (·.1)).map PyData.str = L at q j1
  simp [mCompO, mFld, A.me, lk_told, q, j1]
theorem see_mix {ob : List Ob} {k : Nat} {us : List Val} (h : ob[k]? = some (.mix us)) : see ob (.obj k) = .obj k := by
  unfold see
  simp [h]
theorem r_new (h : T 150 = some d_Book___init__) (m : Nat) (s : S) : mNew "Book" 150 (sem T (m + 2)) s = .ok (.obj s.ob.length) { s with ob := s.ob ++ [.ins "Book" [("told", .obj (s.ob.length + 1)), ("rows", .obj (s.ob.length + 2))], .lst [], .lst []] } := by
  have e := b_init h s.ob m
  unfold mNew
  rw [if_pos (by rw [sem_lv]; omega), sem_low, e]
theorem in_bk {C : Bk} (cs : Cs) (p : Str × Tm) (hp : p.2.ok = true) (hC : ∀ q ∈ C, q.2.ok = true) (lp : p.2.lv ≤ 200) (hl : 1 ≤ cs.lv) : vIn cs (.dat (lnB p)) (.own (C.map lnB)) = some (decide (p ∈ C)) := by
  have e0 : vIn cs (.dat (lnB p)) (.own (C.map lnB)) = inD cs (lnB p) (C.map lnB) := rfl
  rw [e0]
  unfold inD
  have hd := lnB_depth lp
  rw [if_pos (by unfold rm; omega)]
  congr 1
  clear e0
  induction C with
  | nil => simp
  | cons q C ih =>
    rw [List.map_cons, List.any_cons, lnB_eqv (hC q List.mem_cons_self) hp, ih fun x hx => hC x (List.mem_cons_of_mem _ hx)]
    by_cases h1 : q = p
    · simp [h1]
    · by_cases h2 : p ∈ C
      · simp [h2]
      · have h3 : ¬ p = q := fun z => h1 z.symm
        simp [h1, h2, h3]
theorem frz_V {v : Val} (h : isV v = true) : frz v = .dat (vD v) := by
  cases v with
  | dat d => rfl
  | own xs => rfl
  | scr _ => cases h
  | obj _ => cases h
  | exn _ => cases h
theorem row_inv {B : Bk} {R : List PyData} {k : Nat} (I : Inv27 B R k) (u : Tm) (m : Nat) (so : u.ok = true) (hc : u.lv ≤ 200) : Inv27 B (R ++ [rowD3 u m]) (k + 1) := by
  obtain ⟨p1, p2⟩ := play_ok m u so hc
  have a1 := rf_tm so hc
  have a2 := rf_tm p1 p2
  have d1 := u.dep_lv
  have d2 := (playT m u).1.dep_lv
  refine ⟨I.ok, I.lv, I.nm, (inv_same I).bl, ?_, fun r hr => ?_⟩
  · have := I.rl
    rw [List.length_append, List.length_singleton]
    omega
  · rcases List.mem_append.mp hr with z | z
    · exact I.rr r z
    · rw [List.mem_singleton.mp z]
      unfold rowD3
      refine rf_tuple (k := 199) fun e he => ?_
      rcases List.mem_cons.mp he with z | z
      · rw [z]; exact ⟨a1.1, by rw [tD_depth]; omega⟩
      · rcases List.mem_cons.mp z with z | z
        · rw [z]; exact ⟨by simp [PyData.eqv], by simp [PyData.depth]⟩
        · rw [List.mem_singleton.mp z]; exact ⟨a2.1, by rw [tD_depth]; omega⟩
theorem out_nodup {B : Bk} {R : List PyData} (d : Dd) (h : (B.map (·.1)).Nodup) : ((outD B R d).2.1.map (·.1)).Nodup := by
  cases d with
  | forget =>
    rcases last_split B with e | ⟨B', p, e⟩
    · subst e; exact h
    · subst e
      have o : outD (B' ++ [p]) R .forget = (.dat (.str p.1), B', R) := by simp [outD]
      rw [o]
      rw [List.map_append] at h
      exact (List.nodup_append.mp h).1
  | term nm =>
    rw [out_term]
    cases lookT B nm <;> exact h
  | spread t bad =>
    have o : (outD B R (.spread t bad)).2.1 = B := by
      cases bad with
      | true => rfl
      | false => by_cases hc : (spreadT B t).lv ≤ 200 <;> simp [outD, hc]
    rw [o]
    exact h
  | play t bad c =>
    have o : (outD B R (.play t bad c)).2.1 = B := by
      cases bad with
      | true => rfl
      | false => by_cases hc : (spreadT B t).lv ≤ 200 <;> cases c <;> simp [outD, hc]
    rw [o]
    exact h
  | tell nm t bad =>
    rw [out_tell]
    split
    · exact h
    · rename_i hh
      split
      · exact h
      · split
        · have hg : goodNm nm = true := by
            cases e : goodNm nm with
            | true => rfl
            | false => exact absurd (.inl e) hh
          obtain ⟨x, rfl⟩ : ∃ x, nm = .str x := by cases nm <;> first | exact ⟨_, rfl⟩ | cases hg
          have hu : ¬ x ∈ B.map (·.1) := fun z => hh (.inr (decide_eq_true z))
          show ((B ++ [(x, spreadT B t)]).map (·.1)).Nodup
          rw [List.map_append, List.nodup_append]
          refine ⟨h, by simp, fun a ha b hb => ?_⟩
          have hb : b = x := by simpa using hb
          rw [hb]
          exact fun z => hu (z ▸ ha)
        · exact h
end
end CH


/-! L28: law_k28_whole_two_books in the reckoning. -/
namespace CH.Law
open PySem L2 CH
def la : M Fl := sIf (bVal (mBin (oCmp .Lt) (.pk 7) (.ev (mUn (fun _ => vLen) (.pk 5))))) (sIf (bVal (mBin (oCmp .NotEq) (.ev (mCall 274 [mVar 1, mBin (fun _ => vIdx) (.pk 5) (.pk 7)] [])) (.ev (mCall 276 [mIdxM (.pk 3) (.ev (mCon (.int (0)))), mIdxM (.pk 4) (.ev (mCon (.int (0)))), mBin (fun _ => vIdx) (.pk 5) (.pk 7)] [])))) (sRet (mCon (.bool false))) sPass) sPass
def lc : M Fl := sIf (bAnd (bVal (mBin (oCmp .Lt) (.pk 7) (.ev (mUn (fun _ => vLen) (.pk 6))))) (bVal (mBin (oCmp .Gt) (.ev (mBin (fun _ => vBin .Mod) (.ev (mBin (fun _ => vBin .Add) (.pk 7) (.ev (mCall 200 [mVar 0, mCon (.int (1))] [])))) (.ev (mCon (.int (5)))))) (.ev (mCon (.int (0))))))) (sIf (bVal (mBin (oCmp .NotEq) (.ev (mCall 274 [mVar 2, mBin (fun _ => vIdx) (.pk 6) (.pk 7)] [])) (.ev (mCall 276 [mIdxM (.pk 3) (.ev (mCon (.int (1)))), mIdxM (.pk 4) (.ev (mCon (.int (1)))), mBin (fun _ => vIdx) (.pk 6) (.pk 7)] [])))) (sRet (mCon (.bool false))) sPass) sPass
def ls : M Fl := sAsg 8 (mAnd (mBin (oCmp .Eq) (.ev (mUn (fun _ => vLen) (.ev (mIdxM (.pk 3) (.ev (mCon (.int (0)))))))) (.ev (mUn (fun _ => vLen) (.ev (mIdxM (.pk 3) (.ev (mCon (.int (1))))))))) (mBin (oCmp .Eq) (.ev (mCompO (mIdxM (.pk 3) (.ev (mCon (.int (0))))) (.nm 13) [13] (some (bVal (mBin (oCmp .NotIn) (.pk 13) (.ev (mIdxM (.pk 3) (.ev (mCon (.int (1))))))))) (mVar 13))) (.ev (mLst []))))
def le : M Fl := sIf (bOr (bVal (mBin (oCmp .NotEq) (.ev (mEqO "Book" 152 (.pk 1) (.pk 2))) (.pk 8))) (bVal (mBin (oCmp .NotEq) (.ev (mEqO "Book" 152 (.pk 2) (.pk 1))) (.pk 8)))) (sRet (mCon (.bool false))) sPass
def lb : M Fl := sSeq la (sSeq lc (sSeq ls le))
def lf : M Fl := sIf (bOr (bVal (mBin (oCmp .NotEq) (.ev (mMeth "Book" "term" 156 (mVar 1) [mVar 11] [])) (.pk 12))) (bVal (mBin (oCmp .NotEq) (.ev (mMeth "Book" "forget" 161 (mVar 1) [] [])) (.pk 11)))) (sRet (mCon (.bool false))) sPass
def q8 : M Fl := sIf (bOr (bVal (mEqO "Book" 152 (.ev (mNew "Book" 150)) (.ev (mCon (.str ""))))) (bOr (bVal (mEqO "Book" 152 (.ev (mNew "Book" 150)) (.ev (mCon (.int (0)))))) (bVal (mEqO "Book" 152 (.ev (mNew "Book" 150)) (.ev (mLst [])))))) (sRet (mCon (.bool false))) sPass
def q9 : M Fl := sIf (bOr (bVal (mEqO "Book" 152 (.pk 1) (.ev (mOwn "Book" 153 kStr (mVar 1))))) (bNot (bVal (mEqO "Book" 152 (.pk 1) (.pk 1))))) (sRet (mCon (.bool false))) sPass
def q10 : M Fl := sAsg 9 (mCall 205 [mVar 0, mCon (.int (4))] [])
def q11 : M Fl := sAsg 10 (mCall 275 [mVar 9, mIdxM (.pk 3) (.ev (mCon (.int (0))))] [])
def q12 : M Fl := sIf (bVal (mBin (oCmp .LtE) (.ev (mCall 206 [mVar 10] [])) (.ev (mCon (.int (200)))))) (sIf (bOr (bVal (mBin (oCmp .NotEq) (.ev (mMeth "Book" "spread" 157 (mVar 1) [mVar 9] [])) (.pk 10))) (bVal (mBin (oCmp .NotEq) (.ev (mMeth "Book" "play" 159 (mVar 1) [mVar 9, mCon (.int (5))] [])) (.ev (mBin (fun _ => vIdx) (.ev (mCall 35 [mVar 10, mCon (.int (5))] [])) (.ev (mCon (.int (0))))))))) (sRet (mCon (.bool false))) sPass) sPass
def q14 : M Fl := sRet (mAnd (mEqO "Book" 152 (.pk 1) (.ev (mNew "Book" 150))) (mAnd (mBin (oCmp .Eq) (.ev (mMeth "Book" "names" 155 (mVar 1) [] [])) (.ev (mLst []))) (mBin (oCmp .Eq) (.ev (mOwn "Book" 153 kStr (mVar 1))) (.ev (mCon (.str ""))))))
def q13 : M Fl := sFor (.seq (mUn (fun _ => vRev) (.ev (mIdxM (.pk 3) (.ev (mCon (.int (0)))))))) (.tup [(.nm 11), (.nm 12)]) lf
def p6 : M Fl := sIf (bVal (mBin (oCmp .Eq) (.ev (mBin (fun _ => vBin .Mod) (.ev (mCall 200 [mVar 0, mCon (.int (0))] [])) (.ev (mCon (.int (4)))))) (.ev (mCon (.int (2)))))) (sAsg 6 (mBin (fun _ => vBin .Add) (.ev (mUn (fun _ => vRev1) (.pk 6))) (.ev (mSl (.pk 6) (some (mCon (.int (2)))) none)))) sPass
def p7 : M Fl := sFor (.range1 (mBin (fun _ => vMax2) (.ev (mUn (fun _ => vLen) (.pk 5))) (.ev (mUn (fun _ => vLen) (.pk 6))))) (.nm 7) lb
def lrest : M Fl := sSeq q8 (sSeq q9 (sSeq q10 (sSeq q11 (sSeq q12 (sSeq q13 q14)))))
def d_law : FnDef := ⟨1, 14, sSeq (sAsg 1 (mNew "Book" 150)) (sSeq (sAsg 2 (mNew "Book" 150)) (sSeq (sAsg 3 (mMix [mToO (mLst []), mToO (mLst [])])) (sSeq (sAsg 4 (mMix [mToO (mLst []), mToO (mLst [])])) (sSeq (sAsg 5 (mCall 278 [mVar 0, mCon (.int (2))] [])) (sSeq (sAsg 6 (mCall 278 [mVar 0, mBin (fun _ => vBin .Add) (.ev (mCon (.int (2)))) (.ev (mBin (fun _ => vBin .Mult) (.ev (mCon (.int (3)))) (.ev (mBin (fun _ => vBin .Mod) (.ev (mCall 200 [mVar 0, mCon (.int (0))] [])) (.ev (mCon (.int (2))))))))] [])) (sSeq p6 (sSeq p7 lrest)))))))⟩
structure Has (T : Nat → Option FnDef) : Prop extends HasDue T, HasDraw T, HasEq T where
  drawn : T 205 = some d__law_drawn
  law : T 213 = some d_law
structure S28 (ob : List Ob) (B : Bk) (R : List PyData) (B' : Bk) (R' : List PyData) (C : Bk) (Q : List PyData) (C' : Bk) (Q' : List PyData) : Prop where
  m0 : ob[0]? = some (.ins "Book" [("told", .obj 1), ("rows", .obj 2)])
  t0 : ob[1]? = some (.lst (B.map lnB))
  r0 : ob[2]? = some (.lst R)
  m1 : ob[3]? = some (.ins "Book" [("told", .obj 4), ("rows", .obj 5)])
  t1 : ob[4]? = some (.lst (C.map lnB))
  r1 : ob[5]? = some (.lst Q)
  u0 : ob[6]? = some (.lst (B'.map lnB))
  u1 : ob[7]? = some (.lst (C'.map lnB))
  mx : ob[8]? = some (.mix [.obj 6, .obj 7])
  v0 : ob[9]? = some (.lst R')
  v1 : ob[10]? = some (.lst Q')
  my : ob[11]? = some (.mix [.obj 9, .obj 10])
/-- the lists' things -/
structure I28 (B : Bk) (R : List PyData) (k : Nat) : Prop where
  i : Inv27 B R k
  nd : (B.map (·.1)).Nodup
theorem I28.up {B : Bk} {R : List PyData} {k : Nat} (I : I28 B R k) : I28 B R (k + 1) := ⟨inv_same I.i, I.nd⟩
theorem I28.out {B : Bk} {R : List PyData} {k : Nat} (I : I28 B R k) (d : Dd) (h1 : ddOk d) (h2 : ddRf d) : I28 (outD B R d).2.1 (outD B R d).2.2 (k + 1) := ⟨(out_inv I.i d h1 h2).1, out_nodup d I.nd⟩
section
variable {T : Nat → Option FnDef} {ns : List Int} {ob : List Ob} {B B' C C' : Bk} {R R' Q Q' : List PyData} {d1 d2 : List Dd}
def St (ns : List Int) (ob : List Ob) (d1 d2 : List Dd) (o7 o8 : Option Val) : S := ⟨[some (.scr ns), some (.obj 0), some (.obj 3), some (.obj 8), some (.obj 11), some (.own (d1.map ddD)), some (.own (d2.map ddD)), o7, o8, none, none, none, none, none], ob⟩
theorem S28.set0 (S : S28 ob B R B' R' C Q C' Q') {D : Bk} {P : List PyData} : S28 (setB ob 1 2 D P) D P B' R' C Q C' Q' :=
  ⟨by rw [setB_ne (by decide) (by decide)]; exact S.m0, setB_i (by decide) S.t0, setB_j (by decide) S.r0, by rw [setB_ne (by decide) (by decide)]; exact S.m1, by rw [setB_ne (by decide) (by decide)]; exact S.t1, by rw [setB_ne (by decide) (by decide)]; exact S.r1,
    by rw [setB_ne (by decide) (by decide)]; exact S.u0, by rw [setB_ne (by decide) (by decide)]; exact S.u1, by rw [setB_ne (by decide) (by decide)]; exact S.mx, by rw [setB_ne (by decide) (by decide)]; exact S.v0, by rw [setB_ne (by decide) (by decide)]; exact S.v1, by rw [setB_ne (by decide) (by decide)]; exact S.my⟩
theorem S28.set1 (S : S28 ob B R B' R' C Q C' Q') {D : Bk} {P : List PyData} : S28 (setB ob 4 5 D P) B R B' R' D P C' Q' :=
  ⟨by rw [setB_ne (by decide) (by decide)]; exact S.m0, by rw [setB_ne (by decide) (by decide)]; exact S.t0, by rw [setB_ne (by decide) (by decide)]; exact S.r0, by rw [setB_ne (by decide) (by decide)]; exact S.m1, setB_i (by decide) S.t1, setB_j (by decide) S.r1,
    by rw [setB_ne (by decide) (by decide)]; exact S.u0, by rw [setB_ne (by decide) (by decide)]; exact S.u1, by rw [setB_ne (by decide) (by decide)]; exact S.mx, by rw [setB_ne (by decide) (by decide)]; exact S.v0, by rw [setB_ne (by decide) (by decide)]; exact S.v1, by rw [setB_ne (by decide) (by decide)]; exact S.my⟩
theorem S28.set2 (S : S28 ob B R B' R' C Q C' Q') {D : Bk} {P : List PyData} : S28 (setB ob 6 9 D P) B R D P C Q C' Q' :=
  ⟨by rw [setB_ne (by decide) (by decide)]; exact S.m0, by rw [setB_ne (by decide) (by decide)]; exact S.t0, by rw [setB_ne (by decide) (by decide)]; exact S.r0, by rw [setB_ne (by decide) (by decide)]; exact S.m1, by rw [setB_ne (by decide) (by decide)]; exact S.t1, by rw [setB_ne (by decide) (by decide)]; exact S.r1,
    setB_i (by decide) S.u0, by rw [setB_ne (by decide) (by decide)]; exact S.u1, by rw [setB_ne (by decide) (by decide)]; exact S.mx, setB_j (by decide) S.v0, by rw [setB_ne (by decide) (by decide)]; exact S.v1, by rw [setB_ne (by decide) (by decide)]; exact S.my⟩
theorem S28.set3 (S : S28 ob B R B' R' C Q C' Q') {D : Bk} {P : List PyData} : S28 (setB ob 7 10 D P) B R B' R' C Q D P :=
  ⟨by rw [setB_ne (by decide) (by decide)]; exact S.m0, by rw [setB_ne (by decide) (by decide)]; exact S.t0, by rw [setB_ne (by decide) (by decide)]; exact S.r0, by rw [setB_ne (by decide) (by decide)]; exact S.m1, by rw [setB_ne (by decide) (by decide)]; exact S.t1, by rw [setB_ne (by decide) (by decide)]; exact S.r1,
    by rw [setB_ne (by decide) (by decide)]; exact S.u0, setB_i (by decide) S.u1, by rw [setB_ne (by decide) (by decide)]; exact S.mx, by rw [setB_ne (by decide) (by decide)]; exact S.v0, setB_j (by decide) S.v1, by rw [setB_ne (by decide) (by decide)]; exact S.my⟩
theorem S28.app (S : S28 ob B R B' R' C Q C' Q') (l : List Ob) : S28 (ob ++ l) B R B' R' C Q C' Q' := by
  have a : ∀ {k : Nat} {o : Ob}, ob[k]? = some o → (ob ++ l)[k]? = some o := fun {k o} h => by
    rw [List.getElem?_append_left (List.getElem?_eq_some_iff.mp h).1]
    exact h
  exact ⟨a S.m0, a S.t0, a S.r0, a S.m1, a S.t1, a S.r1, a S.u0, a S.u1, a S.mx, a S.v0, a S.v1, a S.my⟩
theorem S28.b0 (S : S28 ob B R B' R' C Q C' Q') {k : Nat} (I : I28 B R k) (hk : k ≤ 1000) : BkAt ob 0 1 2 B R := ⟨S.m0, S.t0, S.r0, Nat.le_trans I.i.bl hk, Nat.le_trans I.i.rl hk⟩
theorem S28.b1 (S : S28 ob B R B' R' C Q C' Q') {k : Nat} (I : I28 C Q k) (hk : k ≤ 1000) : BkAt ob 3 4 5 C Q := ⟨S.m1, S.t1, S.r1, Nat.le_trans I.i.bl hk, Nat.le_trans I.i.rl hk⟩
theorem S28.w0 (S : S28 ob B R B' R' C Q C' Q') {k : Nat} (I : I28 B' R' k) (hk : k ≤ 1000) : TwoAt ob 6 9 B' R' := ⟨S.u0, S.v0, by decide, Nat.le_trans I.i.bl hk, Nat.le_trans I.i.rl hk, I.i.ok, I.i.lv⟩
theorem S28.w1 (S : S28 ob B R B' R' C Q C' Q') {k : Nat} (I : I28 C' Q' k) (hk : k ≤ 1000) : TwoAt ob 7 10 C' Q' := ⟨S.u1, S.v1, by decide, Nat.le_trans I.i.bl hk, Nat.le_trans I.i.rl hk, I.i.ok, I.i.lv⟩
theorem idx_dd (ds : List Dd) (t : Nat) (d : Dd) (h : ds[t]? = some d) : atI (ds.map ddD) (t : Int) = some (ddD d) := by
  apply atI_nat
  rw [List.getElem?_map, h]
  rfl
theorem eq_rf (cs : Cs) {e : PyData} (h : rfD e) (hl : 10 ≤ cs.lv) : vEq cs (.dat e) (.dat e) = some true := by
  rw [vEq_dat, h.1]
  have := h.2
  unfold rm
  omega
theorem a1 (H : Has T) (S : S28 ob B R B R C Q C Q) {k : Nat} (I : I28 B R k) (hk : k ≤ 500) (ok : ∀ d ∈ d1, ddOk d ∧ ddRf d) (t : Nat) (m : Nat) (hm : 220 ≤ m) (o8 : Option Val) (cont : M Fl) :
    ∃ ob1 B1 R1, (sSeq la cont) (sem T m) (St ns ob d1 d2 (some (.dat (.int t))) o8) = cont (sem T m) (St ns ob1 d1 d2 (some (.dat (.int t))) o8) ∧ S28 ob1 B1 R1 B1 R1 C Q C Q ∧ I28 B1 R1 (k + 1) := by
  by_cases ht : t < d1.length
  · have ht' : (t : Int) < (d1.length : Int) := by omega
    have hd : d1[t]? = some d1[t] := List.getElem?_eq_getElem ht
    obtain ⟨h1, h2⟩ := ok _ (List.getElem_mem ht)
    generalize d1[t] = d at hd h1 h2
    have hi := idx_dd d1 t d hd
    have r1 := r_bdeed H.toHasDeeds (S.b0 I (by omega)) (by decide) I.i.ok d h1 m (by omega)
    have S1 : S28 (setB ob 1 2 (outD B R d).2.1 (outD B R d).2.2) (outD B R d).2.1 (outD B R d).2.2 B R C Q C Q := S.set0
    have r2 := r_due H.toHasDue (S1.w0 I (by omega)) d h1 m (by omega)
    have S2 : S28 (setB (setB ob 1 2 (outD B R d).2.1 (outD B R d).2.2) 6 9 (outD B R d).2.1 (outD B R d).2.2) (outD B R d).2.1 (outD B R d).2.2 (outD B R d).2.1 (outD B R d).2.2 C Q C Q := S1.set2
    obtain ⟨_, hv, hr⟩ := out_inv I.i d h1 h2
    have I1 := I.out d h1 h2
    have sm := see_mix S1.mx
    have sy := see_mix S1.my
    have mx := S1.mx
    have my := S1.my
    generalize setB (setB ob 1 2 (outD B R d).2.1 (outD B R d).2.2) 6 9 (outD B R d).2.1 (outD B R d).2.2 = ob2 at r2 S2
    generalize setB ob 1 2 (outD B R d).2.1 (outD B R d).2.2 = ob1 at r1 r2 sm sy mx my
    generalize (outD B R d).1 = v at r1 r2 hv hr
    refine ⟨ob2, _, _, ?_, S2, I1⟩
    have e := eq_rf (sem T m) hr (by rw [sem_lv]; omega)
    have ef := frz_V hv
    unfold la St
    simp [ht', ht, hi, r1, r2, mIdxM, ev2, ev1, sm, sy, mx, my, ef, e]
  · have ht' : ¬ (t : Int) < (d1.length : Int) := by omega
    refine ⟨ob, B, R, ?_, S, I.up⟩
    unfold la St
    simp [ht', ht]
theorem a2 (H : Has T) (S : S28 ob B R B R C Q C Q) {k : Nat} (I : I28 C Q k) (hk : k ≤ 500) (ok : ∀ d ∈ d2, ddOk d ∧ ddRf d) (t : Nat) (m : Nat) (hm : 220 ≤ m) (o8 : Option Val) (cont : M Fl) :
    ∃ ob1 C1 Q1, (sSeq lc cont) (sem T m) (St ns ob d1 d2 (some (.dat (.int t))) o8) = cont (sem T m) (St ns ob1 d1 d2 (some (.dat (.int t))) o8) ∧ S28 ob1 B R B R C1 Q1 C1 Q1 ∧ I28 C1 Q1 (k + 1) := by
  obtain ⟨p, rfl⟩ : ∃ p, m = p + 1 := ⟨m - 1, by omega⟩
  have rc := r_cell H.toHasRow.cell ns 1 (by decide) p ob
  by_cases ht : t < d2.length
  · have ht' : (t : Int) < (d2.length : Int) := by omega
    by_cases h5 : 0 < ((t : Int) + cellOf ns 1) % 5
    · have hd : d2[t]? = some d2[t] := List.getElem?_eq_getElem ht
      obtain ⟨h1, h2⟩ := ok _ (List.getElem_mem ht)
      generalize d2[t] = d at hd h1 h2
      have hi := idx_dd d2 t d hd
      have r1 := r_bdeed H.toHasDeeds (S.b1 I (by omega)) (by decide) I.i.ok d h1 (p + 1) (by omega)
      have S1 : S28 (setB ob 4 5 (outD C Q d).2.1 (outD C Q d).2.2) B R B R (outD C Q d).2.1 (outD C Q d).2.2 C Q := S.set1
      have r2 := r_due H.toHasDue (S1.w1 I (by omega)) d h1 (p + 1) (by omega)
      have S2 : S28 (setB (setB ob 4 5 (outD C Q d).2.1 (outD C Q d).2.2) 7 10 (outD C Q d).2.1 (outD C Q d).2.2) B R B R (outD C Q d).2.1 (outD C Q d).2.2 (outD C Q d).2.1 (outD C Q d).2.2 := S1.set3
      obtain ⟨_, hv, hr⟩ := out_inv I.i d h1 h2
      have I1 := I.out d h1 h2
      have sm := see_mix S1.mx
      have sy := see_mix S1.my
      have mx := S1.mx
      have my := S1.my
      generalize setB (setB ob 4 5 (outD C Q d).2.1 (outD C Q d).2.2) 7 10 (outD C Q d).2.1 (outD C Q d).2.2 = ob2 at r2 S2
      generalize setB ob 4 5 (outD C Q d).2.1 (outD C Q d).2.2 = ob1 at r1 r2 sm sy mx my
      generalize (outD C Q d).1 = v at r1 r2 hv hr
      refine ⟨ob2, _, _, ?_, S2, I1⟩
      have e := eq_rf (sem T (p + 1)) hr (by rw [sem_lv]; omega)
      have ef := frz_V hv
      unfold lc St
      simp [ht', ht, rc, h5, hi, r1, r2, mIdxM, ev2, ev1, sm, sy, mx, my, ef, e]
    · refine ⟨ob, C, Q, ?_, S, I.up⟩
      unfold lc St
      simp [ht', ht, rc, h5]
  · have ht' : ¬ (t : Int) < (d2.length : Int) := by omega
    refine ⟨ob, C, Q, ?_, S, I.up⟩
    unfold lc St
    simp [ht', ht]
theorem a3 (S : S28 ob B R B R C Q C Q) {k q : Nat} (I : I28 B R k) (J : I28 C Q q) (hk : k ≤ 1000) (hq : q ≤ 1000) (t : Nat) (m : Nat) (hm : 220 ≤ m) (o8 : Option Val) (cont : M Fl) :
    (sSeq ls cont) (sem T m) (St ns ob d1 d2 (some (.dat (.int t))) o8) = cont (sem T m) (St ns ob d1 d2 (some (.dat (.int t))) (some (.dat (.bool (sameB B C))))) := by
  have hs : B.length ≤ 1000 := Nat.le_trans I.i.bl hk
  have sm := see_mix S.mx
  have s0 := see_l S.u0
  have s1 := see_l S.u1
  have lq := live_fil (cs := sem T m) (n := 6) (tg := .nm 13) (own := [13]) B lnB (t := bVal (mBin (oCmp .NotIn) (.pk 13) (.ev (mIdxM (.pk 3) (.ev (mCon (.int (1)))))))) (elt := mVar 13) (fun p => !decide (p ∈ C)) lnB
    ⟨[some (.scr ns), some (.obj 0), some (.obj 3), some (.obj 8), some (.obj 11), some (.own (d1.map ddD)), some (.own (d2.map ddD)), some (.dat (.int t)), o8, none, none, none, none, none], ob⟩ (fun p => ⟨[some (.scr ns), some (.obj 0), some (.obj 3), some (.obj 8), some (.obj 11), some (.own (d1.map ddD)), some (.own (d2.map ddD)), some (.dat (.int t)), o8, none, none, none, none, some (.dat (lnB p))], ob⟩)
    S.u0 (fun p _ => by simp) (fun p hp => by
      have hin := in_bk (C := C) (sem T m) p (I.i.ok p hp) J.i.ok (I.i.lv p hp) (by rw [sem_lv]; omega)
      simp [mIdxM, ev2, ev1, sm, S.mx, s1, hin]) (fun p _ _ => by simp) (fun p _ => by simp) B 0 [] wFuel rfl (x_fuel hs) (by simpa using x_big hs)
  rw [sameB_iff I.nd J.nd]
  have em : ((B.filter fun p => !decide (p ∈ C)).map lnB).isEmpty = (B.filter fun p => !decide (p ∈ C)).isEmpty := by cases B.filter fun p => !decide (p ∈ C) <;> rfl
  simp only [List.nil_append] at lq
  generalize hL : (B.filter fun p => !decide (p ∈ C)).map lnB = L at lq em
  generalize (B.filter fun p => !decide (p ∈ C)).isEmpty = u at em
  have hb : (B.map lnB).length = B.length := by simp
  have hc : (C.map lnB).length = C.length := by simp
  unfold ls St
  by_cases hl : B.length = C.length
  · have e : (PyData.int (B.length : Int)).eqv (.int (C.length : Int)) = true := by rw [eqi, hl]; simp
    have e' : (PyData.int (C.length : Int)).eqv (.int (C.length : Int)) = true := by rw [eqi]; simp
    simp [mIdxM, ev2, ev1, sm, S.mx, s0, s1, hb, hc, e, e', mCompO, lq, eqv_nil, em, hl]
  · have e : (PyData.int (B.length : Int)).eqv (.int (C.length : Int)) = false := by
      rw [eqi]
      simp
      omega
    simp [mIdxM, ev2, ev1, sm, S.mx, s0, s1, hb, hc, e, hl]
theorem see_ins {ob : List Ob} {k : Nat} {c : Str} {fs : List (Str × Val)} (h : ob[k]? = some (.ins c fs)) : see ob (.obj k) = .obj k := by
  unfold see
  simp [h]
theorem same_comm (B C : Bk) : sameB C B = sameB B C := by
  unfold sameB
  by_cases h : sortK B = sortK C
  · simp [h]
  · have h' : ¬ sortK C = sortK B := fun z => h z.symm
    simp [h, h']
theorem eqb_rf (b : Bool) (cs : Cs) : vEq cs (.dat (.bool b)) (.dat (.bool b)) = some true := by
  rw [vEq_dat]
  · simp [PyData.eqv]
  · simp [PyData.depth]
theorem a4 (H : Has T) (S : S28 ob B R B R C Q C Q) {k q : Nat} (I : I28 B R k) (J : I28 C Q q) (hk : k ≤ 60) (hq : q ≤ 60) (t : Nat) (m : Nat) (hm : 220 ≤ m) :
    le (sem T m) (St ns ob d1 d2 (some (.dat (.int t))) (some (.dat (.bool (sameB B C))))) = .ok .nx (St ns ob d1 d2 (some (.dat (.int t))) (some (.dat (.bool (sameB B C))))) := by
  obtain ⟨p, rfl⟩ : ∃ p, m = p + 3 := ⟨m - 3, by omega⟩
  have r1 := b_eq H.toHasEq (S.b0 I (by omega)) (S.b1 J (by omega)) I.i.ok J.i.ok I.i.lv J.i.lv I.nd J.nd (by have := I.i.bl; omega) (by have := J.i.bl; omega) p
  have r2 := b_eq H.toHasEq (S.b1 J (by omega)) (S.b0 I (by omega)) J.i.ok I.i.ok J.i.lv I.i.lv J.nd I.nd (by have := J.i.bl; omega) (by have := I.i.bl; omega) p
  rw [same_comm] at r2
  generalize sameB B C = u at r1 r2 ⊢
  have z1 := see_ins S.m0
  have z2 := see_ins S.m1
  have ee : (PyData.bool u).eqv (.bool u) = true := by simp [PyData.eqv]
  unfold le St
  simp [mEqO, ev2, ev1, z1, z2, S.m0, S.m1, okR, r1, r2, ee]
theorem turn (H : Has T) (S : S28 ob B R B R C Q C Q) {k : Nat} (I : I28 B R k) (J : I28 C Q k) (hk : k ≤ 50) (ok1 : ∀ d ∈ d1, ddOk d ∧ ddRf d) (ok2 : ∀ d ∈ d2, ddOk d ∧ ddRf d) (t : Nat) (m : Nat) (hm : 220 ≤ m) (o8 : Option Val) :
    ∃ ob1 B1 R1 C1 Q1 o, lb (sem T m) (St ns ob d1 d2 (some (.dat (.int t))) o8) = .ok .nx (St ns ob1 d1 d2 (some (.dat (.int t))) o) ∧ S28 ob1 B1 R1 B1 R1 C1 Q1 C1 Q1 ∧ I28 B1 R1 (k + 1) ∧ I28 C1 Q1 (k + 1) := by
  obtain ⟨ob1, B1, R1, e1, S1, I1⟩ := a1 (ns := ns) (d2 := d2) H S I (by omega) ok1 t m hm o8 (sSeq lc (sSeq ls le))
  obtain ⟨ob2, C1, Q1, e2, S2, J1⟩ := a2 (ns := ns) (d1 := d1) H S1 J (by omega) ok2 t m hm o8 (sSeq ls le)
  have e3 := a3 (T := T) (ns := ns) (d1 := d1) (d2 := d2) S2 I1 J1 (by omega) (by omega) t m hm o8 le
  have e4 := a4 (ns := ns) (d1 := d1) (d2 := d2) H S2 I1 J1 (by omega) (by omega) t m hm
  refine ⟨ob2, B1, R1, C1, Q1, some (.dat (.bool (sameB B1 C1))), ?_, S2, I1, J1⟩
  unfold lb
  rw [e1, e2, e3, e4]
theorem loop (H : Has T) (m : Nat) (hm : 220 ≤ m) (ok1 : ∀ d ∈ d1, ddOk d ∧ ddRf d) (ok2 : ∀ d ∈ d2, ddOk d ∧ ddRf d) : ∀ (n j : Nat) (ob : List Ob) (B C : Bk) (R Q : List PyData) (k : Nat) (o7 o8 : Option Val), S28 ob B R B R C Q C Q → I28 B R k → I28 C Q k → k + n ≤ 50 →
    ∃ ob1 B1 R1 C1 Q1 o7' o8', forLoop (.nm 7) lb (sem T m) ((List.range' j n).map fun (z : Nat) => PyData.int (0 + z)) (St ns ob d1 d2 o7 o8) = .ok .nx (St ns ob1 d1 d2 o7' o8') ∧ S28 ob1 B1 R1 B1 R1 C1 Q1 C1 Q1 ∧ I28 B1 R1 50 ∧ I28 C1 Q1 50
  | 0, j, ob, B, C, R, Q, k, o7, o8, S, I, J, hk => by
    refine ⟨ob, B, R, C, Q, o7, o8, by simp, S, ⟨⟨I.i.ok, I.i.lv, I.i.nm, ?_, ?_, I.i.rr⟩, I.nd⟩, ⟨⟨J.i.ok, J.i.lv, J.i.nm, ?_, ?_, J.i.rr⟩, J.nd⟩⟩
    · have := I.i.bl; omega
    · have := I.i.rl; omega
    · have := J.i.bl; omega
    · have := J.i.rl; omega
  | n + 1, j, ob, B, C, R, Q, k, o7, o8, S, I, J, hk => by
    obtain ⟨ob1, B1, R1, C1, Q1, o, e, S1, I1, J1⟩ := turn (ns := ns) H S I J (by omega) ok1 ok2 j m hm o8
    obtain ⟨ob2, B2, R2, C2, Q2, o7', o8', e2, S2, I2, J2⟩ := loop H m hm ok1 ok2 n (j + 1) ob1 B1 C1 R1 Q1 (k + 1) (some (.dat (.int j))) o S1 I1 J1 (by omega)
    refine ⟨ob2, B2, R2, C2, Q2, o7', o8', ?_, S2, I2, J2⟩
    rw [nums_go, x_for_cons]
    have et : tgPut (.nm 7) (.int j) (St ns ob d1 d2 o7 o8) = some (St ns ob d1 d2 (some (.dat (.int j))) o8) := by
      unfold St
      simp
    rw [et]
    simp only
    rw [e]
    exact e2
def jnk (n : Nat) : List Ob := [.ins "Book" [("told", .obj (n + 1)), ("rows", .obj (n + 2))], .lst [], .lst []]
theorem new_no (H : Has T) (d : PyData) (hd : (∃ x, d = .str x) ∨ (∃ x, d = .int x) ∨ ∃ x, d = .list x) (g : M Val) (v : Val) (m : Nat) (hg : ∀ s, g (sem T (m + 2)) s = .ok v s) (hv : frz v = .dat d) (s : S) :
    bVal (mEqO "Book" 152 (.ev (mNew "Book" 150)) (.ev g)) (sem T (m + 2)) s = .ok false { s with ob := s.ob ++ jnk s.ob.length } := by
  have r := r_new H.bini m s
  have rn := b_eq_no H.toHasEq d hd (m + 1) (s.ob ++ jnk s.ob.length) s.ob.length
  have hi : (s.ob ++ jnk s.ob.length)[s.ob.length]? = some (.ins "Book" [("told", .obj (s.ob.length + 1)), ("rows", .obj (s.ob.length + 2))]) := by
    unfold jnk
    simp
  have z := see_ins hi
  have hok : okR "Book" (s.ob ++ jnk s.ob.length) (.dat d) = true := by rcases hd with ⟨x, rfl⟩ | ⟨x, rfl⟩ | ⟨x, rfl⟩ <;> rfl
  have r : mNew "Book" 150 (sem T (m + 2)) s = .ok (.obj s.ob.length) { s with ob := s.ob ++ jnk s.ob.length } := r
  generalize jnk s.ob.length = J at *
  simp [mEqO, ev2, ev1, r, hg, hv, z, hi, hok, rn]
theorem e8 (H : Has T) (ob : List Ob) (o7 o8 : Option Val) (m : Nat) (hm : 220 ≤ m) (cont : M Fl) : ∃ l, (sSeq q8 cont) (sem T m) (St ns ob d1 d2 o7 o8) = cont (sem T m) (St ns (ob ++ l) d1 d2 o7 o8) := by
  obtain ⟨p, rfl⟩ : ∃ p, m = p + 2 := ⟨m - 2, by omega⟩
  have n1 := fun s => new_no H (.str "") (.inl ⟨_, rfl⟩) (mCon (.str "")) (.dat (.str "")) p (fun s => by simp) rfl s
  have n2 := fun s => new_no H (.int 0) (.inr (.inl ⟨_, rfl⟩)) (mCon (.int 0)) (.dat (.int 0)) p (fun s => by simp) rfl s
  have n3 := fun s => new_no H (.list []) (.inr (.inr ⟨_, rfl⟩)) (mLst []) (.own []) p (fun s => by simp) rfl s
  refine ⟨jnk ob.length ++ (jnk (ob ++ jnk ob.length).length ++ jnk ((ob ++ jnk ob.length) ++ jnk (ob ++ jnk ob.length).length).length), ?_⟩
  unfold q8 St
  show ((sIf _ _ _ (sem T (p + 2)) _).bnd _) = _
  have e : (bOr (bVal (mEqO "Book" 152 (.ev (mNew "Book" 150)) (.ev (mCon (.str ""))))) (bOr (bVal (mEqO "Book" 152 (.ev (mNew "Book" 150)) (.ev (mCon (.int (0)))))) (bVal (mEqO "Book" 152 (.ev (mNew "Book" 150)) (.ev (mLst [])))))) (sem T (p + 2)) ⟨[some (.scr ns), some (.obj 0), some (.obj 3), some (.obj 8), some (.obj 11), some (.own (d1.map ddD)), some (.own (d2.map ddD)), o7, o8, none, none, none, none, none], ob⟩ = .ok false ⟨[some (.scr ns), some (.obj 0), some (.obj 3), some (.obj 8), some (.obj 11), some (.own (d1.map ddD)), some (.own (d2.map ddD)), o7, o8, none, none, none, none, none], ob ++ (jnk ob.length ++ (jnk (ob ++ jnk ob.length).length ++ jnk ((ob ++ jnk ob.length) ++ jnk (ob ++ jnk ob.length).length).length))⟩ := by
    have ba : ∀ (f g : M Bool) (s s1 : S), f (sem T (p + 2)) s = .ok false s1 → (bOr f g) (sem T (p + 2)) s = g (sem T (p + 2)) s1 := fun f g s s1 h => by
      show ((f (sem T (p + 2)) s).bnd _) = _
      rw [h]
      rfl
    rw [ba _ _ _ _ (n1 _), ba _ _ _ _ (n2 _), n3]
    simp only [List.append_assoc]
  have si : ∀ (b : M Bool) (f g : M Fl) (s s1 : S), b (sem T (p + 2)) s = .ok false s1 → (sIf b f g) (sem T (p + 2)) s = g (sem T (p + 2)) s1 := fun b f g s s1 h => by
    show ((b (sem T (p + 2)) s).bnd _) = _
    rw [h]
    rfl
  rw [si _ _ _ _ _ e]
  rfl
theorem e9 (H : Has T) (S : S28 ob B R B R C Q C Q) (I : I28 B R 50) (o7 o8 : Option Val) (m : Nat) (hm : 220 ≤ m) (cont : M Fl) : (sSeq q9 cont) (sem T m) (St ns ob d1 d2 o7 o8) = cont (sem T m) (St ns ob d1 d2 o7 o8) := by
  obtain ⟨p, rfl⟩ : ∃ p, m = p + 3 := ⟨m - 3, by omega⟩
  have A := S.b0 I (by omega)
  have r1 := b_str H.bstr A I.i.nm (p + 1)
  have lw : (sem T (p + 3)).low 153 [.obj 0] ob = .ok (.dat (.str (Txt.join " " (B.map (·.1))))) ob := by rw [sem_low]; exact r1
  have r2 := b_eq_no H.toHasEq (.str (Txt.join " " (B.map (·.1)))) (.inl ⟨_, rfl⟩) (p + 2) ob 0
  have r3 := b_eq H.toHasEq A A I.i.ok I.i.ok I.i.lv I.i.lv I.nd I.nd (by have := I.i.bl; omega) (by have := I.i.bl; omega) p
  have e3 : sameB B B = true := by unfold sameB; simp
  rw [e3] at r3
  have z := see_ins S.m0
  generalize Txt.join " " (B.map (·.1)) = J at lw r2
  unfold q9 St
  simp [mEqO, ev2, ev1, z, S.m0, mOwn, lw, kStr, okR, r2, r3]
def St2 (ns : List Int) (ob : List Ob) (d1 d2 : List Dd) (o7 o8 : Option Val) (t u : Tm) (o11 o12 : Option Val) : CH.S := ⟨[some (.scr ns), some (.obj 0), some (.obj 3), some (.obj 8), some (.obj 11), some (.own (d1.map ddD)), some (.own (d2.map ddD)), o7, o8, some (.dat (tD t)), some (.dat (tD u)), o11, o12, none], ob⟩
theorem e10 (H : Has T) (S : S28 ob B R B R C Q C Q) (I : I28 B R 50) (o7 o8 : Option Val) (m : Nat) (hm : 220 ≤ m) (cont : M Fl) : ∃ t : Tm, t.ok = true ∧ t.lv ≤ 44 ∧ t.dep ≤ 12 ∧ (sSeq q10 (sSeq q11 cont)) (sem T m) (St ns ob d1 d2 o7 o8) = cont (sem T m) (St2 ns ob d1 d2 o7 o8 t (spreadT B t) none none) := by
  obtain ⟨t, h1, h2, h3, r1⟩ := r_drawn2 (T := T) { toHasRow := H.toHasRow, lleaf := H.lleaf, grown := H.grown, drawn := H.drawn } ns 4 m ob (by omega)
  refine ⟨t, h1, h2, h3, ?_⟩
  have r2 := r_lspread H.lspread S.u0 (by have := I.i.bl; omega) t m (by omega)
  have sm := see_mix S.mx
  simp only [Int.cast_ofNat_Int] at r1
  unfold q10 q11 St St2
  simp [r1, r2, mIdxM, ev2, ev1, sm, S.mx]
theorem e12 (H : Has T) (S : S28 ob B R B R C Q C Q) (I : I28 B R 50) (o7 o8 : Option Val) (t : Tm) (h1 : t.ok = true) (h2 : t.lv ≤ 44) (h3 : t.dep ≤ 12) (m : Nat) (hm : 220 ≤ m) (cont : M Fl) : ∃ ob1 R1, (sSeq q12 cont) (sem T m) (St2 ns ob d1 d2 o7 o8 t (spreadT B t) none none) = cont (sem T m) (St2 ns ob1 d1 d2 o7 o8 t (spreadT B t) none none) ∧ S28 ob1 B R1 B R C Q C Q ∧ I28 B R1 51 := by
  have A := S.b0 I (by omega)
  have sd := spread_dep I.i.lv t
  have rl := r_law_leaves H.lleaves (spreadT B t) m ob (by omega)
  have so := spread_ok I.i.ok t h1
  by_cases hc : (spreadT B t).lv ≤ 200
  · have hc' : ((spreadT B t).lv : Int) ≤ 200 := by omega
    have r1 := b_spread H.toHasBook A I.i.ok t h1 (by omega) m (by omega)
    rw [if_pos hc] at r1
    have r2 := bk_play H.toHasBook A I.i.ok t 5 (by omega) h1 (by omega) hc m (by omega)
    have S1 : S28 (ob.set 2 (.lst (R ++ [rowD3 (spreadT B t) 5]))) B (R ++ [rowD3 (spreadT B t) 5]) B R C Q C Q := by
      have e : setB ob 1 2 B (R ++ [rowD3 (spreadT B t) 5]) = ob.set 2 (.lst (R ++ [rowD3 (spreadT B t) 5])) := setB_r _ S.t0
      rw [← e]
      exact S.set0
    have I1 : Inv27 B (R ++ [rowD3 (spreadT B t) 5]) 51 := row_inv I.i (spreadT B t) 5 so hc
    refine ⟨_, _, ?_, S1, ⟨I1, I.nd⟩⟩
    have r3 := r_played H.toHasSteps H.played (spreadT B t) 5 m (ob.set 2 (.lst (R ++ [rowD3 (spreadT B t) 5]))) so hc (by omega) (by omega)
    obtain ⟨p1, p2⟩ := play_ok 5 (spreadT B t) so hc
    have q1 := eq_rf (sem T m) (rf_tm so hc) (by rw [sem_lv]; omega)
    have q2 := eq_rf (sem T m) (rf_tm p1 p2) (by rw [sem_lv]; omega)
    simp only [Int.cast_ofNat_Int] at r2 r3
    generalize ob.set 2 (.lst (R ++ [rowD3 (spreadT B t) 5])) = ob1 at r2 r3 ⊢
    generalize playT 5 (spreadT B t) = pl at r2 r3 q2
    unfold q12 St2
    simp [rl, hc, hc', mMeth, A.me, lk_spread, lk_play, r1, q1, r2, r3, q2]
  · have hc' : ¬ ((spreadT B t).lv : Int) ≤ 200 := by omega
    refine ⟨ob, R, ?_, S, I.up⟩
    unfold q12 St2
    simp [rl, hc, hc']
theorem look_last (B : Bk) (p : Str × Tm) (hn : ((B ++ [p]).map (·.1)).Nodup) : lookT (B ++ [p]) (.str p.1) = some p.2 := by
  unfold lookT
  have h0 : B.find? (fun q => (PyData.str q.1).eqv (.str p.1)) = none := by
    rw [List.find?_eq_none]
    intro q hq z
    have e : q.1 = p.1 := by simpa [PyData.eqv] using z
    rw [List.map_append, List.nodup_append] at hn
    exact hn.2.2 q.1 (List.mem_map.mpr ⟨q, hq, rfl⟩) p.1 (by simp) e
  rw [List.find?_append, h0]
  simp [PyData.eqv]
/-- the books' lists as they shrink -/
theorem e13 (H : Has T) (m : Nat) (hm : 220 ≤ m) (o7 o8 : Option Val) (t u : Tm) : ∀ (k : Nat) (B D : Bk) (ob : List Ob) (R : List PyData) (o11 o12 : Option Val), B.length = k → S28 ob B R D R' C Q C Q → I28 B R 51 →
    ∃ ob1 o11' o12', forLoop (.tup [(.nm 11), (.nm 12)]) lf (sem T m) (B.map lnB).reverse (St2 ns ob d1 d2 o7 o8 t u o11 o12) = .ok .nx (St2 ns ob1 d1 d2 o7 o8 t u o11' o12') ∧ S28 ob1 [] R D R' C Q C Q
  | 0, B, D, ob, R, o11, o12, hk, S, I => by
    have e : B = [] := List.eq_nil_of_length_eq_zero hk
    subst e
    exact ⟨ob, o11, o12, by simp, S⟩
  | k + 1, B, D, ob, R, o11, o12, hk, S, I => by
    rcases last_split B with e | ⟨B', p, e⟩
    · subst e; simp at hk
    · subst e
      have A := S.b0 I (by omega)
      obtain ⟨q, rfl⟩ : ∃ q, m = q + 3 := ⟨m - 3, by omega⟩
      have r1 := b_term H.bterm A (.str p.1) q
      rw [look_last B' p I.nd] at r1
      have r2 := b_forget H.bforget p A (q + 2)
      have S1 : S28 (ob.set 1 (.lst (B'.map lnB))) B' R D R' C Q C Q := by
        have e : setB ob 1 2 B' R = ob.set 1 (.lst (B'.map lnB)) := setB_l B' (by decide) S.r0
        rw [← e]
        exact S.set0
      have mem : ∀ {P : Str × Tm → Prop}, (∀ x ∈ B' ++ [p], P x) → ∀ x ∈ B', P x := fun h x hx => h x (List.mem_append_left _ hx)
      have I1 : I28 B' R 51 := by
        refine ⟨⟨mem I.i.ok, mem I.i.lv, mem I.i.nm, ?_, I.i.rl, I.i.rr⟩, ?_⟩
        · have := I.i.bl
          rw [List.length_append] at this
          omega
        · have := I.nd
          rw [List.map_append, List.nodup_append] at this
          exact this.1
      obtain ⟨ob2, o11', o12', e2, S2⟩ := e13 H (q + 3) hm o7 o8 t u k B' D _ R (some (.dat (.str p.1))) (some (.dat (tD p.2))) (by rw [List.length_append] at hk; simpa using hk) S1 I1
      refine ⟨ob2, o11', o12', ?_, S2⟩
      have hp : p ∈ B' ++ [p] := by simp
      have q1 := eq_rf (sem T (q + 3)) (rf_tm (I.i.ok p hp) (I.i.lv p hp)) (by rw [sem_lv]; omega)
      have er : ((B' ++ [p]).map lnB).reverse = lnB p :: (B'.map lnB).reverse := by simp
      rw [er, x_for_cons]
      have et : tgPut (.tup [(.nm 11), (.nm 12)]) (lnB p) (St2 ns ob d1 d2 o7 o8 t u o11 o12) = some (St2 ns ob d1 d2 o7 o8 t u (some (.dat (.str p.1))) (some (.dat (tD p.2)))) := by
        unfold St2 lnB
        simp
      rw [et]
      have el : lf (sem T (q + 3)) (St2 ns ob d1 d2 o7 o8 t u (some (.dat (.str p.1))) (some (.dat (tD p.2)))) = .ok .nx (St2 ns (ob.set 1 (.lst (B'.map lnB))) d1 d2 o7 o8 t u (some (.dat (.str p.1))) (some (.dat (tD p.2)))) := by
        have es : (PyData.str p.1).eqv (.str p.1) = true := by simp [PyData.eqv]
        unfold lf St2
        simp [mMeth, A.me, lk_term, lk_forget, r1, q1, r2, es]
      simp only
      rw [el]
      exact e2
theorem e14 (H : Has T) (S : S28 ob [] R B R' C Q C Q) (hR : R.length ≤ 1000) (o7 o8 : Option Val) (t u : Tm) (o11 o12 : Option Val) (m : Nat) (hm : 220 ≤ m) : ∃ ob1, fin (q14 (sem T m) (St2 ns ob d1 d2 o7 o8 t u o11 o12)) = .ok (.dat (.bool true)) ob1 := by
  obtain ⟨p, rfl⟩ : ∃ p, m = p + 3 := ⟨m - 3, by omega⟩
  have A : BkAt ob 0 1 2 [] R := ⟨S.m0, S.t0, S.r0, by simp, hR⟩
  have hl : 12 ≤ ob.length := (List.getElem?_eq_some_iff.mp S.my).1
  have r0 := r_new H.bini (p + 1) (St2 ns ob d1 d2 o7 o8 t u o11 o12)
  have S1 := S.app (jnk ob.length)
  have A1 : BkAt (ob ++ jnk ob.length) 0 1 2 [] R := ⟨S1.m0, S1.t0, S1.r0, by simp, hR⟩
  have hi : (ob ++ jnk ob.length)[ob.length]? = some (.ins "Book" [("told", .obj (ob.length + 1)), ("rows", .obj (ob.length + 2))]) := by unfold jnk; simp
  have A2 : BkAt (ob ++ jnk ob.length) ob.length (ob.length + 1) (ob.length + 2) [] [] := ⟨hi, by unfold jnk; simp, by unfold jnk; simp, by simp, by simp⟩
  have r3 := b_eq H.toHasEq A1 A2 (by simp) (by simp) (by simp) (by simp) (by simp) (by simp) (by simp) (by simp) p
  have e3 : sameB [] [] = true := by unfold sameB; simp
  rw [e3] at r3
  have r4 := b_names H.bnames A1 (p + 2)
  have r5 := b_str H.bstr A1 (by simp) (p + 1)
  have lw : (sem T (p + 3)).low 153 [.obj 0] (ob ++ jnk ob.length) = .ok (.dat (.str (Txt.join " " []))) (ob ++ jnk ob.length) := by rw [sem_low]; exact r5
  have ej : (PyData.str (Txt.join " " [])).eqv (.str "") = true := by decide +kernel
  have z := see_ins S1.m0
  have z2 := see_ins hi
  have m0 := S1.m0
  refine ⟨ob ++ jnk ob.length, ?_⟩
  have r0 : mNew "Book" 150 (sem T (p + 3)) (St2 ns ob d1 d2 o7 o8 t u o11 o12) = .ok (.obj ob.length) (St2 ns (ob ++ jnk ob.length) d1 d2 o7 o8 t u o11 o12) := r0
  generalize Txt.join " " [] = J at lw ej
  have en : (PyData.list []).eqv (.list []) = true := by simp [PyData.eqv, PyData.eqvAll]
  unfold q14 St2 at *
  generalize ob ++ jnk ob.length = ob1 at *
  simp [mEqO, ev2, ev1, r0, z, z2, m0, hi, okR, r3, mMeth, lk_names, r4, mOwn, lw, kStr, ej, en]
def ob0 : List Ob := [.ins "Book" [("told", .obj 1), ("rows", .obj 2)], .lst [], .lst [], .ins "Book" [("told", .obj 4), ("rows", .obj 5)], .lst [], .lst [], .lst [], .lst [], .mix [.obj 6, .obj 7], .lst [], .lst [], .mix [.obj 9, .obj 10]]
theorem st0 : S28 ob0 [] [] [] [] [] [] [] [] := ⟨rfl, rfl, rfl, rfl, rfl, rfl, rfl, rfl, rfl, rfl, rfl, rfl⟩
theorem i0 : I28 [] [] 0 := ⟨⟨by simp, by simp, by simp, by simp, by simp, by simp⟩, by simp⟩
theorem lead (H : Has T) (m : Nat) (hm : 220 ≤ m) (cont : M Fl) : (sSeq (sAsg 1 (mNew "Book" 150)) (sSeq (sAsg 2 (mNew "Book" 150)) (sSeq (sAsg 3 (mMix [mToO (mLst []), mToO (mLst [])])) (sSeq (sAsg 4 (mMix [mToO (mLst []), mToO (mLst [])])) cont)))) (sem T m) ⟨[some (.scr ns), none, none, none, none, none, none, none, none, none, none, none, none, none], []⟩ =
    cont (sem T m) ⟨[some (.scr ns), some (.obj 0), some (.obj 3), some (.obj 8), some (.obj 11), none, none, none, none, none, none, none, none, none], ob0⟩ := by
  obtain ⟨p, rfl⟩ : ∃ p, m = p + 2 := ⟨m - 2, by omega⟩
  have r1 := fun s => r_new H.bini p s
  simp [r1, mMix, mToO, toO, ob0]
theorem cut2 {α : Type} (a b : α) (l : List α) : cutL (a :: b :: l) (some 2) none = l := by
  unfold cutL HT.sIx
  simp
theorem swapp (H : Has T) (ob : List Ob) (ok2 : ∀ d ∈ d2, ddOk d ∧ ddRf d) (h4 : 4 ≤ d2.length) (h15 : d2.length ≤ 15) (m : Nat) (hm : 220 ≤ m) (cont : M Fl) : ∃ d3 : List Dd, (∀ d ∈ d3, ddOk d ∧ ddRf d) ∧ d3.length ≤ 15 ∧ (sSeq p6 cont) (sem T m) (St ns ob d1 d2 none none) = cont (sem T m) (St ns ob d1 d3 none none) := by
  obtain ⟨p, rfl⟩ : ∃ p, m = p + 1 := ⟨m - 1, by omega⟩
  have rc := r_cell H.toHasRow.cell ns 0 (by decide) p ob
  by_cases h : cellOf ns 0 % 4 = 2
  · obtain ⟨a, b, l, rfl⟩ : ∃ a b l, d2 = a :: b :: l := by
      match d2, h4 with
      | a :: b :: l, _ => exact ⟨a, b, l, rfl⟩
    refine ⟨b :: a :: l, fun d hd => ok2 d ?_, by simpa using h15, ?_⟩
    · rcases List.mem_cons.mp hd with z | z
      · rw [z]; simp
      · rcases List.mem_cons.mp z with z | z
        · rw [z]; simp
        · exact List.mem_cons_of_mem _ (List.mem_cons_of_mem _ z)
    · have e : (PyData.int (cellOf ns 0 % 4)).eqv (.int 2) = true := by rw [eqi, h]; rfl
      have hb : 2 + l.length ≤ big := by simp at h15; unfold big; omega
      have hr : vRev1 (.own (ddD a :: ddD b :: l.map ddD)) = some (.own [ddD b, ddD a]) := rfl
      have hc := cut2 (ddD a) (ddD b) (l.map ddD)
      unfold p6 St
      simp [rc, e, hr, hc, hb]
  · refine ⟨d2, ok2, h15, ?_⟩
    have e : (PyData.int (cellOf ns 0 % 4)).eqv (.int 2) = false := by rw [eqi]; simpa using h
    unfold p6 St
    simp [rc, e]
theorem law_okX (H : Has T) (ns : List Int) (hl : ns.length ≤ 63) : ∃ ob, (sem T 230).run 213 [.scr ns] [] = .ok (.dat (.bool true)) ob := by
  obtain ⟨ds1, ⟨l4, l15⟩, ok1, r1⟩ := r_deeds H.toHasDraw ns 2 229 (by omega) ob0
  have hcell : cellOf ns 0 % 2 = 0 ∨ cellOf ns 0 % 2 = 1 := by omega
  have ha : (2 : Int) + 3 * (cellOf ns 0 % 2) = ((2 + 3 * (cellOf ns 0 % 2).toNat : Nat) : Int) := by rcases hcell with h | h <;> rw [h] <;> rfl
  obtain ⟨ds2, ⟨m4, m15⟩, ok2, r2⟩ := r_deeds H.toHasDraw ns (2 + 3 * (cellOf ns 0 % 2).toNat) 229 (by omega) ob0
  rw [← ha] at r2
  have rc := r_cell H.toHasRow.cell ns 0 (by decide) 228 ob0
  obtain ⟨d3, ok3, n15, e6⟩ := swapp (ns := ns) (d1 := ds1) H ob0 ok2 m4 m15 229 (by omega) (sSeq p7 lrest)
  -- the loop
  obtain ⟨ob1, B1, R1, C1, Q1, o7, o8, e7, S1, I1, J1⟩ := loop (ns := ns) H 229 (by omega) ok1 ok3 (max ds1.length d3.length) 0 ob0 [] [] [] [] 0 none none st0 i0 i0 (by omega)
  obtain ⟨l8, e8'⟩ := e8 (ns := ns) (d1 := ds1) (d2 := d3) H ob1 o7 o8 229 (by omega) (sSeq q9 (sSeq q10 (sSeq q11 (sSeq q12 (sSeq q13 q14)))))
  have S2 := S1.app l8
  have e9' := e9 (ns := ns) (d1 := ds1) (d2 := d3) H S2 I1 o7 o8 229 (by omega) (sSeq q10 (sSeq q11 (sSeq q12 (sSeq q13 q14))))
  obtain ⟨t, t1, t2, t3, e10'⟩ := e10 (ns := ns) (d1 := ds1) (d2 := d3) H S2 I1 o7 o8 229 (by omega) (sSeq q12 (sSeq q13 q14))
  obtain ⟨ob3, R3, e12', S3, I3⟩ := e12 (ns := ns) (d1 := ds1) (d2 := d3) H S2 I1 o7 o8 t t1 t2 t3 229 (by omega) (sSeq q13 q14)
  obtain ⟨ob4, o11, o12, e13', S4⟩ := e13 (ns := ns) (d1 := ds1) (d2 := d3) H 229 (by omega) o7 o8 t (spreadT B1 t) B1.length B1 B1 ob3 R3 none none rfl S3 I3
  obtain ⟨ob5, e14'⟩ := e14 (ns := ns) (d1 := ds1) (d2 := d3) H S4 (by have := I3.i.rl; omega) o7 o8 t (spreadT B1 t) o11 o12 229 (by omega)
  refine ⟨ob5, ?_⟩
  rw [sem_run H.law]
  unfold d_law
  refine Eq.trans (runDef_fin _ _ _ _ _ _ rfl) ?_
  have g13 : (sSeq q13 q14) (sem T 229) (St2 ns ob3 ds1 d3 o7 o8 t (spreadT B1 t) none none) = q14 (sem T 229) (St2 ns ob4 ds1 d3 o7 o8 t (spreadT B1 t) o11 o12) := by
    have sm := see_mix S3.mx
    have s0 := see_l S3.u0
    have mx := S3.mx
    have it : itemsOf (.seq (mUn (fun _ => vRev) (.ev (mIdxM (.pk 3) (.ev (mCon (.int (0)))))))) (sem T 229) (St2 ns ob3 ds1 d3 o7 o8 t (spreadT B1 t) none none) = .ok (B1.map lnB).reverse (St2 ns ob3 ds1 d3 o7 o8 t (spreadT B1 t) none none) := by
      unfold St2
      simp [mIdxM, ev2, ev1, sm, mx, s0]
    unfold q13
    show (((itemsOf (.seq (mUn (fun _ => vRev) (.ev (mIdxM (.pk 3) (.ev (mCon (.int (0)))))))) (sem T 229) (St2 ns ob3 ds1 d3 o7 o8 t (spreadT B1 t) none none)).bnd fun items s1 => forLoop (.tup [(.nm 11), (.nm 12)]) lf (sem T 229) items s1).bnd _) = _
    rw [it]
    show ((forLoop (.tup [(.nm 11), (.nm 12)]) lf (sem T 229) (B1.map lnB).reverse (St2 ns ob3 ds1 d3 o7 o8 t (spreadT B1 t) none none)).bnd _) = _
    rw [e13']
    rfl
  have g7 : (sSeq p7 lrest) (sem T 229) (St ns ob0 ds1 d3 none none) = lrest (sem T 229) (St ns ob1 ds1 d3 o7 o8) := by
    have hmax : (if ds1.length < d3.length then (d3.length : Int) else (ds1.length : Int)) = ((max ds1.length d3.length : Nat) : Int) := by split <;> omega
    have ir := i_range1 (f := mBin (fun _ => vMax2) (.ev (mUn (fun _ => vLen) (.pk 5))) (.ev (mUn (fun _ => vLen) (.pk 6)))) (cs := sem T 229) (s := St ns ob0 ds1 d3 none none) (s1 := St ns ob0 ds1 d3 none none) (j := max ds1.length d3.length) (by
      unfold St
      simp [vMax2]
      exact hmax) (by omega)
    rw [nums_eq] at ir
    unfold p7
    show (((itemsOf (.range1 (mBin (fun _ => vMax2) (.ev (mUn (fun _ => vLen) (.pk 5))) (.ev (mUn (fun _ => vLen) (.pk 6))))) (sem T 229) (St ns ob0 ds1 d3 none none)).bnd fun items s1 => forLoop (.nm 7) lb (sem T 229) items s1).bnd _) = _
    rw [ir]
    show ((forLoop (.nm 7) lb (sem T 229) _ (St ns ob0 ds1 d3 none none)).bnd _) = _
    rw [e7]
    rfl
  have g5 : ∀ cont : M Fl, (sSeq (sAsg 5 (mCall 278 [mVar 0, mCon (.int (2))] [])) (sSeq (sAsg 6 (mCall 278 [mVar 0, mBin (fun _ => vBin .Add) (.ev (mCon (.int (2)))) (.ev (mBin (fun _ => vBin .Mult) (.ev (mCon (.int (3)))) (.ev (mBin (fun _ => vBin .Mod) (.ev (mCall 200 [mVar 0, mCon (.int (0))] [])) (.ev (mCon (.int (2))))))))] [])) cont)) (sem T 229) ⟨[some (.scr ns), some (.obj 0), some (.obj 3), some (.obj 8), some (.obj 11), none, none, none, none, none, none, none, none, none], ob0⟩ = cont (sem T 229) (St ns ob0 ds1 ds2 none none) := fun cont => by
    simp only [Int.cast_ofNat_Int] at r1 rc
    unfold St
    simp [r1, rc, r2]
  have gl := lead (ns := ns) H 229 (by omega) (sSeq (sAsg 5 (mCall 278 [mVar 0, mCon (.int (2))] [])) (sSeq (sAsg 6 (mCall 278 [mVar 0, mBin (fun _ => vBin .Add) (.ev (mCon (.int (2)))) (.ev (mBin (fun _ => vBin .Mult) (.ev (mCon (.int (3)))) (.ev (mBin (fun _ => vBin .Mod) (.ev (mCall 200 [mVar 0, mCon (.int (0))] [])) (.ev (mCon (.int (2))))))))] [])) (sSeq p6 (sSeq p7 lrest))))
  refine Eq.trans (congrArg fin (gl.trans ((g5 _).trans (e6.trans g7)))) ?_
  unfold lrest
  rw [e8', e9', e10', e12', g13]
  exact e14'
end
end CH.Law


set_option maxHeartbeats 0
namespace CH.Law
open PySem PySem.Spec PyProof.Rows L2 CH
theorem hhs : ∀ h ∈ hs, h.dfl = [] ∧ ∃ e ∈ es, h = { e with id := h.id } := by
  intro h hh
  simp only [hs, List.mem_cons, List.not_mem_nil, or_false] at hh
theorem it_BadWay : IniT i_BadWay := ⟨_, _, _, _, _, _, _, _, _, _, _, _, rfl, fun _ => ⟨_, rfl⟩, fun _ _ _ _ _ _ _ _ => rfl⟩
theorem it_BadName : IniT i_BadName := ⟨_, _, _, _, _, _, _, _, _, _, _, _, rfl, fun _ => ⟨_, rfl⟩, fun _ _ _ _ _ _ _ _ => rfl⟩
theorem its : ∀ i ∈ ins, IniT i := by
  intro i hi
  simp only [ins, List.mem_cons, List.not_mem_nil, or_false] at hi
  rcases hi with rfl | rfl
  · exact it_BadWay
  · exact it_BadName
theorem iBs : ∀ i ∈ ins, iniB i = true := by
  have h : (ins.all iniB) = true := by kernel_rfl
  exact fun e he => List.all_eq_true.mp h e he
theorem call_ : ∀ q ∈ cl, ∀ f, fldOf q.2 = some f → ∃ i ∈ ins, i.x = q.1 ∧ i.f = f := by
  have h : (cl.all fun q => match fldOf q.2 with | none => true | some f => ins.any fun i => decide (i.x = q.1) && decide (i.f = f)) = true := by kernel_rfl
  intro q hq f hf
  have z := List.all_eq_true.mp h q hq
  simp only [hf] at z
  obtain ⟨i, hi, h2⟩ := List.any_eq_true.mp z
  rw [Bool.and_eq_true, decide_eq_true_eq, decide_eq_true_eq] at h2
  exact ⟨i, hi, h2.1, h2.2⟩
theorem cfi : ∀ q ∈ cl, cl.find? (fun r => r.2 == q.2) = some q := by
  have h : (cl.all fun q => decide (cl.find? (fun r => r.2 == q.2) = some q)) = true := by kernel_rfl
  exact fun q hq => of_decide_eq_true (List.all_eq_true.mp h q hq)
theorem bn_e_is_within (K : PySem.W.Frag) : BnOk K e_is_within := bn0 rfl rfl fun f fd kws F => F.bindsN (ps := e_is_within.ps) fun _ _ _ _ _ _ us hl => match us, hl with | [_, _, _], _ => rfl
theorem bn_e_is_name (K : PySem.W.Frag) : BnOk K e_is_name := bn0 rfl rfl fun f fd kws F => F.bindsN (ps := e_is_name.ps) fun _ _ _ _ _ _ us hl => match us, hl with | [_], _ => rfl
theorem bn_e_is_leaf (K : PySem.W.Frag) : BnOk K e_is_leaf := bn0 rfl rfl fun f fd kws F => F.bindsN (ps := e_is_leaf.ps) fun _ _ _ _ _ _ us hl => match us, hl with | [_], _ => rfl
theorem bn_e_left_of (K : PySem.W.Frag) : BnOk K e_left_of := bn0 rfl rfl fun f fd kws F => F.bindsN (ps := e_left_of.ps) fun _ _ _ _ _ _ us hl => match us, hl with | [_, _], _ => rfl
theorem bn_e_is_term (K : PySem.W.Frag) : BnOk K e_is_term := bn0 rfl rfl fun f fd kws F => F.bindsN (ps := e_is_term.ps) fun _ _ _ _ _ _ us hl => match us, hl with | [_], _ => rfl
theorem bn_e_checked (K : PySem.W.Frag) : BnOk K e_checked := bn0 rfl rfl fun f fd kws F => F.bindsN (ps := e_checked.ps) fun _ _ _ _ _ _ us hl => match us, hl with | [_], _ => rfl
theorem bn_e_looked (K : PySem.W.Frag) : BnOk K e_looked := bn0 rfl rfl fun f fd kws F => F.bindsN (ps := e_looked.ps) fun _ _ _ _ _ _ us hl => match us, hl with | [_], _ => rfl
theorem bn_e_leaves (K : PySem.W.Frag) : BnOk K e_leaves := bn0 rfl rfl fun f fd kws F => F.bindsN (ps := e_leaves.ps) fun _ _ _ _ _ _ us hl => match us, hl with | [_], _ => rfl
theorem bn_e_deed_of (K : PySem.W.Frag) : BnOk K e_deed_of := bn0 rfl rfl fun f fd kws F => F.bindsN (ps := e_deed_of.ps) fun _ _ _ _ _ _ us hl => match us, hl with | [_], _ => rfl
theorem bn_e_done (K : PySem.W.Frag) : BnOk K e_done := bn0 rfl rfl fun f fd kws F => F.bindsN (ps := e_done.ps) fun _ _ _ _ _ _ us hl => match us, hl with | [_], _ => rfl
theorem bn_e_ways_of (K : PySem.W.Frag) : BnOk K e_ways_of := bn0 rfl rfl fun f fd kws F => F.bindsN (ps := e_ways_of.ps) fun _ _ _ _ _ _ us hl => match us, hl with | [_], _ => rfl
theorem bn_e_part_at (K : PySem.W.Frag) : BnOk K e_part_at := bn0 rfl rfl fun f fd kws F => F.bindsN (ps := e_part_at.ps) fun _ _ _ _ _ _ us hl => match us, hl with | [_, _], _ => rfl
theorem bn_e_with_part (K : PySem.W.Frag) : BnOk K e_with_part := bn0 rfl rfl fun f fd kws F => F.bindsN (ps := e_with_part.ps) fun _ _ _ _ _ _ us hl => match us, hl with | [_, _, _], _ => rfl
theorem bn_e_look_way (K : PySem.W.Frag) : BnOk K e_look_way := bn0 rfl rfl fun f fd kws F => F.bindsN (ps := e_look_way.ps) fun _ _ _ _ _ _ us hl => match us, hl with | [_, _], _ => rfl
theorem bn_e_step_to (K : PySem.W.Frag) : BnOk K e_step_to := bn0 rfl rfl fun f fd kws F => F.bindsN (ps := e_step_to.ps) fun _ _ _ _ _ _ us hl => match us, hl with | [_, _], _ => rfl
theorem bn_e_played (K : PySem.W.Frag) : BnOk K e_played := by
  intro f fd kws F
  refine ⟨?_, fun n q z => ?_⟩
  case refine_2 =>
    cases z
    obtain ⟨its, b⟩ := F.kbindsD (ps := e_played.ps) 1 ["most"] (fun us _ ws => us ++ ws) (by intro z; cases z) (fun r1 _ r2 => r1.append r2) (fun T kV doc pm an cdv ct us its ws hu hi hw => match us, hu, its, hi, ws, hw with | [_], _, [_], _, [_], _ => ⟨_, rfl, rfl⟩)
    exact b
  intro m h1 h2
  have h1 : 2 ≤ m + 1 := h1
  have h2 : m ≤ 2 := h2
  have hm : m = 1 ∨ m = 2 := by omega
  rcases hm with rfl | rfl
  · obtain ⟨ds, v, b⟩ := F.binds1 (ps := e_played.ps) 1 0 (by intro z; cases z) rfl (fun T kV doc pm an cdv ct us its hu hi => match us, hu, its, hi with | [_], _, [_], _ => ⟨_, rfl, rfl⟩)
    exact ⟨ds, _, rfl, rfl, v, b⟩
  · obtain ⟨ds, v, b⟩ := F.binds1 (ps := e_played.ps) 2 1 (by intro z; cases z) rfl (fun T kV doc pm an cdv ct us its hu hi => match us, hu, its, hi with | [_, _], _, [_], _ => ⟨_, rfl, rfl⟩)
    exact ⟨ds, _, rfl, rfl, v, b⟩
theorem bn_e_first_of (K : PySem.W.Frag) : BnOk K e_first_of := bn0 rfl rfl fun f fd kws F => F.bindsN (ps := e_first_of.ps) fun _ _ _ _ _ _ us hl => match us, hl with | [_], _ => rfl
theorem bn_e__law_cell (K : PySem.W.Frag) : BnOk K e__law_cell := bn0 rfl rfl fun f fd kws F => F.bindsN (ps := e__law_cell.ps) fun _ _ _ _ _ _ us hl => match us, hl with | [_, _], _ => rfl
theorem bn_e__law_whole (K : PySem.W.Frag) : BnOk K e__law_whole := bn0 rfl rfl fun f fd kws F => F.bindsN (ps := e__law_whole.ps) fun _ _ _ _ _ _ us hl => match us, hl with | [_], _ => rfl
theorem bn_e__law_row (K : PySem.W.Frag) : BnOk K e__law_row := bn0 rfl rfl fun f fd kws F => F.bindsN (ps := e__law_row.ps) fun _ _ _ _ _ _ us hl => match us, hl with | [_, _], _ => rfl
theorem bn_e__law_name (K : PySem.W.Frag) : BnOk K e__law_name := bn0 rfl rfl fun f fd kws F => F.bindsN (ps := e__law_name.ps) fun _ _ _ _ _ _ us hl => match us, hl with | [_], _ => rfl
theorem bn_e__law_leaf (K : PySem.W.Frag) : BnOk K e__law_leaf := bn0 rfl rfl fun f fd kws F => F.bindsN (ps := e__law_leaf.ps) fun _ _ _ _ _ _ us hl => match us, hl with | [_], _ => rfl
theorem bn_e__law_grown (K : PySem.W.Frag) : BnOk K e__law_grown := bn0 rfl rfl fun f fd kws F => F.bindsN (ps := e__law_grown.ps) fun _ _ _ _ _ _ us hl => match us, hl with | [_, _, _], _ => rfl
theorem bn_e__law_drawn (K : PySem.W.Frag) : BnOk K e__law_drawn := bn0 rfl rfl fun f fd kws F => F.bindsN (ps := e__law_drawn.ps) fun _ _ _ _ _ _ us hl => match us, hl with | [_, _], _ => rfl
theorem bn_e__law_leaves (K : PySem.W.Frag) : BnOk K e__law_leaves := bn0 rfl rfl fun f fd kws F => F.bindsN (ps := e__law_leaves.ps) fun _ _ _ _ _ _ us hl => match us, hl with | [_], _ => rfl
theorem bn_e__law_count (K : PySem.W.Frag) : BnOk K e__law_count := bn0 rfl rfl fun f fd kws F => F.bindsN (ps := e__law_count.ps) fun _ _ _ _ _ _ us hl => match us, hl with | [_], _ => rfl
theorem bn_e__law_all_ways (K : PySem.W.Frag) : BnOk K e__law_all_ways := bn0 rfl rfl fun f fd kws F => F.bindsN (ps := e__law_all_ways.ps) fun _ _ _ _ _ _ us hl => match us, hl with | [_], _ => rfl
theorem bn_e__law_part (K : PySem.W.Frag) : BnOk K e__law_part := bn0 rfl rfl fun f fd kws F => F.bindsN (ps := e__law_part.ps) fun _ _ _ _ _ _ us hl => match us, hl with | [_, _], _ => rfl
theorem bn_e__law_with (K : PySem.W.Frag) : BnOk K e__law_with := bn0 rfl rfl fun f fd kws F => F.bindsN (ps := e__law_with.ps) fun _ _ _ _ _ _ us hl => match us, hl with | [_, _, _], _ => rfl
theorem bn_e__law_deed (K : PySem.W.Frag) : BnOk K e__law_deed := bn0 rfl rfl fun f fd kws F => F.bindsN (ps := e__law_deed.ps) fun _ _ _ _ _ _ us hl => match us, hl with | [_, _, _], _ => rfl
theorem bn_e__law_ways (K : PySem.W.Frag) : BnOk K e__law_ways := bn0 rfl rfl fun f fd kws F => F.bindsN (ps := e__law_ways.ps) fun _ _ _ _ _ _ us hl => match us, hl with | [_], _ => rfl
theorem bn_e__law_step (K : PySem.W.Frag) : BnOk K e__law_step := bn0 rfl rfl fun f fd kws F => F.bindsN (ps := e__law_step.ps) fun _ _ _ _ _ _ us hl => match us, hl with | [_, _], _ => rfl
theorem bn_e__law_played (K : PySem.W.Frag) : BnOk K e__law_played := bn0 rfl rfl fun f fd kws F => F.bindsN (ps := e__law_played.ps) fun _ _ _ _ _ _ us hl => match us, hl with | [_, _], _ => rfl
theorem bn_e__law_odd_name (K : PySem.W.Frag) : BnOk K e__law_odd_name := bn0 rfl rfl fun f fd kws F => F.bindsN (ps := e__law_odd_name.ps) fun _ _ _ _ _ _ us hl => match us, hl with | [_], _ => rfl
theorem bn_e__law_book_deed (K : PySem.W.Frag) : BnOk K e__law_book_deed := bn0 rfl rfl fun f fd kws F => F.bindsN (ps := e__law_book_deed.ps) fun _ _ _ _ _ _ us hl => match us, hl with | [_, _], _ => rfl
theorem bn_e__law_spread (K : PySem.W.Frag) : BnOk K e__law_spread := bn0 rfl rfl fun f fd kws F => F.bindsN (ps := e__law_spread.ps) fun _ _ _ _ _ _ us hl => match us, hl with | [_, _], _ => rfl
theorem bn_e__law_due_deed (K : PySem.W.Frag) : BnOk K e__law_due_deed := bn0 rfl rfl fun f fd kws F => F.bindsN (ps := e__law_due_deed.ps) fun _ _ _ _ _ _ us hl => match us, hl with | [_, _, _], _ => rfl
theorem bn_e__law_deed_drawn (K : PySem.W.Frag) : BnOk K e__law_deed_drawn := bn0 rfl rfl fun f fd kws F => F.bindsN (ps := e__law_deed_drawn.ps) fun _ _ _ _ _ _ us hl => match us, hl with | [_, _], _ => rfl
theorem bn_e__law_deeds_drawn (K : PySem.W.Frag) : BnOk K e__law_deeds_drawn := bn0 rfl rfl fun f fd kws F => F.bindsN (ps := e__law_deeds_drawn.ps) fun _ _ _ _ _ _ us hl => match us, hl with | [_, _], _ => rfl
theorem bn_e_law (K : PySem.W.Frag) : BnOk K e_law := bn0 rfl rfl fun f fd kws F => F.bindsN (ps := e_law.ps) fun _ _ _ _ _ _ us hl => match us, hl with | [_], _ => rfl
theorem bn_e_Book___init__ (K : PySem.W.Frag) : BnOk K e_Book___init__ := bn0 rfl rfl fun f fd kws F => F.bindsN (ps := e_Book___init__.ps) fun _ _ _ _ _ _ us hl => match us, hl with | [_], _ => rfl
theorem bn_e_Book___len__ (K : PySem.W.Frag) : BnOk K e_Book___len__ := bn0 rfl rfl fun f fd kws F => F.bindsN (ps := e_Book___len__.ps) fun _ _ _ _ _ _ us hl => match us, hl with | [_], _ => rfl
theorem bn_e_Book___eq__ (K : PySem.W.Frag) : BnOk K e_Book___eq__ := bn0 rfl rfl fun f fd kws F => F.bindsN (ps := e_Book___eq__.ps) fun _ _ _ _ _ _ us hl => match us, hl with | [_, _], _ => rfl
theorem bn_e_Book___str__ (K : PySem.W.Frag) : BnOk K e_Book___str__ := bn0 rfl rfl fun f fd kws F => F.bindsN (ps := e_Book___str__.ps) fun _ _ _ _ _ _ us hl => match us, hl with | [_], _ => rfl
theorem bn_e_Book_tell (K : PySem.W.Frag) : BnOk K e_Book_tell := bn0 rfl rfl fun f fd kws F => F.bindsN (ps := e_Book_tell.ps) fun _ _ _ _ _ _ us hl => match us, hl with | [_, _, _], _ => rfl
theorem bn_e_Book_names (K : PySem.W.Frag) : BnOk K e_Book_names := bn0 rfl rfl fun f fd kws F => F.bindsN (ps := e_Book_names.ps) fun _ _ _ _ _ _ us hl => match us, hl with | [_], _ => rfl
theorem bn_e_Book_term (K : PySem.W.Frag) : BnOk K e_Book_term := bn0 rfl rfl fun f fd kws F => F.bindsN (ps := e_Book_term.ps) fun _ _ _ _ _ _ us hl => match us, hl with | [_, _], _ => rfl
theorem bn_e_Book_spread (K : PySem.W.Frag) : BnOk K e_Book_spread := bn0 rfl rfl fun f fd kws F => F.bindsN (ps := e_Book_spread.ps) fun _ _ _ _ _ _ us hl => match us, hl with | [_, _], _ => rfl
theorem bn_e_Book_put_in (K : PySem.W.Frag) : BnOk K e_Book_put_in := bn0 rfl rfl fun f fd kws F => F.bindsN (ps := e_Book_put_in.ps) fun _ _ _ _ _ _ us hl => match us, hl with | [_, _], _ => rfl
theorem bn_e_Book_play (K : PySem.W.Frag) : BnOk K e_Book_play := by
  intro f fd kws F
  refine ⟨?_, fun n q z => ?_⟩
  case refine_2 =>
    cases z
    obtain ⟨its, b⟩ := F.kbindsD (ps := e_Book_play.ps) 2 ["most"] (fun us _ ws => us ++ ws) (by intro z; cases z) (fun r1 _ r2 => r1.append r2) (fun T kV doc pm an cdv ct us its ws hu hi hw => match us, hu, its, hi, ws, hw with | [_, _], _, [_], _, [_], _ => ⟨_, rfl, rfl⟩)
    exact b
  intro m h1 h2
  have h1 : 3 ≤ m + 1 := h1
  have h2 : m ≤ 3 := h2
  have hm : m = 2 ∨ m = 3 := by omega
  rcases hm with rfl | rfl
  · obtain ⟨ds, v, b⟩ := F.binds1 (ps := e_Book_play.ps) 2 0 (by intro z; cases z) rfl (fun T kV doc pm an cdv ct us its hu hi => match us, hu, its, hi with | [_, _], _, [_], _ => ⟨_, rfl, rfl⟩)
    exact ⟨ds, _, rfl, rfl, v, b⟩
  · obtain ⟨ds, v, b⟩ := F.binds1 (ps := e_Book_play.ps) 3 1 (by intro z; cases z) rfl (fun T kV doc pm an cdv ct us its hu hi => match us, hu, its, hi with | [_, _, _], _, [_], _ => ⟨_, rfl, rfl⟩)
    exact ⟨ds, _, rfl, rfl, v, b⟩
theorem bn_e_Book_forget (K : PySem.W.Frag) : BnOk K e_Book_forget := bn0 rfl rfl fun f fd kws F => F.bindsN (ps := e_Book_forget.ps) fun _ _ _ _ _ _ us hl => match us, hl with | [_], _ => rfl
theorem bns (K : PySem.W.Frag) : ∀ e ∈ es, BnOk K e := by
  intro e he
  simp only [es, List.mem_cons, List.not_mem_nil, or_false] at he
  rcases he with rfl | rfl | rfl | rfl | rfl | rfl | rfl | rfl | rfl | rfl | rfl | rfl | rfl | rfl | rfl | rfl | rfl | rfl | rfl | rfl | rfl | rfl | rfl | rfl | rfl | rfl | rfl | rfl | rfl | rfl | rfl | rfl | rfl | rfl | rfl | rfl | rfl | rfl | rfl | rfl | rfl | rfl | rfl | rfl | rfl | rfl | rfl | rfl | rfl | rfl | rfl
  · exact bn_e_is_within K
  · exact bn_e_is_name K
  · exact bn_e_is_leaf K
  · exact bn_e_left_of K
  · exact bn_e_is_term K
  · exact bn_e_checked K
  · exact bn_e_looked K
  · exact bn_e_leaves K
  · exact bn_e_deed_of K
  · exact bn_e_done K
  · exact bn_e_ways_of K
  · exact bn_e_part_at K
  · exact bn_e_with_part K
  · exact bn_e_look_way K
  · exact bn_e_step_to K
  · exact bn_e_played K
  · exact bn_e_first_of K
  · exact bn_e__law_cell K
  · exact bn_e__law_whole K
  · exact bn_e__law_row K
  · exact bn_e__law_name K
  · exact bn_e__law_leaf K
  · exact bn_e__law_grown K
  · exact bn_e__law_drawn K
  · exact bn_e__law_leaves K
  · exact bn_e__law_count K
  · exact bn_e__law_all_ways K
  · exact bn_e__law_part K
  · exact bn_e__law_with K
  · exact bn_e__law_deed K
  · exact bn_e__law_ways K
  · exact bn_e__law_step K
  · exact bn_e__law_played K
  · exact bn_e__law_odd_name K
  · exact bn_e__law_book_deed K
  · exact bn_e__law_spread K
  · exact bn_e__law_due_deed K
  · exact bn_e__law_deed_drawn K
  · exact bn_e__law_deeds_drawn K
  · exact bn_e_law K
  · exact bn_e_Book___init__ K
  · exact bn_e_Book___len__ K
  · exact bn_e_Book___eq__ K
  · exact bn_e_Book___str__ K
  · exact bn_e_Book_tell K
  · exact bn_e_Book_names K
  · exact bn_e_Book_term K
  · exact bn_e_Book_spread K
  · exact bn_e_Book_put_in K
  · exact bn_e_Book_play K
  · exact bn_e_Book_forget K
theorem scs : ∀ e ∈ es, scB e = true := by
  have h : (es.all scB) = true := by kernel_rfl
  exact fun e he => List.all_eq_true.mp h e he
theorem slfs : ∀ e ∈ es, selfB e = true := by
  have h : (es.all selfB) = true := by kernel_rfl
  exact fun e he => List.all_eq_true.mp h e he
end CH.Law
namespace CH.Law
open PySem PySem.Spec L2 CH Tx
theorem df_is_within : defOf es hs gc fr cl e_is_within = d_is_within := by kernel_rfl
theorem df_is_name : defOf es hs gc fr cl e_is_name = d_is_name := by kernel_rfl
theorem df_is_leaf : defOf es hs gc fr cl e_is_leaf = d_is_leaf := by kernel_rfl
theorem df_left_of : defOf es hs gc fr cl e_left_of = d_left_of := by kernel_rfl
theorem df_is_term : defOf es hs gc fr cl e_is_term = d_is_term := by kernel_rfl
theorem df_checked : defOf es hs gc fr cl e_checked = d_checked := by kernel_rfl
theorem df_looked : defOf es hs gc fr cl e_looked = d_looked := by kernel_rfl
theorem df_leaves : defOf es hs gc fr cl e_leaves = d_leaves := by kernel_rfl
theorem df_deed_of : defOf es hs gc fr cl e_deed_of = d_deed_of := by kernel_rfl
theorem df_done : defOf es hs gc fr cl e_done = d_done := by kernel_rfl
theorem df_ways_of : defOf es hs gc fr cl e_ways_of = d_ways_of := by kernel_rfl
theorem df_part_at : defOf es hs gc fr cl e_part_at = d_part_at := by kernel_rfl
theorem df_with_part : defOf es hs gc fr cl e_with_part = d_with_part := by kernel_rfl
theorem df_look_way : defOf es hs gc fr cl e_look_way = d_look_way := by kernel_rfl
theorem df_step_to : defOf es hs gc fr cl e_step_to = d_step_to := by kernel_rfl
theorem df_played : defOf es hs gc fr cl e_played = d_played := by kernel_rfl
theorem df_first_of : defOf es hs gc fr cl e_first_of = d_first_of := by kernel_rfl
theorem df__law_cell : defOf es hs gc fr cl e__law_cell = d__law_cell := by kernel_rfl
theorem df__law_whole : defOf es hs gc fr cl e__law_whole = d__law_whole := by kernel_rfl
theorem df__law_row : defOf es hs gc fr cl e__law_row = d__law_row := by kernel_rfl
theorem df__law_name : defOf es hs gc fr cl e__law_name = d__law_name := by kernel_rfl
theorem df__law_leaf : defOf es hs gc fr cl e__law_leaf = d__law_leaf := by kernel_rfl
theorem df__law_grown : defOf es hs gc fr cl e__law_grown = d__law_grown := by kernel_rfl
theorem df__law_drawn : defOf es hs gc fr cl e__law_drawn = d__law_drawn := by kernel_rfl
theorem df__law_leaves : defOf es hs gc fr cl e__law_leaves = d__law_leaves := by kernel_rfl
theorem df__law_count : defOf es hs gc fr cl e__law_count = d__law_count := by kernel_rfl
theorem df__law_all_ways : defOf es hs gc fr cl e__law_all_ways = d__law_all_ways := by kernel_rfl
theorem df__law_part : defOf es hs gc fr cl e__law_part = d__law_part := by kernel_rfl
theorem df__law_with : defOf es hs gc fr cl e__law_with = d__law_with := by kernel_rfl
theorem df__law_deed : defOf es hs gc fr cl e__law_deed = d__law_deed := by kernel_rfl
theorem df__law_ways : defOf es hs gc fr cl e__law_ways = d__law_ways := by kernel_rfl
theorem df__law_step : defOf es hs gc fr cl e__law_step = d__law_step := by kernel_rfl
theorem df__law_played : defOf es hs gc fr cl e__law_played = d__law_played := by kernel_rfl
theorem df__law_odd_name : defOf es hs gc fr cl e__law_odd_name = d__law_odd_name := by kernel_rfl
theorem df__law_book_deed : defOf es hs gc fr cl e__law_book_deed = d__law_book_deed := by kernel_rfl
theorem df__law_spread : defOf es hs gc fr cl e__law_spread = d__law_spread := by kernel_rfl
theorem df__law_due_deed : defOf es hs gc fr cl e__law_due_deed = d__law_due_deed := by kernel_rfl
theorem df__law_deed_drawn : defOf es hs gc fr cl e__law_deed_drawn = d__law_deed_drawn := by kernel_rfl
theorem df__law_deeds_drawn : defOf es hs gc fr cl e__law_deeds_drawn = d__law_deeds_drawn := by kernel_rfl
theorem df_law : defOf es hs gc fr cl e_law = d_law := by kernel_rfl
theorem df_Book___init__ : defOf es hs gc fr cl e_Book___init__ = d_Book___init__ := by kernel_rfl
theorem df_Book___len__ : defOf es hs gc fr cl e_Book___len__ = d_Book___len__ := by kernel_rfl
theorem df_Book___eq__ : defOf es hs gc fr cl e_Book___eq__ = d_Book___eq__ := by kernel_rfl
theorem df_Book___str__ : defOf es hs gc fr cl e_Book___str__ = d_Book___str__ := by kernel_rfl
theorem df_Book_tell : defOf es hs gc fr cl e_Book_tell = d_Book_tell := by kernel_rfl
theorem df_Book_names : defOf es hs gc fr cl e_Book_names = d_Book_names := by kernel_rfl
theorem df_Book_term : defOf es hs gc fr cl e_Book_term = d_Book_term := by kernel_rfl
theorem df_Book_spread : defOf es hs gc fr cl e_Book_spread = d_Book_spread := by kernel_rfl
theorem df_Book_put_in : defOf es hs gc fr cl e_Book_put_in = d_Book_put_in := by kernel_rfl
theorem df_Book_play : defOf es hs gc fr cl e_Book_play = d_Book_play := by kernel_rfl
theorem df_Book_forget : defOf es hs gc fr cl e_Book_forget = d_Book_forget := by kernel_rfl
noncomputable def T : Nat → Option FnDef
  | 14 => some d_is_within
  | 0 => some d_is_name
  | 1 => some d_is_leaf
  | 2 => some d_left_of
  | 3 => some d_is_term
  | 4 => some d_checked
  | 15 => some d_looked
  | 5 => some d_leaves
  | 16 => some d_deed_of
  | 17 => some d_done
  | 18 => some d_ways_of
  | 20 => some d_part_at
  | 21 => some d_with_part
  | 22 => some d_look_way
  | 23 => some d_step_to
  | 35 => some d_played
  | 79 => some d_first_of
  | 200 => some d__law_cell
  | 233 => some d__law_whole
  | 201 => some d__law_row
  | 202 => some d__law_name
  | 203 => some d__law_leaf
  | 204 => some d__law_grown
  | 205 => some d__law_drawn
  | 206 => some d__law_leaves
  | 208 => some d__law_count
  | 209 => some d__law_all_ways
  | 217 => some d__law_part
  | 210 => some d__law_with
  | 218 => some d__law_deed
  | 219 => some d__law_ways
  | 220 => some d__law_step
  | 222 => some d__law_played
  | 242 => some d__law_odd_name
  | 274 => some d__law_book_deed
  | 275 => some d__law_spread
  | 276 => some d__law_due_deed
  | 277 => some d__law_deed_drawn
  | 278 => some d__law_deeds_drawn
  | 213 => some d_law
  | 150 => some d_Book___init__
  | 151 => some d_Book___len__
  | 152 => some d_Book___eq__
  | 153 => some d_Book___str__
  | 154 => some d_Book_tell
  | 155 => some d_Book_names
  | 156 => some d_Book_term
  | 157 => some d_Book_spread
  | 158 => some d_Book_put_in
  | 159 => some d_Book_play
  | 161 => some d_Book_forget
  | 25 => some d_led
  | 36 => some d_number_term
  | 76 => some d_more
  | 77 => some d_plus
  | 78 => some d_times
  | 37 => some d_counted
  | 24 => some d_stepped
  | 41 => some d_line_to
  | 42 => some d_after
  | 43 => some d_end_of
  | 45 => some d_led_by
  | 26 => some d_below
  | 27 => some d_look_ways
  | 28 => some d_all_done
  | 30 => some d_moved
  | 31 => some d_left
  | 34 => some d_walked
  | 39 => some d_woven
  | 40 => some d_meet
  | 56 => some d_parts_left
  | 57 => some d_look
  | 62 => some d_alike_in
  | 63 => some d_alike
  | 224 => some d__law_walk
  | 44 => some d_shows
  | 232 => some d__law_small
  | 234 => some d__law_back
  | 236 => some d__law_after
  | 237 => some d__law_end
  | 6 => some d_names_of
  | 47 => some d_look_name
  | 48 => some d_filled_in
  | 49 => some d_filled
  | 207 => some d__law_names
  | 7 => some d_names_in
  | 50 => some d_taken_out
  | 51 => some d_without
  | 52 => some d_without_all
  | 243 => some d__law_out
  | 29 => some d_at_once
  | 33 => some d_row_of
  | 32 => some d_left_behind
  | 38 => some d_full
  | 225 => some d__law_all
  | 227 => some d__law_big
  | 226 => some d__law_some
  | 228 => some d__law_left
  | 230 => some d__law_grid
  | 231 => some d__law_met
  | 235 => some d__law_paper
  | 46 => some d_common
  | 239 => some d__law_common
  | 19 => some d_ways
  | 229 => some d__law_onward
  | 53 => some d_back_row
  | 54 => some d_row_back
  | 55 => some d_stepped_at
  | 58 => some d_free_in
  | 59 => some d_free
  | 60 => some d_made_term
  | 61 => some d_compiled
  | 244 => some d__law_function
  | 245 => some d__law_free
  | 246 => some d__law_compiled
  | 247 => some d__law_compiled_told
  | 250 => some d__law_plain
  | 251 => some d__law_renamed
  | 8 => some d_spine
  | 9 => some d_written
  | 10 => some d_shown
  | 11 => some d_word_at
  | 12 => some d_taken
  | 13 => some d_read
  | 214 => some d__law_text
  | 215 => some d__law_bent
  | 216 => some d__law_text_refused
  | 160 => some d_Book_log
  | _ => none
theorem hT : ∀ e ∈ es, T e.id = some (defOf es hs gc fr cl e) := by
  intro e he
  simp only [es, List.mem_cons, List.not_mem_nil, or_false] at he
  rcases he with rfl | rfl | rfl | rfl | rfl | rfl | rfl | rfl | rfl | rfl | rfl | rfl | rfl | rfl | rfl | rfl | rfl | rfl | rfl | rfl | rfl | rfl | rfl | rfl | rfl | rfl | rfl | rfl | rfl | rfl | rfl | rfl | rfl | rfl | rfl | rfl | rfl | rfl | rfl | rfl | rfl | rfl | rfl | rfl | rfl | rfl | rfl | rfl | rfl | rfl | rfl
  · rw [df_is_within]; rfl
  · rw [df_is_name]; rfl
  · rw [df_is_leaf]; rfl
  · rw [df_left_of]; rfl
  · rw [df_is_term]; rfl
  · rw [df_checked]; rfl
  · rw [df_looked]; rfl
  · rw [df_leaves]; rfl
  · rw [df_deed_of]; rfl
  · rw [df_done]; rfl
  · rw [df_ways_of]; rfl
  · rw [df_part_at]; rfl
  · rw [df_with_part]; rfl
  · rw [df_look_way]; rfl
  · rw [df_step_to]; rfl
  · rw [df_played]; rfl
  · rw [df_first_of]; rfl
  · rw [df__law_cell]; rfl
  · rw [df__law_whole]; rfl
  · rw [df__law_row]; rfl
  · rw [df__law_name]; rfl
  · rw [df__law_leaf]; rfl
  · rw [df__law_grown]; rfl
  · rw [df__law_drawn]; rfl
  · rw [df__law_leaves]; rfl
  · rw [df__law_count]; rfl
  · rw [df__law_all_ways]; rfl
  · rw [df__law_part]; rfl
  · rw [df__law_with]; rfl
  · rw [df__law_deed]; rfl
  · rw [df__law_ways]; rfl
  · rw [df__law_step]; rfl
  · rw [df__law_played]; rfl
  · rw [df__law_odd_name]; rfl
  · rw [df__law_book_deed]; rfl
  · rw [df__law_spread]; rfl
  · rw [df__law_due_deed]; rfl
  · rw [df__law_deed_drawn]; rfl
  · rw [df__law_deeds_drawn]; rfl
  · rw [df_law]; rfl
  · rw [df_Book___init__]; rfl
  · rw [df_Book___len__]; rfl
  · rw [df_Book___eq__]; rfl
  · rw [df_Book___str__]; rfl
  · rw [df_Book_tell]; rfl
  · rw [df_Book_names]; rfl
  · rw [df_Book_term]; rfl
  · rw [df_Book_spread]; rfl
  · rw [df_Book_put_in]; rfl
  · rw [df_Book_play]; rfl
  · rw [df_Book_forget]; rfl
theorem hTh : ∀ e ∈ hs, T e.id = some (defH es hs gc fr cl e) := by
  intro e he
  simp only [hs, List.mem_cons, List.not_mem_nil, or_false] at he
theorem has : Has T := by
  repeat' (first | rfl | constructor)
theorem law_true : ∀ ns : List Int, ns.length ≤ 63 → ∃ ob, (sem T 230).run e_law.id [.scr ns] [] = .ok (.dat (.bool true)) ob := fun ns h => law_okX has ns h
end CH.Law
open PySem PySem.W PySem.Calls PyProof.Rows
theorem PySem.Challenge.cw_copyhands_k28_whole_two_books_holds : PySem.Challenge.rw_copyhands_k28_whole_two_books.Holds := by
  w_on; o_law
  refine HandSHeadRun.head_any (r := OpenLaw.row PySem.Challenge.rw_copyhands_k28_whole_two_books) (q := view (OpenLaw.row PySem.Challenge.rw_copyhands_k28_whole_two_books).prog [56]) (H := CH.Law.hk) (ob := CH.Law.ob) (M := 6000) (loose := CH.Law.names) (d := HandSHeadRun.topDef (OpenLaw.row PySem.Challenge.rw_copyhands_k28_whole_two_books).prog 56) (kwd := []) CH.Law.ob_eq
    (by kernel_rfl) (fun s => by kernel_rfl) CH.Law.run (by kernel_rfl) (by kernel_rfl) (by kernel_rfl) (by rfl) (by first | assumption | decide +kernel) (by decide +kernel) ⟨rfl, rfl, rfl, rfl, rfl, by decide +kernel⟩ ?hw ?hc
  case hw => w_witness2
  case hc =>
    refine CH.law_walk (l := PySem.Challenge.rw_copyhands_k28_whole_two_books) (T := CH.Law.T) (es := CH.Law.es) (hs := CH.Law.hs) (gc := CH.Law.gc) (fr := CH.Law.fr) (cl := CH.Law.cl) (lawE := CH.Law.e_law) 230 rfl (by kernel_rfl) ⟨rfl, by decide, by decide⟩ CH.Law.hT CH.Law.hTh CH.Law.hhs (by simp [CH.Law.es]) rfl rfl rfl (by kernel_rfl) ?F CH.Law.law_true
    intro w mg h Y G
    obtain ⟨K, KX, c1, c2⟩ := Y
    obtain ⟨h0, h1, h2, h3⟩ := CH.head_facts c1 c2 KX G CH.Law.scs CH.Law.slfs (CH.Law.bns K) CH.Law.call_ CH.Law.its CH.Law.iBs CH.Law.cfi
    exact ⟨K, CH.claK K CH.Law.cl, KX, h0, h1, fun f fd E s u => CH.law_binds E rfl rfl (fun _ _ _ _ _ _ _ _ => rfl) s u, h2, h3⟩
#print axioms PySem.Challenge.cw_copyhands_k28_whole_two_books_holds
