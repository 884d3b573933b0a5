import PyProof.Rows.All
import Wide.All
import OpenK.AllK
import Wide.FinOn
import HandS.ForMost
import HandS.Exc
import HandS.ExcInit
import HandS.ExcOwn
import HandS.TryOnly
import HandS.CallSlots
import HandS.Flow
import HandS.Wide
import HandS.WordsExc
import HandS.Deep
import HandS.ExcField
import HandS.ExcIs
import HandS.HeadHook1
import HandS.IsInst
import HandS.Defaults
import KE.KStateDown
import HandS.Ends
import HandS.Head0
import HandS.Head1
import HandS.Head2
import HandS.HeadEnd
import HandS.HeadHook2
import HandS.HeadHook4
import HandS.EndBits
import HandS.Iter
import HandS.Zip
import KE.GoesMore
import KE.GoesEnum
import HandS.Text
import HandS.FStr
import KE.KExcIs
import HandS.Codes
import KE.KTupSum
import KE.KDictZip
import HandS.Style
import HandS.Conv
import HandS.TupSets
import HandS.MakeKwOnly
import KE.SortData
import HandS.SetBool
import HandS.Strs
import HandS.TupLen
import HandS.SortKw
import HandS.DictComp
import KE.DatumOrd
import PyProof.Rows.TupDisplay
import HandS.SetFor
import PyProof.Rows.SetFrom
import KE.KMinBuiltin
import HandS.Slots
import PyProof.InstNe
import HandS.OwnEq
import HandS.SlotsOwn
import KE.KUnpackStar
import PyProof.Rows.StrJoinRep
import PySem.Challenge.RW_bestreply_k04_games_as_rows
set_option Elab.async false
set_option linter.all false
set_option maxRecDepth 100000
set_option maxHeartbeats 0
namespace DL
open PySem PySem.Spec PyProof.Rows L2
def inCls (s : Stmt) (k : Nat) : Stmt := match s with
  | .ClassDef _ _ _ body _ _ _ _ _ _ _ => body.getD k (.Pass ⟨0, 0, 0, 0⟩)
  | _ => .Pass ⟨0, 0, 0, 0⟩
def eflds (c : Str) : List Str :=
  if c = "BadCount" then ["what", "count"]
  else if c = "NoName" then ["name"]
  else if c = "Twice" then ["name"]
  else if c = "NoSide" then ["side"]
  else if c = "NoChoice" then ["side", "choice"]
  else if c = "BadMix" then ["side"]
  else if c = "Uneven" then ["square"]
  else if c = "NoRing" then ["ranks"]
  else if c = "NoClaim" then ["name"]
  else if c = "Broken" then ["name"]
  else if c = "BadRow" then ["row", "place"]
  else []
def oexB (K : PySem.W.Frag) (C : Addr) : Bool := match K.lookup C with
  | some ⟨.type "type", _, .cls cd, sl⟩ => (match cd.mro, sl.toList with
    | .ref C' :: bm, [_, _, _, _, some (.builtin n), _] => C' == C && (n == "ValueError.__new__" && (!cd.hasDel && (cd.hasDict && PySem.HandSPX.refsVE bm)))
    | _, _ => false)
  | _ => false
def xkfB (c : Str) (K : PySem.W.Frag) : Bool := oexB K (He.ga K c) && (He.eqO (PySem.W.findIn K (.ref (He.ga K c)) "__setattr__") (some (some (.builtin "object.__setattr__"))) && (decide (PySem.W.subIn K (.ref (He.ga K c)) (.type "BaseException") = some true) &&
  (decide (PySem.W.typeIn K (.ref (He.ga K c)) = some (.type "type")) && (PySem.W.keepIn K (.ref (He.ga K c)) && (He.eqO (PySem.W.findIn K (.ref (He.ga K c)) "__init__") (some (some (.ref (He.ma K (He.ga K c) "__init__")))) &&
  (decide (PySem.W.typeIn K (.ref (He.ma K (He.ga K c) "__init__")) = some (.type "function")) && (eflds c).all fun f => He.eqO (PySem.W.findIn K (.ref (He.ga K c)) f) (some none)))))))
def xfsB (c : Str) (K : PySem.W.Frag) : Bool := xfB K (He.ga K c) && (eflds c).all fun f => He.eqO (PySem.W.findIn K (.ref (He.ga K c)) f) (some none)
def tyNames : List String := ["NoneType", "bool", "int", "str", "tuple", "list"]
def neOk (K : PySem.W.Frag) (C : Addr) : Bool := PySem.W.findIn K (.ref C) "__ne__" == some (some (.builtin "object.__ne__")) && PySem.W.mroIn K C (.type "object") == some true
def isGok (K : PySem.W.Frag) (C : Addr) : Bool := PySem.W.findIn K (.ref C) "__class__" == some (some (.builtin "object.__class__")) && PySem.W.specialIn K (.builtin "object.__class__") "__get__" == some (some (.builtin "getset_descriptor.__get__")) && PySem.W.takesIn K (.builtin "object.__class__") == some true &&
  PySem.W.mroIn K C (.type "object") == some true && PySem.W.kitOne K (.ref C) (.ref C) == some true && tyNames.all fun t => PySem.W.kitOne K (.type t) (.ref C) == some false
end DL
namespace K04
open PySem PySem.Spec PyProof.Rows L2 DL
noncomputable section
def topS (i : Nat) : Stmt := PySem.Challenge.pw_bestreply_k04_games_as_rows.main.body.getD i (.Pass ⟨0, 0, 0, 0⟩)
abbrev sd__law_state : Stmt := topS 32
def a__law_state : He.DefD := ⟨("_law_state", none), "_law_state", "_law_state", defArgs sd__law_state, defBody sd__law_state, defScope sd__law_state, [], []⟩
abbrev sd__law_digit : Stmt := topS 33
def a__law_digit : He.DefD := ⟨("_law_digit", none), "_law_digit", "_law_digit", defArgs sd__law_digit, defBody sd__law_digit, defScope sd__law_digit, [], []⟩
abbrev sd__law_name : Stmt := topS 34
def a__law_name : He.DefD := ⟨("_law_name", none), "_law_name", "_law_name", defArgs sd__law_name, defBody sd__law_name, defScope sd__law_name, [], []⟩
abbrev sd__law_names : Stmt := topS 35
def a__law_names : He.DefD := ⟨("_law_names", none), "_law_names", "_law_names", defArgs sd__law_names, defBody sd__law_names, defScope sd__law_names, [], []⟩
abbrev sd__law_pay : Stmt := topS 36
def a__law_pay : He.DefD := ⟨("_law_pay", none), "_law_pay", "_law_pay", defArgs sd__law_pay, defBody sd__law_pay, defScope sd__law_pay, [], []⟩
abbrev sd__law_game : Stmt := topS 37
def a__law_game : He.DefD := ⟨("_law_game", none), "_law_game", "_law_game", defArgs sd__law_game, defBody sd__law_game, defScope sd__law_game, [], []⟩
abbrev sd__law_rows_of : Stmt := topS 38
def a__law_rows_of : He.DefD := ⟨("_law_rows_of", none), "_law_rows_of", "_law_rows_of", defArgs sd__law_rows_of, defBody sd__law_rows_of, defScope sd__law_rows_of, [], []⟩
abbrev sd_is_name : Stmt := topS 13
def a_is_name : He.DefD := ⟨("is_name", none), "is_name", "is_name", defArgs sd_is_name, defBody sd_is_name, defScope sd_is_name, [], []⟩
abbrev sd_asked_names : Stmt := topS 14
def a_asked_names : He.DefD := ⟨("asked_names", none), "asked_names", "asked_names", defArgs sd_asked_names, defBody sd_asked_names, defScope sd_asked_names, [], []⟩
abbrev sd_asked_once : Stmt := topS 15
def a_asked_once : He.DefD := ⟨("asked_once", none), "asked_once", "asked_once", defArgs sd_asked_once, defBody sd_asked_once, defScope sd_asked_once, [], []⟩
abbrev sd_asked_some : Stmt := topS 18
def a_asked_some : He.DefD := ⟨("asked_some", none), "asked_some", "asked_some", defArgs sd_asked_some, defBody sd_asked_some, defScope sd_asked_some, [], []⟩
abbrev sd_asked_pays : Stmt := topS 19
def a_asked_pays : He.DefD := ⟨("asked_pays", none), "asked_pays", "asked_pays", defArgs sd_asked_pays, defBody sd_asked_pays, defScope sd_asked_pays, [], []⟩
abbrev sd_Game_init : Stmt := inCls (topS 20) 0
def a_Game_init : He.DefD := ⟨("Game", some "__init__"), "__init__", "Game.__init__", defArgs sd_Game_init, defBody sd_Game_init, defScope sd_Game_init, [], []⟩
abbrev sd_Game_size : Stmt := inCls (topS 20) 3
def a_Game_size : He.DefD := ⟨("Game", some "size"), "size", "Game.size", defArgs sd_Game_size, defBody sd_Game_size, defScope sd_Game_size, [], []⟩
abbrev sd_Game_pay : Stmt := inCls (topS 20) 4
def a_Game_pay : He.DefD := ⟨("Game", some "pay"), "pay", "Game.pay", defArgs sd_Game_pay, defBody sd_Game_pay, defScope sd_Game_pay, [], []⟩
abbrev sd_Game_rows : Stmt := inCls (topS 20) 1
def a_Game_rows : He.DefD := ⟨("Game", some "rows"), "rows", "Game.rows", defArgs sd_Game_rows, defBody sd_Game_rows, defScope sd_Game_rows, [], []⟩
abbrev sd_Game_columns : Stmt := inCls (topS 20) 2
def a_Game_columns : He.DefD := ⟨("Game", some "columns"), "columns", "Game.columns", defArgs sd_Game_columns, defBody sd_Game_columns, defScope sd_Game_columns, [], []⟩
abbrev sd_game_rows : Stmt := topS 28
def a_game_rows : He.DefD := ⟨("game_rows", none), "game_rows", "game_rows", defArgs sd_game_rows, defBody sd_game_rows, defScope sd_game_rows, [], []⟩
abbrev sd_is_figures : Stmt := topS 25
def a_is_figures : He.DefD := ⟨("is_figures", none), "is_figures", "is_figures", defArgs sd_is_figures, defBody sd_is_figures, defScope sd_is_figures, [], []⟩
abbrev sd_is_number : Stmt := topS 26
def a_is_number : He.DefD := ⟨("is_number", none), "is_number", "is_number", defArgs sd_is_number, defBody sd_is_number, defScope sd_is_number, [], []⟩
abbrev sd_pair_in : Stmt := topS 27
def a_pair_in : He.DefD := ⟨("pair_in", none), "pair_in", "pair_in", defArgs sd_pair_in, defBody sd_pair_in, defScope sd_pair_in, [], []⟩
abbrev sd_parts_behind : Stmt := topS 29
def a_parts_behind : He.DefD := ⟨("parts_behind", none), "parts_behind", "parts_behind", defArgs sd_parts_behind, defBody sd_parts_behind, defScope sd_parts_behind, [], []⟩
abbrev sd_read_game : Stmt := topS 30
def a_read_game : He.DefD := ⟨("read_game", none), "read_game", "read_game", defArgs sd_read_game, defBody sd_read_game, defScope sd_read_game, [], []⟩
abbrev sd_Game_eq : Stmt := inCls (topS 20) 6
def a_Game_eq : He.DefD := ⟨("Game", some "__eq__"), "__eq__", "Game.__eq__", defArgs sd_Game_eq, defBody sd_Game_eq, defScope sd_Game_eq, [], []⟩
abbrev sd__law_refused : Stmt := topS 39
def a__law_refused : He.DefD := ⟨("_law_refused", none), "_law_refused", "_law_refused", defArgs sd__law_refused, defBody sd__law_refused, defScope sd__law_refused, [], []⟩
abbrev sd__law_great_right : Stmt := topS 40
def a__law_great_right : He.DefD := ⟨("_law_great_right", none), "_law_great_right", "_law_great_right", defArgs sd__law_great_right, defBody sd__law_great_right, defScope sd__law_great_right, [], []⟩
abbrev sd_law : Stmt := topS 41
def a_law : He.DefD := ⟨("law", none), "law", "law", defArgs sd_law, defBody sd_law, defScope sd_law, [], []⟩
abbrev sd_NoName_init : Stmt := inCls (topS 4) 0
def a_NoName_init : He.DefD := ⟨("NoName", some "__init__"), "__init__", "NoName.__init__", defArgs sd_NoName_init, defBody sd_NoName_init, defScope sd_NoName_init, [], []⟩
abbrev sd_Twice_init : Stmt := inCls (topS 5) 0
def a_Twice_init : He.DefD := ⟨("Twice", some "__init__"), "__init__", "Twice.__init__", defArgs sd_Twice_init, defBody sd_Twice_init, defScope sd_Twice_init, [], []⟩
abbrev sd_BadCount_init : Stmt := inCls (topS 3) 0
def a_BadCount_init : He.DefD := ⟨("BadCount", some "__init__"), "__init__", "BadCount.__init__", defArgs sd_BadCount_init, defBody sd_BadCount_init, defScope sd_BadCount_init, [], []⟩
abbrev sd_NoSide_init : Stmt := inCls (topS 6) 0
def a_NoSide_init : He.DefD := ⟨("NoSide", some "__init__"), "__init__", "NoSide.__init__", defArgs sd_NoSide_init, defBody sd_NoSide_init, defScope sd_NoSide_init, [], []⟩
abbrev sd_NoChoice_init : Stmt := inCls (topS 7) 0
def a_NoChoice_init : He.DefD := ⟨("NoChoice", some "__init__"), "__init__", "NoChoice.__init__", defArgs sd_NoChoice_init, defBody sd_NoChoice_init, defScope sd_NoChoice_init, [], []⟩
abbrev sd_BadRow_init : Stmt := inCls (topS 8) 0
def a_BadRow_init : He.DefD := ⟨("BadRow", some "__init__"), "__init__", "BadRow.__init__", defArgs sd_BadRow_init, defBody sd_BadRow_init, defScope sd_BadRow_init, [], []⟩
def fns : List He.DefD := [a__law_state, a__law_digit, a__law_name, a__law_names, a__law_pay, a__law_game, a__law_rows_of, a_is_name, a_asked_names, a_asked_once, a_asked_some, a_asked_pays, a_Game_init, a_Game_size, a_Game_pay, a_Game_rows, a_Game_columns, a_game_rows, a_is_figures, a_is_number, a_pair_in, a_parts_behind, a_read_game, a_Game_eq, a__law_refused, a__law_great_right, a_law, a_NoName_init, a_Twice_init, a_BadCount_init, a_NoSide_init, a_NoChoice_init, a_BadRow_init]
def facts : List He.Fa := [.free "abs",
  .free "int",
  .glo "_law_digit",
  .free "range",
  .free "str",
  .glo "_law_name",
  .free "min",
  .glo "_law_names",
  .glo "_law_pay",
  .free "len",
  .int "LONGEST" 8,
  .str "LETTERS" "abcdefghijklmnopqrstuvwxyz",
  .str "FIGURES" "0123456789",
  .free "all",
  .glo "is_name",
  .glo "NoName",
  .glo "Twice",
  .int "MOST_CHOICES" 4,
  .glo "BadCount",
  .glo "asked_names",
  .glo "asked_once",
  .glo "asked_some",
  .glo "asked_pays",
  .free "tuple",
  .glo "Game",
  .cls "Game",
  .noat "Game" "called",
  .noat "Game" "table",
  .glo "NoSide",
  .free "enumerate",
  .glo "NoChoice",
  .free "list",
  .meth "Game" "columns",
  .meth "Game" "rows",
  .meth "Game" "size",
  .meth "Game" "pay",
  .int "MOST_FIGURES" 9,
  .glo "is_figures",
  .glo "is_number",
  .glo "WORDS",
  .glo "BadRow",
  .glo "pair_in",
  .glo "parts_behind",
  .int "FEWEST_ROWS" 3,
  .mkr "Game",
  .free "isinstance",
  .glo "read_game",
  .exm "BadRow" "BadRow" true,
  .exm "Twice" "BadRow" false,
  .exm "NoName" "BadRow" false,
  .exm "BadCount" "BadRow" false,
  .glo "game_rows",
  .glo "_law_rows_of",
  .glo "_law_refused",
  .glo "_law_state",
  .glo "_law_game",
  .meth "Game" "__eq__",
  .glo "_law_great_right",
  .glo "law"]
def exL (K : PySem.W.Frag) : List Bool := [xkfB "NoName" K,
  xkfB "Twice" K,
  xkfB "BadCount" K,
  xkfB "NoSide" K,
  xkfB "NoChoice" K,
  He.tupB K "WORDS" [.str "rows", .str "columns", .str "pay"],
  xkfB "BadRow" K,
  isGok K (He.ga K "Game"),
  xfsB "BadRow" K,
  neOk K (He.ga K "Game")]
def exB (K : PySem.W.Frag) : Bool := (exL K).all id
end
abbrev ROW : PySem.W.OpenRow := PySem.W.OpenLaw.row PySem.Challenge.rw_bestreply_k04_games_as_rows
abbrev hk : PySem.W.Hook := He.hookX 4 facts fns [] [] exB
def ob (s : PySem.W.SharedT) : He.AlX := He.obsX 4 facts fns [] [] exB (HandSHeadRun.getT s)
theorem ob_eq (s : PySem.W.SharedT) : ob s = hk.obs s.abs := He.obsX_eq (HandSHeadRun.getT_eq s)
def loose0 : List Str := ["_wall", "ReplyError", "BadCount", "NoName", "Twice", "NoSide", "NoChoice", "BadRow", "LETTERS", "FIGURES", "LONGEST", "is_name", "asked_names", "asked_once", "MOST_CHOICES", "asked_some", "asked_pays", "Game", "MOST_FIGURES", "WORDS"]
def loose1 : List Str := ["FEWEST_ROWS", "is_figures", "is_number", "pair_in", "game_rows", "parts_behind", "read_game", "_law_state", "_law_digit", "_law_name", "_law_names", "_law_pay", "_law_game", "_law_rows_of", "_law_refused", "_law_great_right"]
def loose : List Str := List.append (loose0) loose1
theorem run (w : World) : HandSHeadRun.RunEq ROW (PySem.W.view ROW.prog [41]) hk ob 12000 loose w := by
  intro os
  kernel_rfl
end K04
namespace DL
open PySem PySem.Spec PyProof.Rows L2
inductive D where
  | unb
  | non
  | bl (b : Bool)
  | int (i : Int)
  | str (s : Str)
  | tup (l : List D)
  | ctp (l : List D)
  | lst (l : List D)
  | ins (c : Str) (l : List D)
  | ml (l : List D)
  | mi (c : Str) (l : List D)
  | dic (ks : List Key) (l : List D)
  | md (ks : List Key) (l : List D)
  | mt (l : List D)
  | dct (ks : List (List Key)) (l : List D)
  | mdt (ks : List (List Key)) (l : List D)
  | dcl (ks : List (List Key)) (l : List D)
instance : Inhabited D := ⟨.unb⟩
/-- the fields of the program's own classes, in the order in which they are stored -/
def flds (c : Str) : List Str :=
  if c = "Game" then ["called", "table"]
  else if c = "Trial" then ["mine", "its", "sizes", "more"]
  else if c = "Table" then ["wide", "lines", "chosen", "last"]
  else if c = "Book" then ["now", "held", "past", "on"]
  else if c = "Desk" then ["kept_book"]
  else []
/-- what stands behind the module's top -/
structure Mo where
  K : PySem.W.Frag
  mg : Str → Option Value
def Ex (H H' : Hp) : Prop := ∀ a o, H a = some o → H' a = some o
theorem Ex.refl (H : Hp) : Ex H H := fun _ _ h => h
theorem Ex.trans {H H1 H2 : Hp} (a : Ex H H1) (b : Ex H1 H2) : Ex H H2 := fun x o h => b x o (a x o h)
theorem Ex.new {H : Hp} {p : Addr} {o : HO} (h : H p = none) : Ex H (upd H p o) := fun a u e => by
  rw [upd_ne (ne_of_none e h)]
  exact e
theorem ex_l {K : PySem.W.Frag} {H H' : Hp} {a : Addr} {xs : List V} (e : Ex H H') (h : SqL K H a xs) : SqL K H' a xs := by
  rcases h with (h | ⟨o, h⟩) | h
  · exact .inl (.inl (e _ _ h))
  · exact .inl (.inr ⟨o, e _ _ h⟩)
  · exact .inr h
theorem ex_t {K : PySem.W.Frag} {H H' : Hp} {a : Addr} {xs : List V} (e : Ex H H') (h : SqT K H a xs) : SqT K H' a xs := by
  rcases h with (h | ⟨o, h⟩) | h
  · exact .inl (.inl (e _ _ h))
  · exact .inl (.inr ⟨o, e _ _ h⟩)
  · exact .inr h
mutual
inductive Rp (M : Mo) (F : Hp) : D → V → Prop
  | non : Rp M F .non .non
  | bl (b : Bool) : Rp M F (.bl b) (.bl b)
  | int (i : Int) : Rp M F (.int i) (.int i)
  | str (s : Str) : Rp M F (.str s) (.str s)
  | tup {a : Addr} {xs : List V} {l : List D} : F a = some (.tup xs) → RpL M F l xs → Rp M F (.tup l) (.ref a)
  | ctp {a : Addr} {xs : List V} {l : List D} : (∀ F', SqT M.K F' a xs) → RpL M F l xs → Rp M F (.ctp l) (.ref a)
  | lst {a : Addr} {xs : List V} {l : List D} : SqL M.K F a xs → RpL M F l xs → Rp M F (.lst l) (.ref a)
  | ins {c : Str} {a C dx : Addr} {fs : List (Str × V)} {l : List D} : M.mg c = some (.ref C) → fs.map (·.1) = (flds c).take fs.length → F a = some (.ins C dx fs) → RpL M F l (fs.map (·.2)) → Rp M F (.ins c l) (.ref a)
  | dic {a : Addr} {kvs : List (Key × V)} {ks : List Key} {l : List D} : F a = some (.dK kvs) → kvs.map (·.1) = ks → RpL M F l (kvs.map (·.2)) → Rp M F (.dic ks l) (.ref a)
  | dct {a : Addr} {kvs : List (List Key × V)} {ks : List (List Key)} {l : List D} : F a = some (.dT kvs) → kvs.map (·.1) = ks → RpL M F l (kvs.map (·.2)) → Rp M F (.dct ks l) (.ref a)
  | dcl {a : Addr} {od : Obj} {kvs : List (List Key × V)} {ks : List (List Key)} {l : List D} : F a = some (.frz od (.dT kvs)) → kvs.map (·.1) = ks → RpL M F l (kvs.map (·.2)) → Rp M F (.dcl ks l) (.ref a)
inductive RpL (M : Mo) (F : Hp) : List D → List V → Prop
  | nil : RpL M F [] []
  | cons {d : D} {l : List D} {v : V} {xs : List V} : Rp M F d v → RpL M F l xs → RpL M F (d :: l) (v :: xs)
end
mutual
theorem Rp.mono {M : Mo} {F F' : Hp} (e : Ex F F') : ∀ {d : D} {v : V}, Rp M F d v → Rp M F' d v
  | _, _, .non => .non
  | _, _, .bl b => .bl b
  | _, _, .int i => .int i
  | _, _, .str s => .str s
  | _, _, .tup h q => .tup (e _ _ h) (RpL.mono e q)
  | _, _, .ctp h q => .ctp h (RpL.mono e q)
  | _, _, .lst h q => .lst (ex_l e h) (RpL.mono e q)
  | _, _, .ins h1 h0 h2 q => .ins h1 h0 (e _ _ h2) (RpL.mono e q)
  | _, _, .dic h1 h2 q => .dic (e _ _ h1) h2 (RpL.mono e q)
  | _, _, .dct h1 h2 q => .dct (e _ _ h1) h2 (RpL.mono e q)
  | _, _, .dcl h1 h2 q => .dcl (e _ _ h1) h2 (RpL.mono e q)
theorem RpL.mono {M : Mo} {F F' : Hp} (e : Ex F F') : ∀ {l : List D} {xs : List V}, RpL M F l xs → RpL M F' l xs
  | _, _, .nil => .nil
  | _, _, .cons h q => .cons (h.mono e) (RpL.mono e q)
end
theorem RpL.length {M : Mo} {F : Hp} : ∀ {l : List D} {xs : List V}, RpL M F l xs → l.length = xs.length
  | _, _, .nil => rfl
  | _, _, .cons _ q => congrArg (· + 1) q.length
theorem RpL.get {M : Mo} {F : Hp} : ∀ {l : List D} {xs : List V} {i : Nat} {d : D}, RpL M F l xs → l[i]? = some d → ∃ v, xs[i]? = some v ∧ Rp M F d v
  | _, _, _, _, .nil, e => by simp at e
  | _, _, 0, _, .cons h _, e => by simp at e; subst e; exact ⟨_, rfl, h⟩
  | _, _, i + 1, _, .cons _ q, e => by
    obtain ⟨v, h1, h2⟩ := q.get (i := i) (by simpa using e)
    exact ⟨v, by simpa using h1, h2⟩
theorem RpL.append {M : Mo} {F : Hp} : ∀ {l m : List D} {xs ys : List V}, RpL M F l xs → RpL M F m ys → RpL M F (l ++ m) (xs ++ ys)
  | _, _, _, _, .nil, q => q
  | _, _, _, _, .cons h p, q => .cons h (p.append q)
theorem RpL.drop {M : Mo} {F : Hp} : ∀ {l : List D} {xs : List V} (n : Nat), RpL M F l xs → RpL M F (l.drop n) (xs.drop n)
  | _, _, 0, h => h
  | _, _, _ + 1, .nil => .nil
  | _, _, n + 1, .cons _ q => RpL.drop n q
theorem RpL.take {M : Mo} {F : Hp} : ∀ {l : List D} {xs : List V} (n : Nat), RpL M F l xs → RpL M F (l.take n) (xs.take n)
  | _, _, 0, _ => .nil
  | _, _, _ + 1, .nil => .nil
  | _, _, n + 1, .cons h q => .cons h (RpL.take n q)
theorem RpL.set {M : Mo} {F : Hp} {d : D} {v : V} (h : Rp M F d v) : ∀ {l : List D} {xs : List V} (n : Nat), RpL M F l xs → RpL M F (l.set n d) (xs.set n v)
  | _, _, _, .nil => .nil
  | _, _, 0, .cons _ q => .cons h q
  | _, _, n + 1, .cons p q => .cons p (RpL.set h n q)
theorem RpL.ints {M : Mo} {F : Hp} : ∀ (ns : List Int), RpL M F (ns.map D.int) (ns.map V.int)
  | [] => .nil
  | n :: r => .cons (.int n) (RpL.ints r)
theorem RpL.ints_inv {M : Mo} {F : Hp} : ∀ {ns : List Int} {xs : List V}, RpL M F (ns.map D.int) xs → xs = ns.map V.int
  | [], _, .nil => rfl
  | n :: r, _, .cons h q => by
    cases h
    rw [RpL.ints_inv q]
    rfl
abbrev Own := Addr → Option (List Nat)
mutual
inductive Ow (M : Mo) (W : Own) (F H : Hp) : List Nat → D → V → Prop
  | fz {p : List Nat} {d : D} {v : V} : Rp M F d v → Ow M W F H p d v
  | ml {p : List Nat} {a : Addr} {xs : List V} {l : List D} : W a = some p → H a = some (.lst xs) → OwL M W F H p 0 l xs → Ow M W F H p (.ml l) (.ref a)
  | mi {p : List Nat} {c : Str} {a C dx : Addr} {fs : List (Str × V)} {l : List D} : W a = some p → W dx = some p → dx ≠ a → M.mg c = some (.ref C) ∧ fs.map (·.1) = (flds c).take fs.length → H a = some (.ins C dx fs) → H dx = some (.own a) →
      OwL M W F H p 0 l (fs.map (·.2)) → Ow M W F H p (.mi c l) (.ref a)
  | md {p : List Nat} {a : Addr} {kvs : List (Key × V)} {ks : List Key} {l : List D} : W a = some p → H a = some (.dK kvs) → kvs.map (·.1) = ks → OwL M W F H p 0 l (kvs.map (·.2)) → Ow M W F H p (.md ks l) (.ref a)
  | mt {p : List Nat} {a : Addr} {xs : List V} {l : List D} : W a = some p → H a = some (.tup xs) → OwL M W F H p 0 l xs → Ow M W F H p (.mt l) (.ref a)
  | mdt {p : List Nat} {a : Addr} {kvs : List (List Key × V)} {ks : List (List Key)} {l : List D} : W a = some p → H a = some (.dT kvs) → kvs.map (·.1) = ks → OwL M W F H p 0 l (kvs.map (·.2)) → Ow M W F H p (.mdt ks l) (.ref a)
inductive OwL (M : Mo) (W : Own) (F H : Hp) : List Nat → Nat → List D → List V → Prop
  | nil {p : List Nat} {k : Nat} : OwL M W F H p k [] []
  | cons {p : List Nat} {k : Nat} {d : D} {l : List D} {v : V} {xs : List V} : Ow M W F H (p ++ [k]) d v → OwL M W F H p (k + 1) l xs → OwL M W F H p k (d :: l) (v :: xs)
end
mutual
theorem Ow.tr {M : Mo} {W W' : Own} {F F' H H' : Hp} (e : Ex F F') : ∀ {p p' : List Nat} {d : D} {v : V}, (∀ a q, W a = some (p ++ q) → W' a = some (p' ++ q) ∧ ∀ o, H a = some o → H' a = some o) → Ow M W F H p d v → Ow M W' F' H' p' d v
  | _, _, _, _, _, .fz h => .fz (h.mono e)
  | p, p', _, _, k, .ml (a := a) h1 h2 q => by
    have z := k a [] (by rw [List.append_nil]; exact h1)
    rw [List.append_nil] at z
    exact .ml z.1 (z.2 _ h2) (OwL.tr e (p := p) (p' := p') k q)
  | p, p', _, _, k, .mi (a := a) (dx := dx) h1 h2 h3 h4 h5 h6 q => by
    have z := k a [] (by rw [List.append_nil]; exact h1)
    have y := k dx [] (by rw [List.append_nil]; exact h2)
    rw [List.append_nil] at z y
    exact .mi z.1 y.1 h3 h4 (z.2 _ h5) (y.2 _ h6) (OwL.tr e (p := p) (p' := p') k q)
  | p, p', _, _, k, .md (a := a) h1 h2 h3 q => by
    have z := k a [] (by rw [List.append_nil]; exact h1)
    rw [List.append_nil] at z
    exact .md z.1 (z.2 _ h2) h3 (OwL.tr e (p := p) (p' := p') k q)
  | p, p', _, _, k, .mt (a := a) h1 h2 q => by
    have z := k a [] (by rw [List.append_nil]; exact h1)
    rw [List.append_nil] at z
    exact .mt z.1 (z.2 _ h2) (OwL.tr e (p := p) (p' := p') k q)
  | p, p', _, _, k, .mdt (a := a) h1 h2 h3 q => by
    have z := k a [] (by rw [List.append_nil]; exact h1)
    rw [List.append_nil] at z
    exact .mdt z.1 (z.2 _ h2) h3 (OwL.tr e (p := p) (p' := p') k q)
theorem OwL.tr {M : Mo} {W W' : Own} {F F' H H' : Hp} (e : Ex F F') : ∀ {p p' : List Nat} {k : Nat} {l : List D} {xs : List V}, (∀ a q, W a = some (p ++ q) → W' a = some (p' ++ q) ∧ ∀ o, H a = some o → H' a = some o) → OwL M W F H p k l xs → OwL M W' F' H' p' k l xs
  | _, _, _, _, _, _, .nil => .nil
  | p, p', j, _, _, k, .cons h q => .cons (Ow.tr e (p := p ++ [j]) (p' := p' ++ [j]) (fun a r z => by
      have y := k a ([j] ++ r) (by rw [← List.append_assoc]; exact z)
      rw [← List.append_assoc] at y
      exact y) h) (OwL.tr e k q)
end
mutual
def frz : D → D
  | .ml l => .lst (frzL l)
  | .mi c l => .ins c (frzL l)
  | .md ks l => .dic ks (frzL l)
  | .mt l => .tup (frzL l)
  | .mdt ks l => .dct ks (frzL l)
  | .dct ks l => .dct ks l
  | .dcl ks l => .dcl ks l
  | .dic ks l => .dic ks l
  | .unb => .unb
  | .non => .non
  | .bl b => .bl b
  | .int i => .int i
  | .str s => .str s
  | .tup l => .tup l
  | .ctp l => .ctp l
  | .lst l => .lst l
  | .ins c l => .ins c l
def frzL : List D → List D
  | [] => []
  | d :: l => frz d :: frzL l
end
theorem Rp.frz_eq {M : Mo} {F : Hp} {d : D} {v : V} (h : Rp M F d v) : frz d = d := by
  cases h <;> (unfold frz; rfl)
mutual
theorem Ow.frz {M : Mo} {W : Own} {F F' H : Hp} (e : Ex F F') : ∀ {p : List Nat} {d : D} {v : V}, (∀ a q o, W a = some (p ++ q) → H a = some o → F' a = some o) → Ow M W F H p d v → Rp M F' (frz d) v
  | _, _, _, _, .fz h => by
    rw [h.frz_eq]
    exact h.mono e
  | p, _, _, k, .ml (a := a) h1 h2 q => by
    unfold DL.frz
    exact .lst (SqL.of (k a [] _ (by rw [List.append_nil]; exact h1) h2)) (OwL.frz e k q)
  | p, _, _, k, .mi (a := a) h1 h2 h3 h4 h5 h6 q => by
    unfold DL.frz
    exact .ins h4.1 h4.2 (k a [] _ (by rw [List.append_nil]; exact h1) h5) (OwL.frz e k q)
  | p, _, _, k, .md (a := a) h1 h2 h3 q => by
    unfold DL.frz
    exact .dic (k a [] _ (by rw [List.append_nil]; exact h1) h2) h3 (OwL.frz e k q)
  | p, _, _, k, .mt (a := a) h1 h2 q => by
    unfold DL.frz
    exact .tup (k a [] _ (by rw [List.append_nil]; exact h1) h2) (OwL.frz e k q)
  | p, _, _, k, .mdt (a := a) h1 h2 h3 q => by
    unfold DL.frz
    exact .dct (k a [] _ (by rw [List.append_nil]; exact h1) h2) h3 (OwL.frz e k q)
theorem OwL.frz {M : Mo} {W : Own} {F F' H : Hp} (e : Ex F F') : ∀ {p : List Nat} {k : Nat} {l : List D} {xs : List V}, (∀ a q o, W a = some (p ++ q) → H a = some o → F' a = some o) → OwL M W F H p k l xs → RpL M F' (frzL l) xs
  | _, _, _, _, _, .nil => by
    unfold frzL
    exact .nil
  | p, j, _, _, k, .cons h q => by
    unfold frzL
    exact .cons (Ow.frz e (p := p ++ [j]) (fun a r o z y => k a ([j] ++ r) o (by rw [← List.append_assoc]; exact z) y) h) (OwL.frz e k q)
end
structure Ent where
  H0 : Hp
  F0 : Hp
  W0 : Own
  P : Nat → Option V
/-- a tuple of ints and texts: it never changes, and nobody owns it -/
def FlatO (o : HO) : Prop := ∃ ks : List Key, o = .tup (ks.map kV)
def FlatT (H : Hp) (a : Addr) : Prop := ∃ o, H a = some o ∧ FlatO o
theorem flat_lst {xs : List V} : ¬ FlatO (.lst xs) := fun ⟨_, z⟩ => nomatch z
theorem flat_dk {xs : List (Key × V)} : ¬ FlatO (.dK xs) := fun ⟨_, z⟩ => nomatch z
theorem flat_dt {xs : List (List Key × V)} : ¬ FlatO (.dT xs) := fun ⟨_, z⟩ => nomatch z
theorem flat_ins {C dx : Addr} {fs : List (Str × V)} : ¬ FlatO (.ins C dx fs) := fun ⟨_, z⟩ => nomatch z
theorem flat_own {x : Addr} : ¬ FlatO (.own x) := fun ⟨_, z⟩ => nomatch z
theorem FlatT.not {H : Hp} {a : Addr} {o : HO} (h : H a = some o) (n : ¬ FlatO o) : ¬ FlatT H a := fun ⟨u, h1, h2⟩ => by
  rw [h] at h1
  cases h1
  exact n h2
structure RelB (e : Ent) (W : Own) (F H : Hp) : Prop where
  pres : ∀ b o, e.W0 b = none → e.H0 b = some o → H b = some o
  exF0 : Ex e.F0 F
  exF : Ex F H
  sep : ∀ a, W a ≠ none → F a = none ∧ (e.W0 a ≠ none ∨ e.H0 a = none) ∧ H a ≠ none
  fresh : ∀ a r q, W a = some (r :: q) → e.H0 a = none ∨ ∃ i v q0, r = i + 1 ∧ e.P i = some v ∧ e.W0 a = some (r :: q0)
  new : ∀ b, F b ≠ none → e.F0 b ≠ none ∨ e.H0 b = none ∨ FlatT e.H0 b
  stay : ∀ b, e.H0 b ≠ none → H b ≠ none
  tups : ∀ b o, FlatO o → e.H0 b = some o → H b = some o
  tupr : ∀ b o, FlatO o → H b = some o → e.H0 b ≠ none → e.H0 b = some o
  nof : ∀ a, W a ≠ none → ¬ FlatT H a
structure Rel (M : Mo) (e : Ent) (W : Own) (F H : Hp) (env : List D) (σ : L2.St) : Prop extends RelB e W F H where
  len : env.length = σ.length
  slot : ∀ i d, env[i]? = some d → d ≠ .unb → ∃ v, σ[i]? = some (some v) ∧ Ow M W F H [i + 1] d v
  pin : ∀ i v, e.P i = some v → σ[i]? = some (some v)
inductive R (α : Type) where
  | ok (a : α) (env : List D)
  | ex (c : Str) (fs : List D) (env : List D)
  | bad
def bindR {α β : Type} (r : R α) (f : α → List D → R β) : R β := match r with
  | .ok a env => f a env
  | .ex c fs env => .ex c fs env
  | .bad => .bad
@[simp] theorem bindR_ok {α β : Type} (a : α) (env : List D) (f : α → List D → R β) : bindR (.ok a env) f = f a env := rfl
@[simp] theorem bindR_ex {α β : Type} (c : Str) (fs env : List D) (f : α → List D → R β) : bindR (.ex c fs env) f = .ex c fs env := rfl
@[simp] theorem bindR_bad {α β : Type} (f : α → List D → R β) : bindR .bad f = .bad := rfl
/-- an exception of the class c, its fields in the order of eflds, as it lies behind -/
def XR (M : Mo) (F : Hp) (c : Str) (fs : List D) (cls : Value) (dd : Option Addr) : Prop :=
  ∃ C : Addr, cls = .ref C ∧ M.mg c = some (.ref C) ∧ ((fs = [] ∧ eflds c = [] ∧ dd = none) ∨ ∃ dx gs, eflds c ≠ [] ∧ dd = some dx ∧ F dx = some (.xd gs) ∧ gs.map (·.1) = (eflds c).reverse ∧ RpL M F fs.reverse (gs.map (·.2)))
theorem XR.mono {M : Mo} {F F' : Hp} {c : Str} {fs : List D} {cls : Value} {dd : Option Addr} (h : XR M F c fs cls dd) (e : Ex F F') : XR M F' c fs cls dd := by
  obtain ⟨C, h1, h2, h3⟩ := h
  refine ⟨C, h1, h2, ?_⟩
  rcases h3 with h3 | ⟨dx, gs, h0, h4, h5, h6, h7⟩
  · exact .inl h3
  · exact .inr ⟨dx, gs, h0, h4, e _ _ h5, h6, h7.mono e⟩
section
variable {α β : Type} (M : Mo) (e : Ent) (wx : WX) (rep : Hp → α → β → Prop)
def At (F : Hp) (σ : L2.St) (r : R α) (Q : β → Hp → Prop) : Prop := match r with
  | .ok d env' => ∀ W' F' H' v, Rel M e W' F' H' env' σ → Ex F F' → rep F' d v → Q v H'
  | .ex c fs env' => ∀ W' F' H' cls dd, Rel M e W' F' H' env' σ → Ex F F' → XR M F' c fs cls dd → wx cls dd σ H'
  | .bad => False
def tR (den : List D → R α) : L2.St → Hp → (β → Hp → Prop) → Prop := fun σ H Q => ∃ W F env, Rel M e W F H env σ ∧ At M e wx rep F σ (den env) Q
end
/-- the frame of a judgement: what stood at the entry, what the code wishes of exceptions -/
structure J where
  e : Ent
  wx : WX
abbrev tE (M : Mo) (j : J) (den : List D → R D) : TE := tR M j.e j.wx (Rp M) den
abbrev tT (M : Mo) (j : J) (den : List D → R Bool) : TT := tR M j.e j.wx (fun _ a b => a = b) den
abbrev mo (X : Cx) : Mo := ⟨X.K, X.mg⟩
abbrev DE (X : Cx) (j : J) (e : Expr) (den : List D → R D) : Prop := PE X e (tE (mo X) j den)
abbrev DT (X : Cx) (j : J) (e : Expr) (den : List D → R Bool) : Prop := PT X e (tT (mo X) j den)
/-- what is new is new, in what is known and in the heap -/
structure Grow (F H F' H' : Hp) : Prop where
  exF : Ex F F'
  exH : Ex H H'
  sub : Ex F' H'
  new : ∀ b, F' b ≠ none → F b ≠ none ∨ H b = none ∨ FlatT H b
theorem Grow.refl {F H : Hp} (e : Ex F H) : Grow F H F H := ⟨Ex.refl F, Ex.refl H, e, fun _ h => .inl h⟩
theorem Ex.none {F H : Hp} (e : Ex F H) {b : Addr} (h : H b = Option.none) : F b = Option.none := by
  cases q : F b with
  | none => rfl
  | some o =>
    rw [e b o q] at h
    cases h
theorem Grow.one {F H : Hp} (e : Ex F H) {p : Addr} {o : HO} (n : H p = none) : Grow F H (upd F p o) (upd H p o) :=
  ⟨Ex.new (e.none n), Ex.new n, fun b u q => by
    by_cases h : b = p
    · subst h
      rw [upd_same] at q ⊢
      exact q
    · rw [upd_ne h] at q ⊢
      exact e b u q, fun b h => by
    by_cases hb : b = p
    · subst hb
      exact .inr (.inl n)
    · rw [upd_ne hb] at h
      exact .inl h⟩
theorem Grow.trans {F H F1 H1 F2 H2 : Hp} (a : Grow F H F1 H1) (b : Grow F1 H1 F2 H2) : Grow F H F2 H2 :=
  ⟨a.exF.trans b.exF, a.exH.trans b.exH, b.sub, fun c h => by
    rcases b.new c h with h | h | ⟨o, h, hf⟩
    · exact a.new c h
    · exact .inr (.inl (a.exH.none h))
    · cases q : H c with
      | none => exact .inr (.inl rfl)
      | some u =>
        rw [a.exH c u q] at h
        cases h
        exact .inr (.inr ⟨_, q, hf⟩)⟩
theorem RelB.grow {e : Ent} {W : Own} {F H F' H' : Hp} (r : RelB e W F H) (g : Grow F H F' H') : RelB e W F' H' where
  pres := fun b o h1 h2 => g.exH _ _ (r.pres b o h1 h2)
  exF0 := r.exF0.trans g.exF
  exF := g.sub
  sep := fun a ha => by
    obtain ⟨h1, h2, h3⟩ := r.sep a ha
    refine ⟨?_, h2, ?_⟩
    · cases q : F' a with
      | none => rfl
      | some o =>
        rcases g.new a (by rw [q]; simp) with h | h | h
        · exact absurd h1 h
        · exact absurd h h3
        · exact absurd h (r.nof a ha)
    · cases q : H a with
      | none => exact absurd q h3
      | some o => rw [g.exH a o q]; simp
  new := fun b hb => by
    rcases g.new b hb with h | h | ⟨o, h, hf⟩
    · exact r.new b h
    · refine .inr (.inl ?_)
      cases q : e.H0 b with
      | none => rfl
      | some o => exact absurd h (r.stay b (by rw [q]; simp))
    · cases q : e.H0 b with
      | none => exact .inr (.inl rfl)
      | some u => exact .inr (.inr ⟨o, r.tupr b o hf h (by rw [q]; simp), hf⟩)
  stay := fun b hb => by
    have h := r.stay b hb
    cases q : H b with
    | none => exact absurd q h
    | some o => rw [g.exH b o q]; simp
  fresh := r.fresh
  tups := fun b o hf h => g.exH _ _ (r.tups b o hf h)
  tupr := fun b o hf h z => r.tupr b o hf (by
    cases q : H b with
    | none => exact absurd q (r.stay b z)
    | some u => rw [← h, g.exH b u q]) z
  nof := fun a h => by
    cases q : H a with
    | none => exact absurd q (r.sep a h).2.2
    | some u =>
      rintro ⟨o, h1, h2⟩
      rw [g.exH a u q] at h1
      cases h1
      exact r.nof a h ⟨_, q, h2⟩
theorem Rel.grow {M : Mo} {e : Ent} {W : Own} {F H F' H' : Hp} {env : List D} {σ : L2.St} (r : Rel M e W F H env σ) (g : Grow F H F' H') : Rel M e W F' H' env σ where
  toRelB := r.toRelB.grow g
  len := r.len
  slot := fun i d h1 h2 => by
    obtain ⟨v, h3, h4⟩ := r.slot i d h1 h2
    exact ⟨v, h3, h4.tr g.exF fun a q z => ⟨z, fun o y => g.exH a o y⟩⟩
  pin := r.pin
theorem At.mono {α β : Type} {M : Mo} {e : Ent} {wx : WX} {rep : Hp → α → β → Prop} {F F1 : Hp} {σ : L2.St} {r : R α} {Q : β → Hp → Prop} (h : At M e wx rep F σ r Q) (x : Ex F F1) : At M e wx rep F1 σ r Q := by
  cases r with
  | ok d env' => exact fun W' F' H' v a b c => h W' F' H' v a (x.trans b) c
  | ex c fs env' => exact fun W' F' H' cls dd a b c => h W' F' H' cls dd a (x.trans b) c
  | bad => exact h
/-- one thing behind another one -/
theorem At.bind {α β γ δ : Type} {M : Mo} {e : Ent} {wx : WX} {rep : Hp → α → β → Prop} {rep2 : Hp → γ → δ → Prop} {F : Hp} {σ : L2.St} {r : R α} {f : α → List D → R γ} {Q : δ → Hp → Prop} {P : β → Hp → Prop}
    (h : At M e wx rep2 F σ (bindR r f) Q)
    (k : ∀ d env1 W1 F1 H1 v, r = .ok d env1 → Rel M e W1 F1 H1 env1 σ → Ex F F1 → rep F1 d v → At M e wx rep2 F1 σ (f d env1) Q → P v H1) : At M e wx rep F σ r P := by
  cases r with
  | ok d env' => exact fun W' F' H' v a b c => k d env' W' F' H' v rfl a b c (h.mono b)
  | ex c fs env' => exact h
  | bad => exact h
theorem At.now {α β : Type} {M : Mo} {e : Ent} {wx : WX} {rep : Hp → α → β → Prop} {F : Hp} {W : Own} {H : Hp} {σ : L2.St} {d : α} {env : List D} {v : β} {Q : β → Hp → Prop} (h : At M e wx rep F σ (.ok d env) Q) (r : Rel M e W F H env σ) (p : rep F d v) : Q v H := h W F H v r (Ex.refl F) p
theorem PE.mono {X : Cx} {e : Expr} {t t' : TE} (h : PE X e t) (k : ∀ σ H Q, t' σ H Q → t σ H Q) : PE X e t' := ⟨fun pins s σ H Q I q => h.run pins s σ H Q I (k σ H Q q)⟩
theorem PT.mono {X : Cx} {e : Expr} {t t' : TT} (h : PT X e t) (k : ∀ σ H Q, t' σ H Q → t σ H Q) : PT X e t' := ⟨fun pins s σ H Q I q => h.run pins s σ H Q I (k σ H Q q)⟩
theorem PW.mono {X : Cx} {e : Expr} {t t' : TT} (h : PW X e t) (k : ∀ σ H Q, t' σ H Q → t σ H Q) : PW X e t' := ⟨fun whole pins s σ H Q I q => h.run whole pins s σ H Q I (k σ H Q q)⟩
theorem PA.mono {X : Cx} {e : List Expr} {t t' : TA} (h : PA X e t) (k : ∀ σ H Q, t' σ H Q → t σ H Q) : PA X e t' := ⟨fun pos pins s σ H Q I q => h.run pos pins s σ H Q I (k σ H Q q)⟩
theorem PS.mono {X : Cx} {e : Stmt} {t t' : TS} (h : PS X e t) (k : ∀ D σ H, t' D σ H → t D σ H) : PS X e t' := ⟨fun pins s σ H D I q => h.run pins s σ H D I (k D σ H q)⟩
theorem PSs.mono {X : Cx} {e : List Stmt} {t t' : TS} (h : PSs X e t) (k : ∀ D σ H, t' D σ H → t D σ H) : PSs X e t' := ⟨fun pins s σ H D I q => h.run pins s σ H D I (k D σ H q)⟩
theorem PI.mono {X : Cx} {tg iter : Expr} {t t' : TI} (h : PI X tg iter t) (k : ∀ σ H R, t' σ H R → t σ H R) : PI X tg iter t' := ⟨fun pins s σ H R I q => h.run pins s σ H R I (k σ H R q)⟩
section
variable {α β : Type} {M : Mo} {e : Ent} {wx : WX} {rep : Hp → α → β → Prop} {F F' H H' : Hp} {W : Own} {env : List D} {σ : L2.St}
/-- a thing that only makes new objects -/
theorem At.grow {d : α} {v : β} {Q : β → Hp → Prop} (h : At M e wx rep F σ (.ok d env) Q) (r : Rel M e W F H env σ) (g : Grow F H F' H') (p : rep F' d v) : Q v H' := h W F' H' v (r.grow g) g.exF p
end
end DL
namespace DL
open PySem PySem.Spec PyProof.Rows L2
def OpD (X : Cx) (op : Value → Value → Sem Value) (f : D → D → Option D) : Prop :=
  ∀ (pins : List (Addr × Obj)) (s : Shared) (σ : L2.St) (F H : Hp) (dx dy d : D) (x y : V) (v u : Value) (Q : VK), Inv X pins σ H s → Ex F H → Rp (mo X) F dx x → Rp (mo X) F dy y → RelV x v → RelV y u →
    f dx dy = some d → (∀ F' H' z, Grow F H F' H' → Rp (mo X) F' d z → Q z H') → wpAny (model X.prog X.w) X.A (op v u) (EP X pins σ Q) X.xe s
def UnD (X : Cx) (op : Value → Sem Value) (f : D → Option D) : Prop :=
  ∀ (pins : List (Addr × Obj)) (s : Shared) (σ : L2.St) (F H : Hp) (dx d : D) (x : V) (v : Value) (Q : VK), Inv X pins σ H s → Ex F H → Rp (mo X) F dx x → RelV x v →
    f dx = some d → (∀ F' H' z, Grow F H F' H' → Rp (mo X) F' d z → Q z H') → wpAny (model X.prog X.w) X.A (op v) (EP X pins σ Q) X.xe s
/-- a built-in that is called -/
def CallD (X : Cx) (g : Value) (f : List D → Option D) : Prop :=
  ∀ (pins : List (Addr × Obj)) (s : Shared) (σ : L2.St) (F H : Hp) (ds : List D) (d : D) (xs : List V) (us : List Value) (Q : VK), Inv X pins σ H s → Ex F H → RpL (mo X) F ds xs → Vals xs us →
    f ds = some d → (∀ F' H' z, Grow F H F' H' → Rp (mo X) F' d z → Q z H') → wpAny (model X.prog X.w) X.A (call g us) (EP X pins σ Q) X.xe s
def opR (o : Option D) (env : List D) : R D := match o with
  | some d => .ok d env
  | none => .bad
@[simp] theorem opR_some (d : D) (env : List D) : opR (some d) env = .ok d env := rfl
@[simp] theorem opR_none (env : List D) : opR none env = .bad := rfl
def rOpD (X : Cx) (f : D → D → Option D) : R2 := fun x y H Q => ∃ F dx dy d, Ex F H ∧ Rp (mo X) F dx x ∧ Rp (mo X) F dy y ∧ f dx dy = some d ∧ ∀ F' H' z, Grow F H F' H' → Rp (mo X) F' d z → Q z H'
theorem OpD.r {X : Cx} {op : Value → Value → Sem Value} {f : D → D → Option D} (h : OpD X op f) : OpR X op (rOpD X f) := fun pins s σ H x y v u Q I rx ry ⟨F, dx, dy, d, e, p1, p2, e1, q⟩ =>
  h pins s σ F H dx dy d x y v u Q I e p1 p2 rx ry e1 q
def rUnD (X : Cx) (f : D → Option D) : V → Hp → VK → Prop := fun x H Q => ∃ F dx d, Ex F H ∧ Rp (mo X) F dx x ∧ f dx = some d ∧ ∀ F' H' z, Grow F H F' H' → Rp (mo X) F' d z → Q z H'
theorem UnD.r {X : Cx} {op : Value → Sem Value} {f : D → Option D} (h : UnD X op f) : UnR X op (rUnD X f) := fun pins s σ H x v Q I rx ⟨F, dx, d, e, p1, e1, q⟩ =>
  h pins s σ F H dx d x v Q I e p1 rx e1 q
def rCallD (X : Cx) (f : List D → Option D) : List V → Hp → VK → Prop := fun xs H Q => ∃ F ds d, Ex F H ∧ RpL (mo X) F ds xs ∧ f ds = some d ∧ ∀ F' H' z, Grow F H F' H' → Rp (mo X) F' d z → Q z H'
theorem CallD.r {X : Cx} {g : Value} {f : List D → Option D} (h : CallD X g f) : CallR X g (rCallD X f) := fun pins s σ H xs us Q I rx ⟨F, ds, d, e, p1, e1, q⟩ =>
  h pins s σ F H ds d xs us Q I e p1 rx e1 q
def constD (d : D) : List D → R D := fun env => .ok d env
def isOwn : D → Bool
  | .ml _ => true
  | .mi _ _ => true
  | .md _ _ => true
  | .mdt _ _ => true
  | .mt _ => true
  | .unb => true
  | _ => false
def varD (i : Nat) : List D → R D := fun env => if isOwn (env.getD i .unb) then .bad else .ok (env.getD i .unb) env
def binD (f : D → D → Option D) (da db : List D → R D) : List D → R D := fun env => bindR (da env) fun x env1 => bindR (db env1) fun y env2 => opR (f x y) env2
def unD (f : D → Option D) (da : List D → R D) : List D → R D := fun env => bindR (da env) fun x env1 => opR (f x) env1
def nilD : List D → R (List D) := fun env => .ok [] env
def consD (da : List D → R D) (dr : List D → R (List D)) : List D → R (List D) := fun env => bindR (da env) fun x env1 => bindR (dr env1) fun xs env2 => .ok (x :: xs) env2
def callBD (f : List D → Option D) (da : List D → R (List D)) : List D → R D := fun env => bindR (da env) fun xs env1 => opR (f xs) env1
def testD (da : List D → R D) : List D → R Bool := fun env => bindR (da env) fun x env1 => match x with
  | .bl b => .ok b env1
  | _ => .bad
def andD (da db : List D → R Bool) : List D → R Bool := fun env => bindR (da env) fun b env1 => if b = true then db env1 else .ok false env1
def orD (da db : List D → R Bool) : List D → R Bool := fun env => bindR (da env) fun b env1 => if b = true then .ok true env1 else db env1
def notD (da : List D → R Bool) : List D → R Bool := fun env => bindR (da env) fun b env1 => .ok (!b) env1
def tupD (da : List D → R (List D)) : List D → R D := fun env => bindR (da env) fun xs env1 => if xs.length ≤ 1000 then .ok (.tup xs) env1 else .bad
def lstD (da : List D → R (List D)) : List D → R D := fun env => bindR (da env) fun xs env1 => if xs.length ≤ 1000 then .ok (.lst xs) env1 else .bad
theorem le_line {n : Nat} (h : n ≤ 1000) : n ≤ sizeLine := Nat.le_trans h (by decide)
section
variable {X : Cx} {j : J} {a b c : Expr} {es : List Expr} {pos : Pos} {da db dc : List D → R D} {dt du : List D → R Bool} {dl : List D → R (List D)}
theorem e_const {e : Expr} {d : D} {v : V} (h : PE X e (tC v)) (r : ∀ F, Rp (mo X) F d v) : DE X j e (constD d) :=
  PE.mono h fun σ H Q ⟨W, F, env, rel, q⟩ => q W F H v rel (Ex.refl F) (r F)
theorem e_int {i : Int} {k : Nat} : DE X j (.Constant (.int i) k pos) (constD (.int i)) := e_const pe_int fun _ => .int i
theorem e_bl {i : Bool} {k : Nat} : DE X j (.Constant (.bool i) k pos) (constD (.bl i)) := e_const pe_bl fun _ => .bl i
theorem e_non {k : Nat} : DE X j (.Constant .none k pos) (constD .non) := e_const pe_non fun _ => .non
theorem e_str {i : Str} {k : Nat} : DE X j (.Constant (.str i) k pos) (constD (.str i)) := e_const pe_str fun _ => .str i
/-- a constant of the module -/
theorem e_glob {x : Str} {v : V} {u : Value} {d : D} (hg : Gl X x) (hm : X.mg x = some u) (r : RelV v u) (p : ∀ F, Rp (mo X) F d v) (hd : (x == ("__debug__" : Str)) = false := by decide) : DE X j (.Name x pos) (constD d) := e_const (pe_glob hg hm r hd) p
theorem Ow.rp {M : Mo} {W : Own} {F H : Hp} {p : List Nat} {d : D} {v : V} (h : Ow M W F H p d v) (n : isOwn d = false) : Rp M F d v := by
  cases h with
  | fz h => exact h
  | ml _ _ _ => exact absurd n (by unfold isOwn; simp)
  | mi _ _ _ _ _ _ _ => exact absurd n (by unfold isOwn; simp)
  | md _ _ _ _ => exact absurd n (by unfold isOwn; simp)
  | mt _ _ _ => exact absurd n (by unfold isOwn; simp)
  | mdt _ _ _ _ => exact absurd n (by unfold isOwn; simp)
theorem getD_some {env : List D} {i : Nat} (h : isOwn (env.getD i .unb) = false) : env[i]? = some (env.getD i .unb) ∧ env.getD i .unb ≠ .unb := by
  constructor
  · rw [List.getD_eq_getElem?_getD] at h ⊢
    cases q : env[i]? with
    | none => rw [q] at h; exact absurd h (by unfold isOwn; simp)
    | some d => rfl
  · intro e
    rw [e] at h
    exact absurd h (by unfold isOwn; simp)
theorem e_var (i : Nat) {x : Str} (h : PE X (.Name x pos) (tVar i)) : DE X j (.Name x pos) (varD i) :=
  PE.mono h fun σ H Q ⟨W, F, env, rel, q⟩ => by
    unfold varD at q
    cases o : isOwn (env.getD i .unb) with
    | true => rw [o, if_pos rfl] at q; exact q.elim
    | false =>
      rw [o, if_neg (by simp)] at q
      obtain ⟨h1, h2⟩ := getD_some o
      obtain ⟨v, h3, h4⟩ := rel.slot i _ h1 h2
      exact ⟨v, h3, q W F H v rel (Ex.refl F) (h4.rp o)⟩
theorem e_bin {op : Operator} {f : D → D → Option D} (ho : OpD X (binaryOp op) f) (ha : DE X j a da) (hb : DE X j b db) : DE X j (.BinOp a op b pos) (binD f da db) :=
  PE.mono (pe_op ho.r ha hb) fun σ H Q ⟨W, F, env, rel, q⟩ => ⟨W, F, env, rel, At.bind q fun d env1 W1 F1 H1 v _ r1 x1 p1 q1 => ⟨W1, F1, env1, r1, At.bind q1 fun d2 env2 W2 F2 H2 v2 _ r2 x2 p2 q2 => by
    cases o : f d d2 with
    | none => rw [o] at q2; exact q2.elim
    | some z =>
      rw [o] at q2
      exact ⟨F2, d, d2, z, r2.exF, p1.mono x2, p2, o, fun F' H' y g p => At.grow q2 r2 g p⟩⟩⟩
theorem e_cmp {op : CmpOp} {f : D → D → Option D} (ho : OpD X (compareOp op) f) (ha : DE X j a da) (hb : DE X j b db) (hm : behindInMarks op b = false) : DE X j (.Compare a [op] [b] pos) (binD f da db) :=
  PE.mono (pe_cmpR ho.r ha hb hm) fun σ H Q ⟨W, F, env, rel, q⟩ => ⟨W, F, env, rel, At.bind q fun d env1 W1 F1 H1 v _ r1 x1 p1 q1 => ⟨W1, F1, env1, r1, At.bind q1 fun d2 env2 W2 F2 H2 v2 _ r2 x2 p2 q2 => by
    cases o : f d d2 with
    | none => rw [o] at q2; exact q2.elim
    | some z =>
      rw [o] at q2
      exact ⟨F2, d, d2, z, r2.exF, p1.mono x2, p2, o, fun F' H' y g p => At.grow q2 r2 g p⟩⟩⟩
theorem e_un {op : UnaryOp} {f : D → Option D} (ho : UnD X (unaryOp op) f) (ha : DE X j a da) : DE X j (.UnaryOp op a pos) (unD f da) :=
  PE.mono (pe_un ho.r ha) fun σ H Q ⟨W, F, env, rel, q⟩ => ⟨W, F, env, rel, At.bind q fun d env1 W1 F1 H1 v _ r1 x1 p1 q1 => by
    cases o : f d with
    | none => rw [o] at q1; exact q1.elim
    | some z =>
      rw [o] at q1
      exact ⟨F1, d, z, r1.exF, p1, o, fun F' H' y g p => At.grow q1 r1 g p⟩⟩
/-- an expression as a test -/
theorem t_of {t : TE} (h : PT X a (tB t)) (k : ∀ σ H Q, tE (mo X) j da σ H Q → t σ H Q) : DT X j a (testD da) :=
  PT.mono h fun σ H Q ⟨W, F, env, rel, q⟩ => k σ H _ ⟨W, F, env, rel, At.bind q fun d env1 W1 F1 H1 v _ r1 x1 p1 q1 => by
    cases p1 with
    | bl b => exact ⟨b, rfl, q1 W1 F1 H1 b r1 (Ex.refl F1) rfl⟩
    | _ => exact q1.elim⟩
theorem t_val (h : DE X j a da) (he : ∀ whole, isTrue a X.env whole = (do let v ← whole; standAt a.pos; holding [v] (truthy v)) := by intro _; rfl) : DT X j a (testD da) := t_of (pt_val h he) fun _ _ _ q => q
theorem t_cmp {op : CmpOp} {f : D → D → Option D} (ho : OpD X (compareOp op) f) (ha : DE X j a da) (hb : DE X j b db) (hm : behindInMarks op b = false) : DT X j (.Compare a [op] [b] pos) (testD (binD f da db)) := by
  refine PT.mono (pt_cmpR ho.r ha hb hm) fun σ H Q ⟨W, F, env, rel, q⟩ => ?_
  refine ⟨W, F, env, rel, ?_⟩
  have q : At (mo X) j.e j.wx (fun _ a b => a = b) F σ (bindR (da env) fun x env1 => bindR (bindR (db env1) fun y env2 => opR (f x y) env2) fun z env3 => match z with
    | .bl b => .ok b env3
    | _ => .bad) Q := by
    show At (mo X) j.e j.wx (fun _ a b => a = b) F σ _ Q
    have e : testD (binD f da db) env = (bindR (da env) fun x env1 => bindR (bindR (db env1) fun y env2 => opR (f x y) env2) fun z env3 => match z with
      | .bl b => .ok b env3
      | _ => .bad) := by
      unfold testD binD
      cases da env <;> rfl
    rw [← e]
    exact q
  refine At.bind q fun d env1 W1 F1 H1 v _ r1 x1 p1 q1 => ⟨W1, F1, env1, r1, ?_⟩
  have q1 : At (mo X) j.e j.wx (fun _ a b => a = b) F1 σ (bindR (db env1) fun y env2 => bindR (opR (f d y) env2) fun z env3 => match z with
    | .bl b => .ok b env3
    | _ => .bad) Q := by
    have e : (bindR (bindR (db env1) fun y env2 => opR (f d y) env2) fun z env3 => match z with
      | .bl b => (.ok b env3 : R Bool)
      | _ => .bad) = (bindR (db env1) fun y env2 => bindR (opR (f d y) env2) fun z env3 => match z with
      | .bl b => .ok b env3
      | _ => .bad) := by
      cases db env1 <;> rfl
    rw [← e]
    exact q1
  refine At.bind q1 fun d2 env2 W2 F2 H2 v2 _ r2 x2 p2 q2 => ?_
  cases o : f d d2 with
  | none => rw [o] at q2; exact q2.elim
  | some z =>
    rw [o] at q2
    refine ⟨F2, d, d2, z, r2.exF, p1.mono x2, p2, o, fun F' H' y g p => ?_⟩
    cases p with
    | bl b => exact ⟨b, rfl, q2 W2 F' H' b (r2.grow g) g.exF rfl⟩
    | _ => exact q2.elim
theorem t_and1 (ha : DT X j a dt) : PW X (.BoolOp .And [a] pos) (tT (mo X) j dt) := pw_and1 ha
theorem t_or1 (ha : DT X j a dt) : PW X (.BoolOp .Or [a] pos) (tT (mo X) j dt) := pw_or1 ha
theorem t_and (ha : DT X j a dt) (hb : PW X (.BoolOp .And (b :: es) pos) (tT (mo X) j du)) : PW X (.BoolOp .And (a :: b :: es) pos) (tT (mo X) j (andD dt du)) :=
  PW.mono (pw_and ha hb) fun σ H Q ⟨W, F, env, rel, q⟩ => ⟨W, F, env, rel, At.bind q fun d env1 W1 F1 H1 v _ r1 x1 p1 q1 => by
    subst p1
    cases d with
    | true => exact ⟨W1, F1, env1, r1, q1⟩
    | false => exact q1 W1 F1 H1 false r1 (Ex.refl F1) rfl⟩
theorem t_or (ha : DT X j a dt) (hb : PW X (.BoolOp .Or (b :: es) pos) (tT (mo X) j du)) : PW X (.BoolOp .Or (a :: b :: es) pos) (tT (mo X) j (orD dt du)) :=
  PW.mono (pw_or ha hb) fun σ H Q ⟨W, F, env, rel, q⟩ => ⟨W, F, env, rel, At.bind q fun d env1 W1 F1 H1 v _ r1 x1 p1 q1 => by
    subst p1
    cases d with
    | true => exact q1 W1 F1 H1 true r1 (Ex.refl F1) rfl
    | false => exact ⟨W1, F1, env1, r1, q1⟩⟩
theorem t_pw (h : PW X a (tT (mo X) j dt)) : DT X j a dt := h.pt
theorem t_not (ha : DT X j a dt) : DT X j (.UnaryOp .Not a pos) (notD dt) :=
  PT.mono (pt_not ha) fun σ H Q ⟨W, F, env, rel, q⟩ => ⟨W, F, env, rel, At.bind q fun d env1 W1 F1 H1 v _ r1 x1 p1 q1 => by
    subst p1
    exact q1 W1 F1 H1 (!d) r1 (Ex.refl F1) rfl⟩
def andV (da db : List D → R D) : List D → R D := fun env => bindR (da env) fun x env1 => match x with
  | .bl true => db env1
  | .bl false => .ok (.bl false) env1
  | _ => .bad
def orV (da db : List D → R D) : List D → R D := fun env => bindR (da env) fun x env1 => match x with
  | .bl true => .ok (.bl true) env1
  | .bl false => db env1
  | _ => .bad
theorem e_one {op : BoolOp} (ha : DE X j a da) : DE X j (.BoolOp op [a] pos) da := pe_one ha
theorem e_and (ha : DE X j a da) (hb : DE X j (.BoolOp .And (b :: es) pos) db) : DE X j (.BoolOp .And (a :: b :: es) pos) (andV da db) :=
  PE.mono (pe_and ha hb) fun σ H Q ⟨W, F, env, rel, q⟩ => ⟨W, F, env, rel, At.bind q fun d env1 W1 F1 H1 v _ r1 x1 p1 q1 => by
    cases p1 with
    | bl b =>
      refine ⟨b, rfl, ?_⟩
      cases b with
      | true => exact ⟨W1, F1, env1, r1, q1⟩
      | false => exact q1 W1 F1 H1 _ r1 (Ex.refl F1) (.bl _)
    | _ => exact q1.elim⟩
theorem e_or (ha : DE X j a da) (hb : DE X j (.BoolOp .Or (b :: es) pos) db) : DE X j (.BoolOp .Or (a :: b :: es) pos) (orV da db) :=
  PE.mono (pe_or ha hb) fun σ H Q ⟨W, F, env, rel, q⟩ => ⟨W, F, env, rel, At.bind q fun d env1 W1 F1 H1 v _ r1 x1 p1 q1 => by
    cases p1 with
    | bl b =>
      refine ⟨b, rfl, ?_⟩
      cases b with
      | true => exact q1 W1 F1 H1 _ r1 (Ex.refl F1) (.bl _)
      | false => exact ⟨W1, F1, env1, r1, q1⟩
    | _ => exact q1.elim⟩
/-- plain arguments -/
abbrev DL (X : Cx) (j : J) (es : List Expr) (den : List D → R (List D)) : Prop := PA X es (tR (mo X) j.e j.wx (RpL (mo X)) den)
theorem l_nil : DL X j [] nilD := PA.mono pa_nil fun σ H Q ⟨W, F, env, rel, q⟩ => q W F H [] rel (Ex.refl F) .nil
theorem l_cons (ha : DE X j a da) (hr : DL X j es dl) (hs : starEach (a :: es) X.env = (false, eval a X.env) :: starEach es X.env := by rfl) : DL X j (a :: es) (consD da dl) :=
  PA.mono (pa_cons ha hr hs) fun σ H Q ⟨W, F, env, rel, q⟩ => ⟨W, F, env, rel, At.bind q fun d env1 W1 F1 H1 v _ r1 x1 p1 q1 => ⟨W1, F1, env1, r1, At.bind q1 fun d2 env2 W2 F2 H2 v2 _ r2 x2 p2 q2 =>
    q2 W2 F2 H2 (v :: v2) r2 (Ex.refl F2) (.cons (p1.mono x2) p2)⟩⟩
theorem e_tup {k : Nat} (h : DL X j es dl) : DE X j (.Tuple es k pos) (tupD dl) :=
  PE.mono (pe_tup h) fun σ H Q ⟨W, F, env, rel, q⟩ => ⟨W, F, env, rel, At.bind q fun d env1 W1 F1 H1 v _ r1 x1 p1 q1 => by
    by_cases z : d.length ≤ 1000
    · rw [if_pos z] at q1
      exact ⟨le_line (by rw [← p1.length]; exact z), fun p n => At.grow q1 r1 (Grow.one r1.exF n) (.tup upd_same (p1.mono (Ex.new (r1.exF.none n))))⟩
    · rw [if_neg z] at q1
      exact q1.elim⟩
theorem e_lst (h : DL X j es dl) : DE X j (.List es pos) (lstD dl) :=
  PE.mono (pe_lst h) fun σ H Q ⟨W, F, env, rel, q⟩ => ⟨W, F, env, rel, At.bind q fun d env1 W1 F1 H1 v _ r1 x1 p1 q1 => by
    by_cases z : d.length ≤ 1000
    · rw [if_pos z] at q1
      exact ⟨le_line (by rw [← p1.length]; exact z), fun p n => At.grow q1 r1 (Grow.one r1.exF n) (.lst (SqL.of upd_same) (p1.mono (Ex.new (r1.exF.none n))))⟩
    · rw [if_neg z] at q1
      exact q1.elim⟩
/-- a built-in by its name -/
theorem e_callB {id : String} {f : List D → Option D} {x : Str} {p : Pos} (hc : CallD X (.builtin id) f) (hg : Gl X x) (hm : X.mg x = none) (hv : bootBuiltins x = some (.builtin id)) (ha : DL X j (a :: es) dl) (hn : x ≠ "__name__" := by decide) (hdb : (x == ("__debug__" : Str)) = false := by decide)
    (he : starEach (a :: es) X.env = (false, eval a X.env) :: starEach es X.env := by rfl) (hpl : (backTo pos (starEach es X.env)).any (·.1) = false := by rfl) :
    DE X j (.Call (.Name x p) (a :: es) [] pos) (callBD f dl) :=
  PE.mono (pe_callB hc.r hg hm hv ha hn hdb he hpl) fun σ H Q ⟨W, F, env, rel, q⟩ => ⟨W, F, env, rel, At.bind q fun d env1 W1 F1 H1 v _ r1 x1 p1 q1 => by
    cases o : f d with
    | none => rw [o] at q1; exact q1.elim
    | some z =>
      rw [o] at q1
      exact ⟨F1, d, z, r1.exF, p1, o, fun F' H' y g p => At.grow q1 r1 g p⟩⟩
theorem e_callT {T : String} {f : List D → Option D} {x : Str} {p : Pos} (hc : CallD X (.type T) f) (hg : Gl X x) (hm : X.mg x = none) (hv : bootBuiltins x = some (.type T)) (ha : DL X j (a :: es) dl) (hn : x ≠ "__name__" := by decide) (hdb : (x == ("__debug__" : Str)) = false := by decide)
    (he : starEach (a :: es) X.env = (false, eval a X.env) :: starEach es X.env := by rfl) (hpl : (backTo pos (starEach es X.env)).any (·.1) = false := by rfl) :
    DE X j (.Call (.Name x p) (a :: es) [] pos) (callBD f dl) :=
  PE.mono (pe_callTy hc.r hg hm hv ha hn hdb he hpl) fun σ H Q ⟨W, F, env, rel, q⟩ => ⟨W, F, env, rel, At.bind q fun d env1 W1 F1 H1 v _ r1 x1 p1 q1 => by
    cases o : f d with
    | none => rw [o] at q1; exact q1.elim
    | some z =>
      rw [o] at q1
      exact ⟨F1, d, z, r1.exF, p1, o, fun F' H' y g p => At.grow q1 r1 g p⟩⟩
end
end DL
namespace DL
open PySem PySem.Spec PyProof.Rows L2
mutual
def D.py : D → Option PyData
  | .non => some .none
  | .bl b => some (.bool b)
  | .int i => some (.int i)
  | .str s => some (.str s)
  | .tup l => match pyL l with
    | some ds => some (.tuple ds)
    | none => none
  | .ctp l => match pyL l with
    | some ds => some (.tuple ds)
    | none => none
  | .lst l => match pyL l with
    | some ds => some (.list ds)
    | none => none
  | .unb => none
  | .ins _ _ => none
  | .ml _ => none
  | .mi _ _ => none
  | .dic _ _ => none
  | .md _ _ => none
  | .mt _ => none
  | .dct _ _ => none
  | .dcl _ _ => none
  | .mdt _ _ => none
def pyL : List D → Option (List PyData)
  | [] => some []
  | d :: l => match D.py d with
    | some x => match pyL l with
      | some xs => some (x :: xs)
      | none => none
    | none => none
end
mutual
theorem Rp.dp {M : Mo} {F : Hp} : ∀ {d : D} {v : V} {p : PyData}, Rp M F d v → d.py = some p → Dp M.K F v p
  | _, _, _, .non, e => by
    simp only [D.py, Option.some.injEq] at e
    subst e
    exact .non
  | _, _, _, .bl b, e => by
    simp only [D.py, Option.some.injEq] at e
    subst e
    exact .bl b
  | _, _, _, .int b, e => by
    simp only [D.py, Option.some.injEq] at e
    subst e
    exact .int b
  | _, _, _, .str b, e => by
    simp only [D.py, Option.some.injEq] at e
    subst e
    exact .str b
  | _, _, _, .tup (l := l) h q, e => by
    unfold D.py at e
    cases o : pyL l with
    | none => rw [o] at e; cases e
    | some ds =>
      rw [o] at e
      cases e
      exact .tup (SqT.of h) (RpL.dp q o)
  | _, _, _, .ctp (l := l) h q, e => by
    unfold D.py at e
    cases o : pyL l with
    | none => rw [o] at e; cases e
    | some ds =>
      rw [o] at e
      cases e
      exact .tup (h _) (RpL.dp q o)
  | _, _, _, .lst (l := l) h q, e => by
    unfold D.py at e
    cases o : pyL l with
    | none => rw [o] at e; cases e
    | some ds =>
      rw [o] at e
      cases e
      exact .lst h (RpL.dp q o)
  | _, _, _, .ins _ _ _ _, e => by
    unfold D.py at e
    cases e
  | _, _, _, .dic _ _ _, e => by
    unfold D.py at e
    cases e
  | _, _, _, .dct _ _ _, e => by
    unfold D.py at e
    cases e
  | _, _, _, .dcl _ _ _, e => by
    unfold D.py at e
    cases e
theorem RpL.dp {M : Mo} {F : Hp} : ∀ {l : List D} {vs : List V} {ps : List PyData}, RpL M F l vs → pyL l = some ps → DpAll M.K F vs ps
  | _, _, _, .nil, e => by
    simp only [pyL, Option.some.injEq] at e
    subst e
    exact .nil
  | _, _, _, .cons (d := d) (l := l) h q, e => by
    unfold pyL at e
    cases o : D.py d with
    | none => rw [o] at e; cases e
    | some x =>
      cases o2 : pyL l with
      | none => rw [o, o2] at e; cases e
      | some xs =>
        rw [o, o2] at e
        cases e
        exact .cons (Rp.dp h o) (RpL.dp q o2)
end
/-- what == is told of -/
def fine (d : D) : Bool := match d.py with
  | some p => SeqAt.shaped p
  | none => false
def D.eqb (x y : D) : Bool := match x.py, y.py with
  | some p, some q => PyData.eqv p q
  | _, _ => false
def eqD (x y : D) : Option D := if fine x && fine y then some (.bl (x.eqb y)) else none
def neD (x y : D) : Option D := if fine x && fine y then some (.bl (!x.eqb y)) else none
def memD (x : D) (l : List D) : Bool := l.any fun z => z.eqb x
def fitsMul (a b : Int) : Prop := a.natAbs < 2 ^ 64 ∨ b.natAbs < 2 ^ 64 ∨ (a.natAbs < 2 ^ 1000000 ∧ b.natAbs < 2 ^ 1000000)
instance (a b : Int) : Decidable (fitsMul a b) := by unfold fitsMul; infer_instance
def fitsDiv (b : Int) : Prop := b ≠ 0 ∧ b.natAbs < 2 ^ 9000
instance (b : Int) : Decidable (fitsDiv b) := by unfold fitsDiv; infer_instance
def fitsPow (a b : Int) : Prop := 0 ≤ b ∧ b ≤ 1000000 ∧ a.natAbs < 2 ^ 64
instance (a b : Int) : Decidable (fitsPow a b) := by unfold fitsPow; infer_instance
def addD : D → D → Option D
  | .int a, .int b => some (.int (a + b))
  | .str a, .str b => if a.length + b.length ≤ sizeLine then some (.str (a ++ b)) else none
  | .lst a, .lst b => if a.length + b.length ≤ sizeLine then some (.lst (a ++ b)) else none
  | _, _ => none
def subD : D → D → Option D
  | .int a, .int b => some (.int (a - b))
  | _, _ => none
def mulD : D → D → Option D
  | .int a, .int b => if fitsMul a b then some (.int (a * b)) else none
  | _, _ => none
def fdivD : D → D → Option D
  | .int a, .int b => if fitsDiv b then some (.int (a.fdiv b)) else none
  | _, _ => none
def modD : D → D → Option D
  | .int a, .int b => if b ≠ 0 then some (.int (a.fmod b)) else none
  | _, _ => none
def powD : D → D → Option D
  | .int a, .int b => if fitsPow a b then some (.int (a ^ b.toNat)) else none
  | _, _ => none
def ltD : D → D → Option D
  | .int a, .int b => some (.bl (decide (a < b)))
  | _, _ => none
def leD : D → D → Option D
  | .int a, .int b => some (.bl (decide (a ≤ b)))
  | _, _ => none
def gtD : D → D → Option D
  | .int a, .int b => some (.bl (decide (b < a)))
  | _, _ => none
def geD : D → D → Option D
  | .int a, .int b => some (.bl (decide (b ≤ a)))
  | _, _ => none
def negD : D → Option D
  | .int a => some (.int (-a))
  | _ => none
def isNon : D → Bool
  | .non => true
  | _ => false
def isNonD : D → D → Option D
  | x, .non => some (.bl (isNon x))
  | _, _ => none
/-- x in a list, a tuple (data), a sign in a text -/
def inD : D → D → Option D
  | x, .lst l => if fine x && fine (.lst l) then some (.bl (memD x l)) else none
  | x, .tup l => if fine x && fine (.tup l) then some (.bl (memD x l)) else none
  | .str a, .str b => some (.bl (!(Builtin.Str.occurrences b a 0 b.length 1).isEmpty))
  | _, _ => none
def notInD : D → D → Option D
  | x, .lst l => if fine x && fine (.lst l) then some (.bl (!memD x l)) else none
  | x, .tup l => if fine x && fine (.tup l) then some (.bl (!memD x l)) else none
  | .str a, .str b => some (.bl (!(!(Builtin.Str.occurrences b a 0 b.length 1).isEmpty)))
  | _, _ => none
def ixD : D → D → Option D
  | .lst l, .int i => atI l i
  | .tup l, .int i => atI l i
  | .ctp l, .int i => atI l i
  | .str z, .int i => if z.length ≤ sizeLine then (atI z.cps.toList i).map fun c => .str ⟨#[c]⟩ else none
  | _, _ => none
def intsOf : List D → Option (List Int)
  | [] => some []
  | .int i :: l => (intsOf l).map (i :: ·)
  | _ => none
def blsOf : List D → Option (List Bool)
  | [] => some []
  | .bl i :: l => (blsOf l).map (i :: ·)
  | _ => none
def strsOf : List D → Option (List Str)
  | [] => some []
  | .str i :: l => (strsOf l).map (i :: ·)
  | _ => none
def minI : List Int → Int
  | [] => 0
  | [a] => a
  | a :: l => min a (minI l)
def absD : List D → Option D
  | [.int a] => some (.int (if a < 0 then -a else a))
  | _ => none
def lenD : List D → Option D
  | [.lst l] => some (.int l.length)
  | [.tup l] => some (.int l.length)
  | [.ctp l] => some (.int l.length)
  | [.str z] => if z.length ≤ sizeLine then some (.int z.length) else none
  | _ => none
def minD : List D → Option D
  | [.lst l] => match intsOf l with
    | some ns => if 0 < ns.length then some (.int (minI ns)) else none
    | none => none
  | [.int a, .int b] => some (.int (if b < a then b else a))
  | _ => none
def allD : List D → Option D
  | [.lst l] => (blsOf l).map fun ns => .bl (ns.all id)
  | _ => none
def intD : List D → Option D
  | [.int a] => some (.int a)
  | [.bl b] => some (.int (if b then 1 else 0))
  | _ => none
def strD : List D → Option D
  | [.int a] => if a.natAbs < 2 ^ 1900 then some (.str (toString a)) else none
  | _ => none
def listD : List D → Option D
  | [.lst l] => some (.lst l)
  | [.tup l] => some (.lst l)
  | _ => none
def tupleD : List D → Option D
  | [.lst l] => some (.tup l)
  | [.tup l] => some (.tup l)
  | _ => none
theorem intsOf_eq : ∀ {l : List D} {ns : List Int}, intsOf l = some ns → l = ns.map D.int
  | [], _, e => by cases e; rfl
  | d :: l, ns, e => by
    cases d with
    | int i =>
      have e : (intsOf l).map (i :: ·) = some ns := e
      cases o : intsOf l with
      | none => rw [o] at e; cases e
      | some r =>
        rw [o] at e
        cases e
        rw [intsOf_eq o]
        rfl
    | _ => cases e
theorem blsOf_map : ∀ (ns : List Bool), blsOf (ns.map D.bl) = some ns
  | [] => rfl
  | n :: r => by
    show (blsOf (r.map D.bl)).map (n :: ·) = some (n :: r)
    rw [blsOf_map r]
    rfl
theorem blsOf_eq : ∀ {l : List D} {ns : List Bool}, blsOf l = some ns → l = ns.map D.bl
  | [], _, e => by cases e; rfl
  | d :: l, ns, e => by
    cases d with
    | bl i =>
      have e : (blsOf l).map (i :: ·) = some ns := e
      cases o : blsOf l with
      | none => rw [o] at e; cases e
      | some r =>
        rw [o] at e
        cases e
        rw [blsOf_eq o]
        rfl
    | _ => cases e
theorem strsOf_map : ∀ (ns : List Str), strsOf (ns.map D.str) = some ns
  | [] => rfl
  | n :: r => by
    show (strsOf (r.map D.str)).map (n :: ·) = some (n :: r)
    rw [strsOf_map r]
    rfl
theorem strsOf_eq : ∀ {l : List D} {ns : List Str}, strsOf l = some ns → l = ns.map D.str
  | [], _, e => by cases e; rfl
  | d :: l, ns, e => by
    cases d with
    | str i =>
      have e : (strsOf l).map (i :: ·) = some ns := e
      cases o : strsOf l with
      | none => rw [o] at e; cases e
      | some r =>
        rw [o] at e
        cases e
        rw [strsOf_eq o]
        rfl
    | _ => cases e
theorem RpL.bls_inv {M : Mo} {F : Hp} : ∀ {ns : List Bool} {xs : List V}, RpL M F (ns.map D.bl) xs → xs = ns.map V.bl
  | [], _, .nil => rfl
  | n :: r, _, .cons h q => by
    cases h
    rw [RpL.bls_inv q]
    rfl
theorem RpL.strs_inv {M : Mo} {F : Hp} : ∀ {ns : List Str} {xs : List V}, RpL M F (ns.map D.str) xs → xs = ns.map V.str
  | [], _, .nil => rfl
  | n :: r, _, .cons h q => by
    cases h
    rw [RpL.strs_inv q]
    rfl
theorem RpL.rep {M : Mo} {F : Hp} {l : List D} {xs : List V} (h : RpL M F l xs) : ∀ n : Nat, RpL M F (List.replicate n l).flatten (List.replicate n xs).flatten
  | 0 => .nil
  | n + 1 => by
    rw [List.replicate_succ, List.replicate_succ, List.flatten_cons, List.flatten_cons]
    exact h.append (RpL.rep h n)
theorem minI_spec : ∀ {ns : List Int}, 0 < ns.length → minI ns ∈ ns ∧ ∀ y ∈ ns, minI ns ≤ y
  | [], h => absurd h (Nat.lt_irrefl 0)
  | [a], _ => ⟨List.mem_singleton.mpr rfl, fun y hy => by
    rw [List.mem_singleton.mp hy]
    exact Int.le_refl a⟩
  | a :: b :: r, _ => by
    obtain ⟨h1, h2⟩ := minI_spec (ns := b :: r) (Nat.succ_pos _)
    have e : minI (a :: b :: r) = min a (minI (b :: r)) := rfl
    rw [e]
    constructor
    · rcases Int.le_total a (minI (b :: r)) with h | h
      · rw [Int.min_eq_left h]
        exact List.mem_cons_self
      · rw [Int.min_eq_right h]
        exact List.mem_cons_of_mem _ h1
    · intro y hy
      rcases List.mem_cons.mp hy with rfl | hy
      · exact Int.min_le_left _ _
      · exact Int.le_trans (Int.min_le_right _ _) (h2 y hy)
theorem minI_uniq {ns : List Int} {m : Int} (h1 : m ∈ ns) (h2 : ∀ y ∈ ns, m ≤ y) : m = minI ns := by
  obtain ⟨a, b⟩ := minI_spec (List.length_pos_of_mem h1)
  have := b m h1
  have := h2 _ a
  omega
theorem log2_of_lt {n k : Nat} (hk : 0 < k) (h : n < 2 ^ k) : n.log2 < k := by
  rcases Nat.eq_zero_or_pos n with h0 | hp
  · subst h0
    exact Nat.lt_of_le_of_lt (by decide) hk
  · exact (Nat.log2_lt (Nat.ne_of_gt hp)).mpr h
theorem fitsMul.ok {a b : Int} (h : fitsMul a b) : IntMulOk a b := by
  rcases h with h | h | ⟨h1, h2⟩
  · exact .of_left (intBits_le_64 (by omega) (by omega))
  · exact .of_right (intBits_le_64 (by omega) (by omega))
  · have b1 : ∀ x : Int, Builtin.Int.intBits x ≤ x.natAbs.log2 + 1 := fun x => by
      unfold Builtin.Int.intBits
      split <;> omega
    have z1 := b1 a
    have z2 := b1 b
    have y1 : a.natAbs.log2 < 1000000 := log2_of_lt (by omega) h1
    have y2 : b.natAbs.log2 < 1000000 := log2_of_lt (by omega) h2
    have e : bitsLine = 134217728 := by decide
    unfold IntMulOk
    intro z
    rw [Bool.and_eq_true] at z
    have w := z.2
    unfold Builtin.Int.intTooBig at w
    have w2 := of_decide_eq_true w
    rw [e] at w2
    omega
section
variable {X : Cx}
theorem Rp.lst_inv {M : Mo} {F : Hp} {l : List D} {v : V} (h : Rp M F (.lst l) v) : ∃ a xs, v = .ref a ∧ SqL M.K F a xs ∧ RpL M F l xs := by
  cases h with
  | lst h q => exact ⟨_, _, rfl, h, q⟩
theorem Rp.tup_inv {M : Mo} {F : Hp} {l : List D} {v : V} (h : Rp M F (.tup l) v) : ∃ a xs, v = .ref a ∧ SqT M.K F a xs ∧ RpL M F l xs := by
  cases h with
  | tup h q => exact ⟨_, _, rfl, SqT.of h, q⟩
theorem Rp.ctp_inv {M : Mo} {F : Hp} {l : List D} {v : V} (h : Rp M F (.ctp l) v) : ∃ a xs, v = .ref a ∧ SqT M.K F a xs ∧ RpL M F l xs := by
  cases h with
  | ctp h q => exact ⟨_, _, rfl, h _, q⟩
theorem Rp.int_inv {M : Mo} {F : Hp} {i : Int} {v : V} (h : Rp M F (.int i) v) : v = .int i := by
  cases h; rfl
theorem Rp.str_inv {M : Mo} {F : Hp} {i : Str} {v : V} (h : Rp M F (.str i) v) : v = .str i := by
  cases h; rfl
theorem Rp.bl_inv {M : Mo} {F : Hp} {i : Bool} {v : V} (h : Rp M F (.bl i) v) : v = .bl i := by
  cases h; rfl
theorem RpL.one_inv {M : Mo} {F : Hp} {d : D} {xs : List V} (h : RpL M F [d] xs) : ∃ v, xs = [v] ∧ Rp M F d v := by
  cases h with
  | cons h q => cases q; exact ⟨_, rfl, h⟩
theorem RpL.two_inv {M : Mo} {F : Hp} {d e : D} {xs : List V} (h : RpL M F [d, e] xs) : ∃ v w, xs = [v, w] ∧ Rp M F d v ∧ Rp M F e w := by
  cases h with
  | cons h q =>
    obtain ⟨w, rfl, z⟩ := RpL.one_inv q
    exact ⟨_, _, rfl, h, z⟩
theorem o_int2 {op : Value → Value → Sem Value} {g : Int → Int → V} {gd : Int → Int → D} {C : Int → Int → Prop} (h : OpR X op (rI C g)) (hg : ∀ F i j, Rp (mo X) F (gd i j) (g i j)) (f : D → D → Option D)
    (hf : ∀ dx dy d, f dx dy = some d → ∃ i j, dx = .int i ∧ dy = .int j ∧ C i j ∧ d = gd i j) : OpD X op f := fun pins s σ F H dx dy d x y v u Q I e p1 p2 rx ry e1 q => by
  obtain ⟨i, k, rfl, rfl, hc, rfl⟩ := hf _ _ _ e1
  exact h pins s σ H x y v u Q I rx ry ⟨i, k, p1.int_inv, p2.int_inv, hc, q F H _ (Grow.refl e) (hg F i k)⟩
theorem o_int0 {op : Value → Value → Sem Value} {g : Int → Int → V} {gd : Int → Int → D} (h : OpR X op (rI0 g)) (hg : ∀ F i j, Rp (mo X) F (gd i j) (g i j)) (f : D → D → Option D)
    (hf : ∀ dx dy d, f dx dy = some d → ∃ i j, dx = .int i ∧ dy = .int j ∧ d = gd i j) : OpD X op f := fun pins s σ F H dx dy d x y v u Q I e p1 p2 rx ry e1 q => by
  obtain ⟨i, k, rfl, rfl, rfl⟩ := hf _ _ _ e1
  exact h pins s σ H x y v u Q I rx ry ⟨i, k, p1.int_inv, p2.int_inv, q F H _ (Grow.refl e) (hg F i k)⟩
theorem od_sub : OpD X (binaryOp .Sub) subD := o_int0 op_sub (gd := fun i j => .int (i - j)) (fun _ _ _ => .int _) _ fun dx dy d e => by
  unfold subD at e
  split at e <;> first | exact ⟨_, _, rfl, rfl, (Option.some.inj e).symm⟩ | cases e
theorem od_lt : OpD X (compareOp .Lt) ltD := o_int0 op_lt (gd := fun i j => .bl (decide (i < j))) (fun _ _ _ => .bl _) _ fun dx dy d e => by
  unfold ltD at e
  split at e <;> first | exact ⟨_, _, rfl, rfl, (Option.some.inj e).symm⟩ | cases e
theorem od_le : OpD X (compareOp .LtE) leD := o_int0 op_le (gd := fun i j => .bl (decide (i ≤ j))) (fun _ _ _ => .bl _) _ fun dx dy d e => by
  unfold leD at e
  split at e <;> first | exact ⟨_, _, rfl, rfl, (Option.some.inj e).symm⟩ | cases e
theorem od_gt : OpD X (compareOp .Gt) gtD := o_int0 op_gt (gd := fun i j => .bl (decide (j < i))) (fun _ _ _ => .bl _) _ fun dx dy d e => by
  unfold gtD at e
  split at e <;> first | exact ⟨_, _, rfl, rfl, (Option.some.inj e).symm⟩ | cases e
theorem od_ge : OpD X (compareOp .GtE) geD := o_int0 op_ge (gd := fun i j => .bl (decide (j ≤ i))) (fun _ _ _ => .bl _) _ fun dx dy d e => by
  unfold geD at e
  split at e <;> first | exact ⟨_, _, rfl, rfl, (Option.some.inj e).symm⟩ | cases e
theorem od_mod : OpD X (binaryOp .Mod) modD := o_int2 op_modN (gd := fun i j => .int (i.fmod j)) (fun _ _ _ => .int _) _ fun dx dy d e => by
  unfold modD at e
  split at e
  · split at e
    · rename_i h
      exact ⟨_, _, rfl, rfl, h, (Option.some.inj e).symm⟩
    · cases e
  · cases e
theorem op_fdivX : OpR X (binaryOp .FloorDiv) (rI (fun _ j => fitsDiv j) fun i j => .int (i.fdiv j)) := opI fun _ _ _ _ _ _ _ hc q => floordiv_int hc.1 q (.inl (PyProof.noPylong_of_log2 (log2_of_lt (by omega) hc.2)))
theorem od_fdiv : OpD X (binaryOp .FloorDiv) fdivD := o_int2 op_fdivX (gd := fun i j => .int (i.fdiv j)) (fun _ _ _ => .int _) _ fun dx dy d e => by
  unfold fdivD at e
  split at e
  · split at e
    · rename_i h
      exact ⟨_, _, rfl, rfl, h, (Option.some.inj e).symm⟩
    · cases e
  · cases e
theorem od_pow : OpD X (binaryOp .Pow) powD := o_int2 op_pow (gd := fun i j => .int (i ^ j.toNat)) (fun _ _ _ => .int _) _ fun dx dy d e => by
  unfold powD at e
  split at e
  · split at e
    · rename_i h
      exact ⟨_, _, rfl, rfl, h, (Option.some.inj e).symm⟩
    · cases e
  · cases e
theorem op_mulX : OpR X (binaryOp .Mult) (rI fitsMul fun i j => .int (i * j)) := opI fun _ _ _ _ _ _ _ hc q => mul_int q hc.ok
theorem Inv.lnew' {pins : List (Addr × Obj)} {s : Shared} {σ : L2.St} {H : Hp} {Q : VK} {xs : List V} {its : List Value} (I : Inv X pins σ H s) (r : Vals xs its) (hz : xs.length ≤ sizeLine) (q : ∀ p, H p = none → Q (.ref p) (upd H p (.lst xs))) :
    EP X pins σ Q (.ref s.heap.objs.size) { s with heap := s.heap.push { cls := .type "list", data := .seq its.toArray } } :=
  ⟨.ref _, _, I.lnew (t' := s.toks) r hz, rfl, q _ I.fresh⟩
theorem op_catS : OpR X (binaryOp .Add) (fun x y H Q => ∃ l b xs zs, x = .ref l ∧ y = .ref b ∧ SqL X.K H l xs ∧ SqL X.K H b zs ∧ xs.length + zs.length ≤ sizeLine ∧ ∀ p, H p = none → Q (.ref p) (upd H p (.lst (xs ++ zs)))) := by
  intro pins s σ H x y v u Q I rx ry h
  obtain ⟨l, b, xs, zs, rfl, rfl, hH, hB, hz, q⟩ := h
  cases rx
  cases ry
  obtain ⟨its, r, pl, z⟩ := I.list hH
  obtain ⟨its2, r2, pl2, z2⟩ := I.list hB
  have hl := r.length
  have hl2 := r2.length
  obtain ⟨⟨cls, dd, data, sl⟩, ho, hc, n, hd⟩ := pl.isList
  obtain ⟨⟨cls2, dd2, data2, sl2⟩, ho2, hc2, n2, hd2⟩ := pl2.isList
  simp only at hc hd hc2 hd2
  subst hc hd hc2 hd2
  refine concat_meets ⟨_, ho, rfl⟩ ⟨_, ho2, rfl⟩ noFill_list_add seq_list_add PySem.F.slot_list_add PySem.F.entry_list_add (PySem.F.args_list_add_2 _ _) (list_addW l b its.toArray its2.toArray n n2 dd dd2 sl sl2 (by rw [List.size_toArray, List.size_toArray]; omega)) ⟨ho, ho2, ?_⟩
  have ea : its.toArray ++ its2.toArray = (its ++ its2).toArray := by simp
  rw [ea]
  exact Inv.lnew' I (r.append r2) (by rw [List.length_append]; omega) q
theorem od_add : OpD X (binaryOp .Add) addD := fun pins s σ F H dx dy d x y v u Q I e p1 p2 rx ry e1 q => by
  unfold addD at e1
  split at e1
  · cases e1
    exact op_add pins s σ H x y v u Q I rx ry ⟨_, _, p1.int_inv, p2.int_inv, q F H _ (Grow.refl e) (.int _)⟩
  · split at e1
    · rename_i h
      cases e1
      exact op_add_str pins s σ H x y v u Q I rx ry ⟨_, _, p1.str_inv, p2.str_inv, h, q F H _ (Grow.refl e) (.str _)⟩
    · cases e1
  · split at e1
    · rename_i h
      cases e1
      obtain ⟨a, xs, rfl, h1, h2⟩ := p1.lst_inv
      obtain ⟨b, ys, rfl, h3, h4⟩ := p2.lst_inv
      exact op_catS pins s σ H _ _ v u Q I rx ry ⟨a, b, xs, ys, rfl, rfl, ex_l e h1, ex_l e h3, by rw [← h2.length, ← h4.length]; exact h, fun p n => q _ _ _ (Grow.one e n) (.lst (SqL.of upd_same) ((h2.append h4).mono (Ex.new (e.none n))))⟩
    · cases e1
  · cases e1
theorem od_mul : OpD X (binaryOp .Mult) mulD := fun pins s σ F H dx dy d x y v u Q I e p1 p2 rx ry e1 q => by
  unfold mulD at e1
  split at e1
  · split at e1
    · rename_i h
      cases e1
      exact op_mulX pins s σ H x y v u Q I rx ry ⟨_, _, p1.int_inv, p2.int_inv, h, q F H _ (Grow.refl e) (.int _)⟩
    · cases e1
  · cases e1
theorem od_eq (hu : X.A.units + 64 < cLine) : OpD X (compareOp .Eq) eqD := fun pins s σ F H dx dy d x y v u Q I e p1 p2 rx ry e1 q => by
  unfold eqD at e1
  split at e1
  · rename_i h
    rw [Bool.and_eq_true] at h
    unfold fine at h
    cases o1 : dx.py with
    | none => rw [o1] at h; exact absurd h.1 (by simp)
    | some a =>
      cases o2 : dy.py with
      | none => rw [o2] at h; exact absurd h.2 (by simp)
      | some b =>
        rw [o1, o2] at h
        have e2 : dx.eqb dy = PyData.eqv a b := by
          unfold D.eqb
          rw [o1, o2]
        rw [e2] at e1
        cases e1
        exact op_eqD hu pins s σ H x y v u Q I rx ry ⟨a, b, Rp.dp (p1.mono e) o1, Rp.dp (p2.mono e) o2, h.1, h.2, q F H _ (Grow.refl e) (.bl _)⟩
  · cases e1
theorem od_ne (hu : X.A.units + 64 < cLine) : OpD X (compareOp .NotEq) neD := fun pins s σ F H dx dy d x y v u Q I e p1 p2 rx ry e1 q => by
  unfold neD at e1
  split at e1
  · rename_i h
    rw [Bool.and_eq_true] at h
    unfold fine at h
    cases o1 : dx.py with
    | none => rw [o1] at h; exact absurd h.1 (by simp)
    | some a =>
      cases o2 : dy.py with
      | none => rw [o2] at h; exact absurd h.2 (by simp)
      | some b =>
        rw [o1, o2] at h
        have e2 : dx.eqb dy = PyData.eqv a b := by
          unfold D.eqb
          rw [o1, o2]
        rw [e2] at e1
        cases e1
        exact op_neD hu pins s σ H x y v u Q I rx ry ⟨a, b, Rp.dp (p1.mono e) o1, Rp.dp (p2.mono e) o2, h.1, h.2, q F H _ (Grow.refl e) (.bl _)⟩
  · cases e1
theorem od_isN : OpD X (compareOp .Is) isNonD := fun pins s σ F H dx dy d x y v u Q I e p1 p2 rx ry e1 q => by
  unfold isNonD at e1
  split at e1
  · cases e1
    cases p2
    refine op_isN pins s σ H x _ v u Q I rx ry ⟨rfl, ?_⟩
    have z : ∀ {x : V}, Rp (mo X) F dx x → decide (x = V.non) = isNon dx := fun p1 => by
      cases p1 <;> first | rfl | exact decide_eq_false (fun h => nomatch h)
    rw [z p1]
    exact q F H _ (Grow.refl e) (.bl _)
  · cases e1
theorem ud_neg : UnD X (unaryOp .USub) negD := fun pins s σ F H dx d x v Q I e p1 rx e1 q => by
  unfold negD at e1
  split at e1
  · cases e1
    exact un_neg pins s σ H x v Q I rx ⟨_, p1.int_inv, q F H _ (Grow.refl e) (.int _)⟩
  · cases e1
/-- what the items of a list of data are -/
theorem py_list {l : List D} {p : PyData} (h : (D.lst l).py = some p) : ∃ ps, pyL l = some ps ∧ p = .list ps := by
  unfold D.py at h
  cases o : pyL l with
  | none => rw [o] at h; cases h
  | some ps => rw [o] at h; exact ⟨ps, rfl, (Option.some.inj h).symm⟩
theorem py_tuple {l : List D} {p : PyData} (h : (D.tup l).py = some p) : ∃ ps, pyL l = some ps ∧ p = .tuple ps := by
  unfold D.py at h
  cases o : pyL l with
  | none => rw [o] at h; cases h
  | some ps => rw [o] at h; exact ⟨ps, rfl, (Option.some.inj h).symm⟩
theorem memD_eq {x : D} {d : PyData} (hx : x.py = some d) : ∀ {l : List D} {ps : List PyData}, pyL l = some ps → memD x l = ps.any fun z => PyData.eqv z d
  | [], _, e => by
    simp only [pyL, Option.some.injEq] at e
    subst e
    rfl
  | y :: l, ps, e => by
    unfold pyL at e
    cases o : D.py y with
    | none => rw [o] at e; cases e
    | some z =>
      cases o2 : pyL l with
      | none => rw [o, o2] at e; cases e
      | some zs =>
        rw [o, o2] at e
        cases e
        show (y.eqb x || memD x l) = _
        rw [List.any_cons, memD_eq hx o2]
        unfold D.eqb
        rw [o, hx]
/-- x in (a, b, ..), data of any depth -/
theorem op_inT (hu : X.A.units + 65 < cLine) : OpR X (compareOp .In) (fun x y H Q => ∃ d ds, Dp X.K H x d ∧ Dp X.K H y (.tuple ds) ∧ SeqAt.shaped d = true ∧ SeqAt.shaped (.tuple ds) = true ∧ Q (.bl (ds.any fun z => PyData.eqv z d)) H) := by
  intro pins s σ H x y v u Q I rx ry h
  obtain ⟨d, ds, hd, he, sd, se, q⟩ := h
  obtain ⟨as, r1⟩ := Dp.reads I d x v hd rx
  obtain ⟨bs, r2⟩ := Dp.reads I (.tuple ds) y u he ry
  exact SeqAt.in_tuple_reads r2 r1 (SeqAt.canLay_of_shaped se) (SeqAt.canLay_of_shaped sd) (room_in_shaped sd hu) ⟨.bl _, H, I, rfl, q⟩
theorem op_notInT (hu : X.A.units + 65 < cLine) : OpR X (compareOp .NotIn) (fun x y H Q => ∃ d ds, Dp X.K H x d ∧ Dp X.K H y (.tuple ds) ∧ SeqAt.shaped d = true ∧ SeqAt.shaped (.tuple ds) = true ∧ Q (.bl (!ds.any fun z => PyData.eqv z d)) H) := by
  intro pins s σ H x y v u Q I rx ry h
  obtain ⟨d, ds, hd, he, sd, se, q⟩ := h
  obtain ⟨as, r1⟩ := Dp.reads I d x v hd rx
  obtain ⟨bs, r2⟩ := Dp.reads I (.tuple ds) y u he ry
  exact SeqAt.notIn_tuple_reads r2 r1 (SeqAt.canLay_of_shaped se) (SeqAt.canLay_of_shaped sd) (room_in_shaped sd hu) ⟨.bl _, H, I, rfl, q⟩
theorem fine_some {d : D} (h : fine d = true) : ∃ p, d.py = some p ∧ SeqAt.shaped p = true := by
  unfold fine at h
  cases o : d.py with
  | none => rw [o] at h; exact absurd h (by simp)
  | some p => rw [o] at h; exact ⟨p, rfl, h⟩
theorem od_in (hu : X.A.units + 65 < cLine) : OpD X (compareOp .In) inD := fun pins s σ F H dx dy d x y v u Q I e p1 p2 rx ry e1 q => by
  unfold inD at e1
  split at e1
  · split at e1
    · rename_i h
      rw [Bool.and_eq_true] at h
      obtain ⟨a, ea, sa⟩ := fine_some h.1
      obtain ⟨b, eb, sb⟩ := fine_some h.2
      obtain ⟨ps, ep, rfl⟩ := py_list eb
      rw [memD_eq ea ep] at e1
      cases e1
      exact op_inD hu pins s σ H x y v u Q I rx ry ⟨a, ps, Rp.dp (p1.mono e) ea, Rp.dp (p2.mono e) eb, sa, sb, q F H _ (Grow.refl e) (.bl _)⟩
    · cases e1
  · split at e1
    · rename_i h
      rw [Bool.and_eq_true] at h
      obtain ⟨a, ea, sa⟩ := fine_some h.1
      obtain ⟨b, eb, sb⟩ := fine_some h.2
      obtain ⟨ps, ep, rfl⟩ := py_tuple eb
      rw [memD_eq ea ep] at e1
      cases e1
      exact op_inT hu pins s σ H x y v u Q I rx ry ⟨a, ps, Rp.dp (p1.mono e) ea, Rp.dp (p2.mono e) eb, sa, sb, q F H _ (Grow.refl e) (.bl _)⟩
    · cases e1
  · cases e1
    exact op_in_str pins s σ H x y v u Q I rx ry ⟨_, _, p1.str_inv, p2.str_inv, q F H _ (Grow.refl e) (.bl _)⟩
  · cases e1
theorem od_notIn (hu : X.A.units + 65 < cLine) : OpD X (compareOp .NotIn) notInD := fun pins s σ F H dx dy d x y v u Q I e p1 p2 rx ry e1 q => by
  unfold notInD at e1
  split at e1
  · split at e1
    · rename_i h
      rw [Bool.and_eq_true] at h
      obtain ⟨a, ea, sa⟩ := fine_some h.1
      obtain ⟨b, eb, sb⟩ := fine_some h.2
      obtain ⟨ps, ep, rfl⟩ := py_list eb
      rw [memD_eq ea ep] at e1
      cases e1
      exact op_notInD hu pins s σ H x y v u Q I rx ry ⟨a, ps, Rp.dp (p1.mono e) ea, Rp.dp (p2.mono e) eb, sa, sb, q F H _ (Grow.refl e) (.bl _)⟩
    · cases e1
  · split at e1
    · rename_i h
      rw [Bool.and_eq_true] at h
      obtain ⟨a, ea, sa⟩ := fine_some h.1
      obtain ⟨b, eb, sb⟩ := fine_some h.2
      obtain ⟨ps, ep, rfl⟩ := py_tuple eb
      rw [memD_eq ea ep] at e1
      cases e1
      exact op_notInT hu pins s σ H x y v u Q I rx ry ⟨a, ps, Rp.dp (p1.mono e) ea, Rp.dp (p2.mono e) eb, sa, sb, q F H _ (Grow.refl e) (.bl _)⟩
    · cases e1
  · cases e1
    exact op_notIn_str pins s σ H x y v u Q I rx ry ⟨_, _, p1.str_inv, p2.str_inv, q F H _ (Grow.refl e) (.bl _)⟩
  · cases e1
theorem atI_rp {M : Mo} {F : Hp} {l : List D} {xs : List V} {i : Int} {d : D} (h : RpL M F l xs) (e : atI l i = some d) : ∃ v, atI xs i = some v ∧ Rp M F d v := by
  unfold atI at e ⊢
  rw [← h.length]
  cases o : ixN l.length i with
  | none => rw [o] at e; cases e
  | some k =>
    rw [o] at e
    exact h.get e
theorem ix_D : IxR X (rOpD X ixD) := fun value slice pins s σ H x y v u Q I rx ry ⟨F, dx, dy, d, e, p1, p2, e1, q⟩ hs => by
  unfold ixD at e1
  split at e1
  · obtain ⟨a, xs, rfl, h1, h2⟩ := p1.lst_inv
    obtain ⟨z, h3, h4⟩ := atI_rp h2 e1
    exact ix_list value slice pins s σ H _ y v u Q I rx ry ⟨a, xs, _, z, rfl, p2.int_inv, ex_l e h1, h3, q F H z (Grow.refl e) h4⟩ hs
  · obtain ⟨a, xs, rfl, h1, h2⟩ := p1.tup_inv
    obtain ⟨z, h3, h4⟩ := atI_rp h2 e1
    exact ix_tup value slice pins s σ H _ y v u Q I rx ry ⟨a, xs, _, z, rfl, p2.int_inv, ex_t e h1, h3, q F H z (Grow.refl e) h4⟩ hs
  · obtain ⟨a, xs, rfl, h1, h2⟩ := p1.ctp_inv
    obtain ⟨z, h3, h4⟩ := atI_rp h2 e1
    exact ix_tup value slice pins s σ H _ y v u Q I rx ry ⟨a, xs, _, z, rfl, p2.int_inv, ex_t e h1, h3, q F H z (Grow.refl e) h4⟩ hs
  · split at e1
    · rename_i hz
      cases o : atI (Array.toList (Str.cps ‹Str›)) ‹Int› with
      | none => rw [o] at e1; cases e1
      | some c =>
        rw [o] at e1
        cases e1
        exact ix_str value slice pins s σ H x y v u Q I rx ry ⟨_, _, c, p1.str_inv, p2.int_inv, hz, o, q F H _ (Grow.refl e) (.str _)⟩ hs
    · cases e1
  · cases e1
theorem e_ix {j : J} {a b : Expr} {pos : Pos} {da db : List D → R D} (ha : DE X j a da) (hb : DE X j b db) (hs : PlainIx b) : DE X j (.Subscript a b pos) (binD ixD da db) :=
  PE.mono (pe_ix ix_D ha hb hs) fun σ H Q ⟨W, F, env, rel, q⟩ => ⟨W, F, env, rel, At.bind q fun d env1 W1 F1 H1 v _ r1 x1 p1 q1 => ⟨W1, F1, env1, r1, At.bind q1 fun d2 env2 W2 F2 H2 v2 _ r2 x2 p2 q2 => by
    cases o : ixD d d2 with
    | none => rw [o] at q2; exact q2.elim
    | some z =>
      rw [o] at q2
      exact ⟨F2, d, d2, z, r2.exF, p1.mono x2, p2, o, fun F' H' y g p => At.grow q2 r2 g p⟩⟩⟩
theorem cd_abs : CallD X (.builtin "abs") absD := fun pins s σ F H ds d xs us Q I e p r e1 q => by
  unfold absD at e1
  split at e1
  · cases e1
    obtain ⟨v, rfl, h⟩ := p.one_inv
    exact call_abs pins s σ H _ us Q I r ⟨_, by rw [h.int_inv], q F H _ (Grow.refl e) (.int _)⟩
  · cases e1
theorem cd_len : CallD X (.builtin "len") lenD := fun pins s σ F H ds d xs us Q I e p r e1 q => by
  unfold lenD at e1
  split at e1
  · cases e1
    obtain ⟨v, rfl, h⟩ := p.one_inv
    obtain ⟨a, ys, rfl, h1, h2⟩ := h.lst_inv
    refine call_len_seq pins s σ H _ us Q I r ⟨a, ys, rfl, .inl (ex_l e h1), ?_⟩
    rw [← h2.length]
    exact q F H _ (Grow.refl e) (.int _)
  · cases e1
    obtain ⟨v, rfl, h⟩ := p.one_inv
    obtain ⟨a, ys, rfl, h1, h2⟩ := h.tup_inv
    refine call_len_seq pins s σ H _ us Q I r ⟨a, ys, rfl, .inr (ex_t e h1), ?_⟩
    rw [← h2.length]
    exact q F H _ (Grow.refl e) (.int _)
  · cases e1
    obtain ⟨v, rfl, h⟩ := p.one_inv
    obtain ⟨a, ys, rfl, h1, h2⟩ := h.ctp_inv
    refine call_len_seq pins s σ H _ us Q I r ⟨a, ys, rfl, .inr (ex_t e h1), ?_⟩
    rw [← h2.length]
    exact q F H _ (Grow.refl e) (.int _)
  · split at e1
    · rename_i hz
      cases e1
      obtain ⟨v, rfl, h⟩ := p.one_inv
      exact call_len_str pins s σ H _ us Q I r ⟨_, by rw [h.str_inv], hz, q F H _ (Grow.refl e) (.int _)⟩
    · cases e1
  · cases e1
theorem cd_min (hc : X.calm = true) : CallD X (.builtin "min") minD := fun pins s σ F H ds d xs us Q I e p r e1 q => by
  unfold minD at e1
  split at e1
  · rename_i l
    cases o : intsOf l with
    | none => rw [o] at e1; cases e1
    | some ns =>
      rw [o] at e1
      simp only at e1
      split at e1
      · rename_i hn
        cases e1
        obtain ⟨v, rfl, h⟩ := p.one_inv
        obtain ⟨a, ys, rfl, h1, h2⟩ := h.lst_inv
        rw [intsOf_eq o] at h2
        rw [h2.ints_inv] at h1
        exact cr_min hc pins s σ H _ us Q I r ⟨a, ns, rfl, ex_l e h1, hn, fun m m1 m2 => by
          rw [minI_uniq m1 m2]
          exact q F H _ (Grow.refl e) (.int _)⟩
      · cases e1
  · cases e1
    obtain ⟨v, w, rfl, h1, h2⟩ := p.two_inv
    exact call_min2 hc pins s σ H _ us Q I r ⟨_, _, by rw [h1.int_inv, h2.int_inv], q F H _ (Grow.refl e) (.int _)⟩
  · cases e1
theorem cd_all (hc : X.calm = true) : CallD X (.builtin "all") allD := fun pins s σ F H ds d xs us Q I e p r e1 q => by
  unfold allD at e1
  split at e1
  · rename_i l
    cases o : blsOf l with
    | none => rw [o] at e1; cases e1
    | some ns =>
      rw [o] at e1
      cases e1
      obtain ⟨v, rfl, h⟩ := p.one_inv
      obtain ⟨a, ys, rfl, h1, h2⟩ := h.lst_inv
      rw [blsOf_eq o] at h2
      rw [h2.bls_inv] at h1
      exact cr_all hc pins s σ H _ us Q I r ⟨a, ns, rfl, ex_l e h1, q F H _ (Grow.refl e) (.bl _)⟩
  · cases e1
theorem cd_int : CallD X (.type "int") intD := fun pins s σ F H ds d xs us Q I e p r e1 q => by
  unfold intD at e1
  split at e1
  · cases e1
    obtain ⟨v, rfl, h⟩ := p.one_inv
    exact call_int1 pins s σ H _ us Q I r (.inl ⟨_, by rw [h.int_inv], q F H _ (Grow.refl e) (.int _)⟩)
  · cases e1
    obtain ⟨v, rfl, h⟩ := p.one_inv
    exact call_int1 pins s σ H _ us Q I r (.inr ⟨_, by rw [h.bl_inv], q F H _ (Grow.refl e) (.int _)⟩)
  · cases e1
theorem cd_str : CallD X (.type "str") strD := fun pins s σ F H ds d xs us Q I e p r e1 q => by
  unfold strD at e1
  split at e1
  · split at e1
    · rename_i hz
      cases e1
      obtain ⟨v, rfl, h⟩ := p.one_inv
      exact call_str_int pins s σ H _ us Q I r ⟨_, by rw [h.int_inv], Nat.lt_of_lt_of_le (log2_of_lt (by omega) hz) (by omega), q F H _ (Grow.refl e) (.str _)⟩
    · cases e1
  · cases e1
theorem cd_list : CallD X (.type "list") listD := fun pins s σ F H ds d xs us Q I e p r e1 q => by
  unfold listD at e1
  split at e1
  · cases e1
    obtain ⟨v, rfl, h⟩ := p.one_inv
    obtain ⟨a, ys, rfl, h1, h2⟩ := h.lst_inv
    exact call_list_of pins s σ H _ us Q I r ⟨a, ys, rfl, .inl (ex_l e h1), fun l n => q _ _ _ (Grow.one e n) (.lst (SqL.of upd_same) (h2.mono (Ex.new (e.none n))))⟩
  · cases e1
    obtain ⟨v, rfl, h⟩ := p.one_inv
    obtain ⟨a, ys, rfl, h1, h2⟩ := h.tup_inv
    exact call_list_of pins s σ H _ us Q I r ⟨a, ys, rfl, .inr (ex_t e h1), fun l n => q _ _ _ (Grow.one e n) (.lst (SqL.of upd_same) (h2.mono (Ex.new (e.none n))))⟩
  · cases e1
theorem cd_tuple : CallD X (.type "tuple") tupleD := fun pins s σ F H ds d xs us Q I e p r e1 q => by
  unfold tupleD at e1
  split at e1
  · cases e1
    obtain ⟨v, rfl, h⟩ := p.one_inv
    obtain ⟨a, ys, rfl, h1, h2⟩ := h.lst_inv
    exact call_tuple_of pins s σ H _ us Q I r ⟨a, ys, rfl, .inl ⟨ex_l e h1, fun l n => q _ _ _ (Grow.one e n) (.tup upd_same (h2.mono (Ex.new (e.none n))))⟩⟩
  · cases e1
    obtain ⟨v, rfl, h⟩ := p.one_inv
    have h0 := h
    obtain ⟨a, ys, rfl, h1, h2⟩ := h.tup_inv
    exact call_tuple_of pins s σ H _ us Q I r ⟨a, ys, rfl, .inr ⟨ex_t e h1, q F H _ (Grow.refl e) h0⟩⟩
  · cases e1
end
end DL
namespace DL
open PySem PySem.Spec PyProof.Rows L2
section
variable {M : Mo} {e : Ent} {W : Own} {F H : Hp} {env : List D} {σ : L2.St}
theorem Rel.set {i : Nat} {d : D} {v : V} (r : Rel M e W F H env σ) (p : Rp M F d v) (hp : e.P i = none) : Rel M e W F H (env.set i d) (σ.set i (some v)) where
  toRelB := r.toRelB
  len := by rw [List.length_set, List.length_set]; exact r.len
  slot := fun k d' h1 h2 => by
    by_cases h : i = k
    · subst h
      have hlt : i < env.length := by
        have := (List.getElem?_eq_some_iff.mp h1).1
        rwa [List.length_set] at this
      rw [List.getElem?_set_self hlt] at h1
      cases h1
      exact ⟨v, List.getElem?_set_self (by rw [← r.len]; exact hlt), .fz p⟩
    · rw [List.getElem?_set_ne h] at h1 ⊢
      exact r.slot k d' h1 h2
  pin := fun k w h => by
    have : i ≠ k := fun z => by
      subst z
      rw [hp] at h
      cases h
    rw [List.getElem?_set_ne this]
    exact r.pin k w h
/-- the owned things change their places: their roots by a map -/
theorem Rel.reroot {W' : Own} {F' : Hp} (r : Rel M e W F H env σ) (hW : ∀ a, W' a ≠ none → W a ≠ none) (hF : Ex F F') (hF2 : Ex F' H) (sep : ∀ a, W' a ≠ none → F' a = none) (hnew : ∀ b, F' b ≠ none → F b ≠ none ∨ e.H0 b = none)
    (hfr : ∀ a r q, W' a = some (r :: q) → e.H0 a = none ∨ ∃ i v q0, r = i + 1 ∧ e.P i = some v ∧ e.W0 a = some (r :: q0)) {env' : List D} {σ' : L2.St} (len : env'.length = σ'.length)
    (hs : ∀ i d, env'[i]? = some d → d ≠ .unb → ∃ v, σ'[i]? = some (some v) ∧ Ow M W' F' H [i + 1] d v) (hp : ∀ i v, e.P i = some v → σ'[i]? = some (some v)) : Rel M e W' F' H env' σ' where
  pres := r.pres
  exF0 := r.exF0.trans hF
  exF := hF2
  sep := fun a h => ⟨sep a h, (r.sep a (hW a h)).2⟩
  fresh := hfr
  new := fun b h => (hnew b h).elim (r.new b) fun z => .inr (.inl z)
  stay := r.stay
  tups := r.tups
  tupr := r.tupr
  nof := fun a h => r.nof a (hW a h)
  len := len
  slot := hs
  pin := hp
def rootIs (o : Option (List Nat)) (k : Nat) : Bool := match o with
  | some (r :: _) => r == k
  | _ => false
theorem rootIs_iff {o : Option (List Nat)} {k : Nat} : rootIs o k = true ↔ ∃ q, o = some (k :: q) := by
  unfold rootIs
  constructor
  · intro h
    split at h
    · exact ⟨_, by rw [eq_of_beq h]⟩
    · cases h
  · rintro ⟨q, rfl⟩
    exact beq_self_eq_true k
/-- what the root k holds is frozen -/
def frzW (W : Own) (k : Nat) : Own := fun a => if rootIs (W a) k = true then none else W a
def frzF (W : Own) (k : Nat) (F H : Hp) : Hp := fun a => if rootIs (W a) k = true then H a else F a
theorem frzF_ex (r : RelB e W F H) (k : Nat) : Ex F (frzF W k F H) := fun a o h => by
  unfold frzF
  by_cases z : rootIs (W a) k = true
  · obtain ⟨q, hq⟩ := rootIs_iff.mp z
    have := (r.sep a (by rw [hq]; simp)).1
    rw [this] at h
    cases h
  · rw [if_neg z]
    exact h
theorem frzF_sub (r : RelB e W F H) (k : Nat) : Ex (frzF W k F H) H := fun a o h => by
  unfold frzF at h
  by_cases z : rootIs (W a) k = true
  · rw [if_pos z] at h
    exact h
  · rw [if_neg z] at h
    exact r.exF a o h
theorem frzW_eq {a : Addr} {k : Nat} {p : List Nat} (h : frzW W k a = some p) : W a = some p ∧ rootIs (W a) k = false := by
  unfold frzW at h
  by_cases z : rootIs (W a) k = true
  · rw [if_pos z] at h
    cases h
  · rw [if_neg z] at h
    exact ⟨h, by simpa using z⟩
theorem RelB.freeze (r : RelB e W F H) (k : Nat) (hk : ∀ i, k = i + 1 → e.P i = none) : RelB e (frzW W k) (frzF W k F H) H where
  pres := r.pres
  exF0 := r.exF0.trans (frzF_ex r k)
  exF := frzF_sub r k
  sep := fun a h => by
    cases q : frzW W k a with
    | none => exact absurd q h
    | some p =>
      obtain ⟨h1, h2⟩ := frzW_eq q
      have z := r.sep a (by rw [h1]; simp)
      refine ⟨?_, z.2⟩
      unfold frzF
      rw [if_neg (by rw [h2]; simp)]
      exact z.1
  fresh := fun a c q h => r.fresh a c q (frzW_eq h).1
  new := fun b h => by
    unfold frzF at h
    by_cases z : rootIs (W b) k = true
    · obtain ⟨q, hq⟩ := rootIs_iff.mp z
      rcases r.fresh b k q hq with f | ⟨i, v, q0, hi, hv, _⟩
      · exact .inr (.inl f)
      · rw [hk i hi] at hv
        cases hv
    · rw [if_neg z] at h
      exact r.new b h
  stay := r.stay
  tups := r.tups
  tupr := r.tupr
  nof := fun a h => by
    cases q : frzW W k a with
    | none => exact absurd q h
    | some p => exact r.nof a (by rw [(frzW_eq q).1]; simp)
theorem Ow.thaw {p : List Nat} {c : Nat} {q : List Nat} {k : Nat} {d : D} {v : V} (r : RelB e W F H) (h : Ow M W F H (c :: q) d v) (hc : c ≠ k) : Ow M (frzW W k) (frzF W k F H) H (c :: q) d v :=
  h.tr (frzF_ex r k) fun a z y => ⟨by
    unfold frzW
    rw [if_neg]
    · exact y
    · intro w
      obtain ⟨q', hq⟩ := rootIs_iff.mp w
      rw [y] at hq
      injection hq with hq
      injection hq with h1 _
      exact hc h1, fun _ x => x⟩
theorem Ow.froze {k : Nat} {d : D} {v : V} (r : RelB e W F H) (h : Ow M W F H [k] d v) : Rp M (frzF W k F H) (DL.frz d) v :=
  h.frz (frzF_ex r k) fun a q o z y => by
    unfold frzF
    rw [if_pos (rootIs_iff.mpr ⟨q, z⟩)]
    exact y
theorem Rel.freeze0 (r : Rel M e W F H env σ) : Rel M e (frzW W 0) (frzF W 0 F H) H env σ where
  toRelB := r.toRelB.freeze 0 fun i h => by omega
  len := r.len
  slot := fun i d h1 h2 => by
    obtain ⟨v, h3, h4⟩ := r.slot i d h1 h2
    exact ⟨v, h3, Ow.thaw (p := []) r.toRelB h4 (by omega)⟩
  pin := r.pin
/-- a slot's owned thing is frozen where it is -/
theorem Rel.freezeAt (r : Rel M e W F H env σ) {i : Nat} {d : D} (hi : env[i]? = some d) (hd : d ≠ .unb) (hp : e.P i = none) : ∃ v, σ[i]? = some (some v) ∧ Rp M (frzF W (i + 1) F H) (frz d) v ∧ Rel M e (frzW W (i + 1)) (frzF W (i + 1) F H) H (env.set i (frz d)) σ := by
  obtain ⟨v, h3, h4⟩ := r.slot i d hi hd
  have rp := Ow.froze r.toRelB h4
  refine ⟨v, h3, rp, ⟨r.toRelB.freeze (i + 1) fun k h => by
    have : k = i := by omega
    rw [this]
    exact hp, by rw [List.length_set]; exact r.len, fun k d' h1 h2 => ?_, r.pin⟩⟩
  by_cases h : i = k
  · subst h
    rw [List.getElem?_set_self (List.getElem?_eq_some_iff.mp hi).1] at h1
    cases h1
    exact ⟨v, h3, .fz rp⟩
  · rw [List.getElem?_set_ne h] at h1
    obtain ⟨v, h5, h6⟩ := r.slot k d' h1 h2
    exact ⟨v, h5, Ow.thaw (p := []) r.toRelB h6 (by omega)⟩
/-- the owned thing at the root 0 goes to a slot -/
def mvW (W : Own) (i : Nat) : Own := fun a => match W a with
  | some (r :: q) => if r = 0 then some ((i + 1) :: q) else if r = i + 1 then none else some (r :: q)
  | o => o
theorem Rel.setO {i : Nat} {d : D} {v : V} (r : Rel M e W F H env σ) (p : Ow M W F H [0] d v) (hp : e.P i = none) : Rel M e (mvW W i) F H (env.set i d) (σ.set i (some v)) := by
  have hW : ∀ a, mvW W i a ≠ none → W a ≠ none := fun a h z => h (by unfold mvW; rw [z])
  refine r.reroot hW (Ex.refl F) r.exF (fun a h => (r.sep a (hW a h)).1) (fun b h => .inl h) (fun a c q h => ?_) (by rw [List.length_set, List.length_set]; exact r.len) (fun k d' h1 h2 => ?_) (fun k w h => ?_)
  · unfold mvW at h
    split at h
    · rename_i r' q' hq
      split at h
      · rename_i h0
        subst h0
        rcases r.fresh a 0 q' hq with f | ⟨i', v', q0, hi', _⟩
        · exact .inl f
        · omega
      · split at h
        · cases h
        · injection h with h
          injection h with h1 h2
          subst h1
          exact r.fresh a _ q' hq
    · exact r.fresh a c q h
  · by_cases h : i = k
    · subst h
      have hlt : i < env.length := by
        have := (List.getElem?_eq_some_iff.mp h1).1
        rwa [List.length_set] at this
      rw [List.getElem?_set_self hlt] at h1
      cases h1
      refine ⟨v, List.getElem?_set_self (by rw [← r.len]; exact hlt), p.tr (Ex.refl F) fun a q z => ⟨?_, fun _ x => x⟩⟩
      unfold mvW
      rw [z]
      rfl
    · rw [List.getElem?_set_ne h] at h1 ⊢
      obtain ⟨v', h5, h6⟩ := r.slot k d' h1 h2
      refine ⟨v', h5, h6.tr (Ex.refl F) fun a q z => ⟨?_, fun _ x => x⟩⟩
      unfold mvW
      rw [z]
      show (if k + 1 = 0 then _ else if k + 1 = i + 1 then none else some ((k + 1) :: q)) = some ([k + 1] ++ q)
      rw [if_neg (by omega), if_neg (by omega)]
      rfl
  · have : i ≠ k := fun z => by
      subst z
      rw [hp] at h
      cases h
    rw [List.getElem?_set_ne this]
    exact r.pin k w h
/-- a slot's thing goes to the root 0; the slot is forgotten -/
def upW (W : Own) (i : Nat) : Own := fun a => match W a with
  | some (r :: q) => if r = i + 1 then some (0 :: q) else if r = 0 then none else some (r :: q)
  | o => o
theorem Rel.takeO {i : Nat} {d : D} (r : Rel M e W F H env σ) (hi : env[i]? = some d) (hd : d ≠ .unb) (hp : e.P i = none) : ∃ v, σ[i]? = some (some v) ∧ Ow M (upW W i) F H [0] d v ∧ Rel M e (upW W i) F H (env.set i .unb) σ := by
  obtain ⟨v, h3, h4⟩ := r.slot i d hi hd
  have hW : ∀ a, upW W i a ≠ none → W a ≠ none := fun a h z => h (by unfold upW; rw [z])
  refine ⟨v, h3, h4.tr (Ex.refl F) fun a q z => ⟨?_, fun _ x => x⟩, r.reroot hW (Ex.refl F) r.exF (fun a h => (r.sep a (hW a h)).1) (fun b h => .inl h) (fun a c q h => ?_) (by rw [List.length_set]; exact r.len) (fun k d' h1 h2 => ?_) r.pin⟩
  · unfold upW
    rw [z]
    show (if i + 1 = i + 1 then _ else _) = _
    rw [if_pos rfl]
    rfl
  · unfold upW at h
    split at h
    · rename_i r' q' hq
      split at h
      · rename_i h0
        subst h0
        rcases r.fresh a _ q' hq with f | ⟨i', v', q0, hi', hv, _⟩
        · exact .inl f
        · have : i' = i := by omega
          rw [this, hp] at hv
          cases hv
      · split at h
        · cases h
        · injection h with h
          injection h with h1 h2
          subst h1
          exact r.fresh a _ q' hq
    · exact r.fresh a c q h
  · by_cases h : i = k
    · subst h
      have hlt : i < env.length := by
        have := (List.getElem?_eq_some_iff.mp h1).1
        rwa [List.length_set] at this
      rw [List.getElem?_set_self hlt] at h1
      cases h1
      exact absurd rfl h2
    · rw [List.getElem?_set_ne h] at h1
      obtain ⟨v', h5, h6⟩ := r.slot k d' h1 h2
      refine ⟨v', h5, h6.tr (Ex.refl F) fun a q z => ⟨?_, fun _ x => x⟩⟩
      unfold upW
      rw [z]
      show (if k + 1 = i + 1 then _ else if k + 1 = 0 then none else some ((k + 1) :: q)) = some ([k + 1] ++ q)
      rw [if_neg (by omega), if_neg (by omega)]
      rfl
theorem RelB.tupsU {a : Addr} {o : HO} (r : RelB e W F H) (h0 : e.H0 a = none) : ∀ b u, FlatO u → e.H0 b = some u → upd H a o b = some u := fun b u hf h => (upd_ne (show b ≠ a from fun z => by rw [z, h0] at h; cases h)).trans (r.tups b u hf h)
theorem RelB.tuprU {a : Addr} {o : HO} (r : RelB e W F H) (h0 : e.H0 a = none) : ∀ b u, FlatO u → upd H a o b = some u → e.H0 b ≠ none → e.H0 b = some u := fun b u hf h z => r.tupr b u hf (by rw [upd_ne (show b ≠ a from fun y => z (y ▸ h0))] at h; exact h) z
theorem nofU {W W' : Own} {H : Hp} {a : Addr} {o : HO} (r : ∀ b, W b ≠ none → ¬ FlatT H b) (no : ¬ FlatO o) (hs : ∀ b, b ≠ a → W' b ≠ none → W b ≠ none) : ∀ b, W' b ≠ none → ¬ FlatT (upd H a o) b := fun b h ⟨u, h1, h2⟩ => by
  by_cases z : b = a
  · rw [z, upd_same] at h1
    cases h1
    exact no h2
  · rw [upd_ne z] at h1
    exact r b (hs b z h) ⟨u, h1, h2⟩
/-- an owned object of the slot i is written -/
theorem Rel.write {i : Nat} {a : Addr} {q : List Nat} {o : HO} {d : D} {v : V} (r : Rel M e W F H env σ) (ha : W a = some ((i + 1) :: q)) (hv : σ[i]? = some (some v)) (p : Ow M W F (upd H a o) [i + 1] d v) (no : ¬ FlatO o := by (first | exact flat_lst | exact flat_dk | exact flat_ins | exact flat_dt | exact flat_own | (refine fun z => ?_; obtain ⟨_, z⟩ := z; cases z) | assumption)) : Rel M e W F (upd H a o) (env.set i d) σ := by
  have nt : ¬ FlatT H a := r.nof a (by rw [ha]; simp)
  have hn : F a = none := (r.sep a (by rw [ha]; simp)).1
  have hb := r.sep a (by rw [ha]; simp)
  refine ⟨⟨fun b u h1 h2 => ?_, r.exF0, fun b u h => ?_, fun b h => ?_, r.fresh, r.new, fun b h => ?_, fun b u hf h => (upd_ne (show b ≠ a from fun z => nt (by rw [← z]; exact ⟨u, r.tups b u hf h, hf⟩))).trans (r.tups b u hf h), fun b u hf h z => r.tupr b u hf (by
    by_cases y : b = a
    · rw [y, upd_same] at h
      cases h
      exact absurd hf no
    · rw [upd_ne y] at h
      exact h) z, nofU r.nof no fun _ _ h => h⟩, by rw [List.length_set]; exact r.len, fun k d' h1 h2 => ?_, r.pin⟩
  · have : b ≠ a := fun z => by
      subst z
      rcases hb.2.1 with w | w
      · exact w h1
      · rw [w] at h2
        cases h2
    rw [upd_ne this]
    exact r.pres b u h1 h2
  · have : b ≠ a := fun z => by
      subst z
      rw [hn] at h
      cases h
    rw [upd_ne this]
    exact r.exF b u h
  · obtain ⟨h1, h2, h3⟩ := r.sep b h
    refine ⟨h1, h2, ?_⟩
    by_cases z : b = a
    · rw [z, upd_same]
      simp
    · rw [upd_ne z]
      exact h3
  · by_cases z : b = a
    · rw [z, upd_same]
      simp
    · rw [upd_ne z]
      exact r.stay b h
  · by_cases h : i = k
    · subst h
      have hlt : i < env.length := by
        have := (List.getElem?_eq_some_iff.mp h1).1
        rwa [List.length_set] at this
      rw [List.getElem?_set_self hlt] at h1
      cases h1
      exact ⟨v, hv, p⟩
    · rw [List.getElem?_set_ne h] at h1
      obtain ⟨v', h5, h6⟩ := r.slot k d' h1 h2
      refine ⟨v', h5, h6.tr (Ex.refl F) fun b q' z => ⟨z, fun u y => ?_⟩⟩
      have : b ≠ a := fun w => by
        subst w
        rw [ha] at z
        injection z with z
        injection z with z1 _
        omega
      rw [upd_ne this]
      exact y
/-- a new owned object at the root 0 -/
def newW (W : Own) (a : Addr) : Own := fun b => if b = a then some [0] else if rootIs (W b) 0 = true then none else W b
theorem Rel.newH {a : Addr} {o : HO} (r : Rel M e W F H env σ) (n : H a = none) (no : ¬ FlatO o := by (first | exact flat_lst | exact flat_dk | exact flat_ins | exact flat_dt | exact flat_own | (refine fun z => ?_; obtain ⟨_, z⟩ := z; cases z) | assumption)) : Rel M e (newW W a) F (upd H a o) env σ := by
  have nW : W a = none := by
    cases q : W a with
    | none => rfl
    | some z => exact absurd n (r.sep a (by rw [q]; simp)).2.2
  have h0 : e.H0 a = none := by
    cases q : e.H0 a with
    | none => rfl
    | some z => exact absurd n (r.stay a (by rw [q]; simp))
  have old : ∀ b, b ≠ a → newW W a b ≠ none → W b ≠ none := fun b hb h z => h (by
    unfold newW
    rw [if_neg hb, z]
    rfl)
  refine ⟨⟨fun b u h1 h2 => ?_, r.exF0, fun b u h => ?_, fun b h => ?_, fun b c q h => ?_, r.new, fun b h => ?_, r.tupsU h0, r.tuprU h0, nofU r.nof no old⟩, r.len, fun k d' h1 h2 => ?_, r.pin⟩
  · have : b ≠ a := fun z => by
      subst z
      rw [h0] at h2
      cases h2
    rw [upd_ne this]
    exact r.pres b u h1 h2
  · have := r.exF b u h
    rw [upd_ne (ne_of_none this n)]
    exact this
  · by_cases z : b = a
    · subst z
      exact ⟨r.exF.none n, .inr h0, by rw [upd_same]; simp⟩
    · obtain ⟨h1, h2, h3⟩ := r.sep b (old b z h)
      exact ⟨h1, h2, by rw [upd_ne z]; exact h3⟩
  · unfold newW at h
    split at h
    · rename_i z
      subst z
      exact .inl h0
    · split at h
      · cases h
      · exact r.fresh b c q h
  · by_cases z : b = a
    · rw [z, upd_same]
      simp
    · rw [upd_ne z]
      exact r.stay b h
  · obtain ⟨v', h5, h6⟩ := r.slot k d' h1 h2
    refine ⟨v', h5, h6.tr (Ex.refl F) fun b q' z => ?_⟩
    have : b ≠ a := fun w => by
      subst w
      rw [nW] at z
      cases z
    refine ⟨?_, fun u y => by rw [upd_ne this]; exact y⟩
    unfold newW
    rw [if_neg this, if_neg]
    · exact z
    · intro w
      obtain ⟨q2, h7⟩ := rootIs_iff.mp w
      rw [z] at h7
      injection h7 with h7
      injection h7 with h8 _
      omega
theorem newW_self {W : Own} {a : Addr} : newW W a a = some [0] := by
  unfold newW
  rw [if_pos rfl]
theorem Rel.newO {a : Addr} {xs : List V} {l : List D} (r : Rel M e W F H env σ) (n : H a = none) (p : RpL M F l xs) : Rel M e (newW W a) F (upd H a (.lst xs)) env σ ∧ Ow M (newW W a) F (upd H a (.lst xs)) [0] (.ml l) (.ref a) := by
  refine ⟨r.newH n, .ml newW_self upd_same ?_⟩
  · have : ∀ {l : List D} {xs : List V} {H' : Hp} {W' : Own} {k : Nat}, RpL M F l xs → OwL M W' F H' [0] k l xs := by
      intro l
      induction l with
      | nil => intro xs H' W' k h; cases h; exact .nil
      | cons d l ih => intro xs H' W' k h; cases h with
        | cons h q => exact .cons (.fz h) (ih q)
    exact this p
end
end DL
namespace DL
open PySem PySem.Spec PyProof.Rows L2
inductive O where
  | nx (env : List D)
  | rt (d : D) (env : List D)
  | bk (env : List D)
  | ct (env : List D)
  | ex (c : Str) (fs : List D) (env : List D)
  | bad
def AtS (M : Mo) (j : J) (F : Hp) (o : O) (Dn : Ends) : Prop := match o with
  | .nx env' => ∀ W' F' H' σ', Rel M j.e W' F' H' env' σ' → Ex F F' → Dn.nx σ' H'
  | .rt d env' => ∀ W' F' H' σ' v, Rel M j.e W' F' H' env' σ' → Ow M W' F' H' [0] d v → Dn.rt v H'
  | .bk env' => ∀ W' F' H' σ', Rel M j.e W' F' H' env' σ' → Ex F F' → Dn.bk σ' H'
  | .ct env' => ∀ W' F' H' σ', Rel M j.e W' F' H' env' σ' → Ex F F' → Dn.ct σ' H'
  | .ex c fs env' => ∀ W' F' H' σ' cls dd, Rel M j.e W' F' H' env' σ' → Ex F F' → XR M F' c fs cls dd → j.wx cls dd σ' H'
  | .bad => False
def tS (M : Mo) (j : J) (den : List D → O) : TS := fun Dn σ H => ∃ W F env, Rel M j.e W F H env σ ∧ AtS M j F (den env) Dn
abbrev DS (X : Cx) (j : J) (st : Stmt) (den : List D → O) : Prop := PS X st (tS (mo X) j den)
abbrev DSs (X : Cx) (j : J) (st : List Stmt) (den : List D → O) : Prop := PSs X st (tS (mo X) j den)
theorem AtS.mono {M : Mo} {j : J} {F F1 : Hp} {o : O} {Dn : Ends} (h : AtS M j F o Dn) (x : Ex F F1) : AtS M j F1 o Dn := by
  cases o with
  | nx env => exact fun W' F' H' σ' a b => h W' F' H' σ' a (x.trans b)
  | bk env => exact fun W' F' H' σ' a b => h W' F' H' σ' a (x.trans b)
  | ct env => exact fun W' F' H' σ' a b => h W' F' H' σ' a (x.trans b)
  | rt d env => exact h
  | ex c fs env => exact fun W' F' H' σ' cls dd a b c => h W' F' H' σ' cls dd a (x.trans b) c
  | bad => exact h
/-- an expression in a statement -/
def bindS {α : Type} (r : R α) (f : α → List D → O) : O := match r with
  | .ok a env => f a env
  | .ex c fs env => .ex c fs env
  | .bad => .bad
@[simp] theorem bindS_ok {α : Type} (a : α) (env : List D) (f : α → List D → O) : bindS (.ok a env) f = f a env := rfl
@[simp] theorem bindS_ex {α : Type} (c : Str) (fs env : List D) (f : α → List D → O) : bindS (.ex c fs env) f = .ex c fs env := rfl
@[simp] theorem bindS_bad {α : Type} (f : α → List D → O) : bindS .bad f = .bad := rfl
theorem AtS.bind {α β : Type} {M : Mo} {j : J} {rep : Hp → α → β → Prop} {F : Hp} {σ : L2.St} {r : R α} {f : α → List D → O} {Dn : Ends} {P : β → Hp → Prop} (h : AtS M j F (bindS r f) Dn)
    (k : ∀ d env1 W1 F1 H1 v, r = .ok d env1 → Rel M j.e W1 F1 H1 env1 σ → Ex F F1 → rep F1 d v → AtS M j F1 (f d env1) Dn → P v H1) : At M j.e j.wx rep F σ r P := by
  cases r with
  | ok d env' => exact fun W' F' H' v a b c => k d env' W' F' H' v rfl a b c (h.mono b)
  | ex c fs env' => exact fun W' F' H' cls dd a b c => h W' F' H' σ cls dd a b c
  | bad => exact h
def AtO (M : Mo) (j : J) (F : Hp) (σ : L2.St) (r : R D) (Q : VK) : Prop := match r with
  | .ok d env' => ∀ W' F' H' v, Rel M j.e W' F' H' env' σ → Ex F F' → Ow M W' F' H' [0] d v → Q v H'
  | .ex c fs env' => ∀ W' F' H' cls dd, Rel M j.e W' F' H' env' σ → Ex F F' → XR M F' c fs cls dd → j.wx cls dd σ H'
  | .bad => False
def tO (M : Mo) (j : J) (den : List D → R D) : TE := fun σ H Q => ∃ W F env, Rel M j.e W F H env σ ∧ AtO M j F σ (den env) Q
abbrev DO (X : Cx) (j : J) (e : Expr) (den : List D → R D) : Prop := PE X e (tO (mo X) j den)
def frzD (da : List D → R D) : List D → R D := fun env => bindR (da env) fun d env1 => .ok (frz d) env1
/-- made, and frozen at once -/
theorem e_frzo {X : Cx} {j : J} {e : Expr} {da : List D → R D} (h : DO X j e da) : DE X j e (frzD da) :=
  PE.mono h fun σ H Q ⟨W, F, env, rel, q⟩ => ⟨W, F, env, rel, by
    unfold frzD at q
    cases o : da env with
    | ok d env1 =>
      rw [o] at q
      exact fun W' F' H' v a b c => q (frzW W' 0) (frzF W' 0 F' H') H' v a.freeze0 (b.trans (frzF_ex a.toRelB 0)) (Ow.froze a.toRelB c)
    | ex c fs env1 =>
      rw [o] at q
      exact q
    | bad =>
      rw [o] at q
      exact q⟩
def skipD : List D → O := fun env => .nx env
def seqD (da db : List D → O) : List D → O := fun env => match da env with
  | .nx env1 => db env1
  | r => r
def ifS (dt : List D → R Bool) (da db : List D → O) : List D → O := fun env => bindS (dt env) fun b env1 => if b = true then da env1 else db env1
def asgD (i : Nat) (da : List D → R D) : List D → O := fun env => bindS (da env) fun d env1 => .nx (env1.set i d)
def exprD (da : List D → R D) : List D → O := fun env => bindS (da env) fun _ env1 => .nx env1
def retD (da : List D → R D) : List D → O := fun env => bindS (da env) fun d env1 => .rt d env1
def retV (i : Nat) : List D → O := fun env => match env.getD i .unb with
  | .unb => .bad
  | d => .rt d (env.set i .unb)
section
variable {X : Cx} {j : J} {a b c e : Expr} {st : Stmt} {es : List Expr} {sts : List Stmt} {pos pos' : Pos} {da db : List D → R D} {dt : List D → R Bool} {sa sb : List D → O}
theorem ss_nil : DSs X j [] skipD := PSs.mono pss_nil fun Dn σ H ⟨W, F, env, rel, q⟩ => q W F H σ rel (Ex.refl F)
theorem ss_cons (ha : DS X j st sa) (hb : DSs X j sts sb) : DSs X j (st :: sts) (seqD sa sb) :=
  PSs.mono (pss_cons ha hb) fun Dn σ H ⟨W, F, env, rel, q⟩ => ⟨W, F, env, rel, by
    unfold seqD at q
    cases o : sa env with
    | nx env1 =>
      rw [o] at q
      exact fun W' F' H' σ' r x => ⟨W', F', env1, r, q.mono x⟩
    | _ =>
      rw [o] at q
      exact q⟩
theorem ss_one (ha : DS X j st sa) : DSs X j [st] sa := pss_one ha
theorem s_if {p q : List Stmt} (hc : DT X j c dt) (ha : DSs X j p sa) (hb : DSs X j q sb) : DS X j (.If c p q pos) (ifS dt sa sb) :=
  PS.mono (ps_if hc ha hb) fun Dn σ H ⟨W, F, env, rel, q⟩ => ⟨W, F, env, rel, AtS.bind q fun d env1 W1 F1 H1 v _ r1 x1 p1 q1 => by
    subst p1
    cases d with
    | true => exact ⟨W1, F1, env1, r1, q1⟩
    | false => exact ⟨W1, F1, env1, r1, q1⟩⟩
theorem s_expr (ha : DE X j e da) (hs : swapsWith e none pos.line X.env = pure false := by rfl) : DS X j (.Expr e pos) (exprD da) :=
  PS.mono (ps_expr ha hs) fun Dn σ H ⟨W, F, env, rel, q⟩ => ⟨W, F, env, rel, AtS.bind q fun d env1 W1 F1 H1 v _ r1 x1 p1 q1 => q1 W1 F1 H1 σ r1 (Ex.refl F1)⟩
theorem s_ret (ha : DE X j e da) : DS X j (.Return (some e) pos) (retD da) :=
  PS.mono (ps_ret ha) fun Dn σ H ⟨W, F, env, rel, q⟩ => ⟨W, F, env, rel, AtS.bind q fun d env1 W1 F1 H1 v _ r1 x1 p1 q1 => q1 W1 F1 H1 σ v r1 (.fz p1)⟩
theorem s_retO (ha : DO X j e da) : DS X j (.Return (some e) pos) (retD da) :=
  PS.mono (ps_ret ha) fun Dn σ H ⟨W, F, env, rel, q⟩ => ⟨W, F, env, rel, by
    unfold retD at q
    cases o : da env with
    | ok d env1 =>
      rw [o] at q
      exact fun W' F' H' v r x p => q W' F' H' σ v r p
    | ex c fs env1 =>
      rw [o] at q
      exact fun W' F' H' cls dd r x y => q W' F' H' σ cls dd r x y
    | bad =>
      rw [o] at q
      exact q⟩
/-- return x, x owned: it goes with it -/
theorem s_retV (i : Nat) {x : Str} {p : Pos} (h : PE X (.Name x p) (tVar i)) (hp : j.e.P i = none) : DS X j (.Return (some (.Name x p)) pos) (retV i) :=
  PS.mono (ps_ret h) fun Dn σ H ⟨W, F, env, rel, q⟩ => by
    have q : AtS (mo X) j F (retV i env) Dn := q
    have key : env.getD i .unb ≠ .unb → AtS (mo X) j F (.rt (env.getD i .unb) (env.set i .unb)) Dn → tRet (tVar i) Dn σ H := fun hd q => by
      have hi : env[i]? = some (env.getD i .unb) := by
        rw [List.getD_eq_getElem?_getD] at hd ⊢
        cases z : env[i]? with
        | none => rw [z] at hd; exact absurd rfl hd
        | some d => rfl
      obtain ⟨v, h3, h4, h5⟩ := rel.takeO hi hd hp
      exact ⟨v, h3, q _ _ _ σ v h5 h4⟩
    unfold retV at q
    split at q
    · exact q.elim
    · rename_i h1
      exact key h1 q
/-- x = e -/
theorem s_set (i : Nat) {x : Str} (hN : X.N.Nodup) (hp : j.e.P i = none) (ha : DE X j e da) (hi : X.N[i]? = some x := by rfl) (hx : Loc X.env.scope x := by first | exact Or.inl rfl | exact Or.inr rfl) (hs : swapsWith e (some (.Name x pos')) pos.line X.env = pure false := by rfl)
    (hf : X.fn x = true ∨ X.env.scope.names.lookup x = some .local := by first | exact .inl rfl | exact .inr rfl) : DS X j (.Assign [.Name x pos'] e pos) (asgD i da) :=
  PS.mono (ps_set hN hi hx ha hs hf) fun Dn σ H ⟨W, F, env, rel, q⟩ => ⟨W, F, env, rel, AtS.bind q fun d env1 W1 F1 H1 v _ r1 x1 p1 q1 => q1 W1 F1 H1 _ (r1.set p1 hp) (Ex.refl F1)⟩
/-- x = e, what e makes is owned -/
theorem s_setO (i : Nat) {x : Str} (hN : X.N.Nodup) (hp : j.e.P i = none) (ha : DO X j e da) (hi : X.N[i]? = some x := by rfl) (hx : Loc X.env.scope x := by first | exact Or.inl rfl | exact Or.inr rfl) (hs : swapsWith e (some (.Name x pos')) pos.line X.env = pure false := by rfl)
    (hf : X.fn x = true ∨ X.env.scope.names.lookup x = some .local := by first | exact .inl rfl | exact .inr rfl) : DS X j (.Assign [.Name x pos'] e pos) (asgD i da) :=
  PS.mono (ps_set hN hi hx ha hs hf) fun Dn σ H ⟨W, F, env, rel, q⟩ => ⟨W, F, env, rel, by
    unfold asgD at q
    cases o : da env with
    | ok d env1 =>
      rw [o] at q
      exact fun W' F' H' v r x p => q _ F' H' _ (r.setO p hp) x
    | ex c fs env1 =>
      rw [o] at q
      exact fun W' F' H' cls dd r x y => q W' F' H' σ cls dd r x y
    | bad =>
      rw [o] at q
      exact q⟩
end
inductive FR where
  | ret (d : D) (outs : List D)
  | exc (c : Str) (fs : List D) (outs : List D)
  | bad
inductive Ar where
  | v (d : D)
  | io (i : Nat)
def ownd : D → Bool
  | .ml _ => true
  | .mi _ _ => true
  | .md _ _ => true
  | .mdt _ _ => true
  | .mt _ => true
  | _ => false
def outsOk (M : Mo) (W : Own) (F H : Hp) (io : List Nat) (outs : List D) (vs : List V) : Prop :=
  ∀ (t k : Nat) (d : D), io[t]? = some k → outs[t]? = some d → d ≠ .unb → ∃ v, vs[k]? = some v ∧ Ow M W F H [k + 1] d v
def pinOf (io : List Nat) (vs : List V) : Nat → Option V := fun i => if i ∈ io then vs[i]? else none
/-- the promise of a def: n parameters, those at io are owned by the caller and changed -/
def spD (M : Mo) (n : Nat) (io : List Nat) (f : List D → FR) : Sp := fun vs H Q E => ∃ (W : Own) (F : Hp) (ds : List D),
  vs.length = n ∧ ds.length = n ∧ RelB ⟨H, F, W, pinOf io vs⟩ W F H ∧ (∀ i d, ds[i]? = some d → d ≠ .unb ∧ ∃ v, vs[i]? = some v ∧ Ow M W F H [i + 1] d v) ∧
  match f ds with
  | .ret d outs => ∀ W' F' H' v, RelB ⟨H, F, W, pinOf io vs⟩ W' F' H' → Ow M W' F' H' [0] d v → outsOk M W' F' H' io outs vs → Q v H'
  | .exc c fs outs => ∀ W' F' H' cls dd, RelB ⟨H, F, W, pinOf io vs⟩ W' F' H' → XR M F' c fs cls dd → outsOk M W' F' H' io outs vs → E cls dd H'
  | .bad => False
def outsD (io : List Nat) (env : List D) : List D := io.map fun i => env.getD i .unb
/-- a body as a function: N names -/
def runD (N : Nat) (io : List Nat) (den : List D → O) : List D → FR := fun ds => match den (ds ++ List.replicate (N - ds.length) .unb) with
  | .nx env => .ret .non (outsD io env)
  | .rt d env => .ret d (outsD io env)
  | .ex c fs env => .exc c fs (outsD io env)
  | _ => .bad
/-- what a body leans on -/
structure Wf (X : Cx) (j : J) (io : List Nat) : Prop where
  nd : X.N.Nodup
  calm : X.calm = true
  take : Takes X j.wx
  pass : PassesOwn (model X.prog X.w) X.A X.env X.xe
  pin : ∀ i, i ∉ io → j.e.P i = none
theorem outs_rel {M : Mo} {H F : Hp} {W0 W : Own} {io : List Nat} {vs : List V} {F' H' : Hp} {env : List D} {σ : L2.St} (r : Rel M ⟨H, F, W0, pinOf io vs⟩ W F' H' env σ) (hio : ∀ i ∈ io, i < vs.length) : outsOk M W F' H' io (outsD io env) vs := fun t k d h1 h2 h3 => by
  unfold outsD at h2
  rw [List.getElem?_map, h1] at h2
  have h2 : env.getD k .unb = d := Option.some.inj h2
  have hk : k ∈ io := List.mem_of_getElem? h1
  have hi : env[k]? = some d := by
    rw [List.getD_eq_getElem?_getD] at h2
    cases q : env[k]? with
    | none => rw [q] at h2; exact absurd h2.symm h3
    | some z => rw [q] at h2; exact congrArg some h2
  obtain ⟨v, h4, h5⟩ := r.slot k d hi h3
  have hv : vs[k]? = some (vs[k]'(hio k hk)) := List.getElem?_eq_getElem _
  have := r.pin k _ (show pinOf io vs k = some _ by unfold pinOf; rw [if_pos hk]; exact hv)
  rw [h4] at this
  cases this
  exact ⟨_, hv, h5⟩
section
variable {P : Program} {w : World} {K : PySem.W.Frag} {mg : Str → Option Value} {base : Heap}
end
end DL
namespace DL
open PySem PySem.Spec PyProof.Rows L2
def RaL (M : Mo) (σ : L2.St) (F : Hp) : List Ar → List V → Prop
  | [], vs => vs = []
  | .v d :: as, vs => ∃ v r, vs = v :: r ∧ Rp M F d v ∧ RaL M σ F as r
  | .io i :: as, vs => ∃ v r, vs = v :: r ∧ σ[i]? = some (some v) ∧ RaL M σ F as r
abbrev DAr (X : Cx) (j : J) (es : List Expr) (den : List D → R (List Ar)) : Prop := PA X es (fun σ H Q => tR (mo X) j.e j.wx (RaL (mo X) σ) den σ H Q)
def nilA : List D → R (List Ar) := fun env => .ok [] env
def consA (da : List D → R D) (dr : List D → R (List Ar)) : List D → R (List Ar) := fun env => bindR (da env) fun x env1 => bindR (dr env1) fun xs env2 => .ok (.v x :: xs) env2
def ioA (i : Nat) (dr : List D → R (List Ar)) : List D → R (List Ar) := fun env => if ownd (env.getD i .unb) = true then bindR (dr env) fun xs env2 => .ok (.io i :: xs) env2 else .bad
theorem RaL.mono {M : Mo} {σ : L2.St} {F F' : Hp} (x : Ex F F') : ∀ {as : List Ar} {vs : List V}, RaL M σ F as vs → RaL M σ F' as vs
  | [], _, h => h
  | .v d :: as, _, ⟨v, r, e, p, q⟩ => ⟨v, r, e, p.mono x, RaL.mono x q⟩
  | .io i :: as, _, ⟨v, r, e, p, q⟩ => ⟨v, r, e, p, RaL.mono x q⟩
theorem ownd_some {env : List D} {i : Nat} (h : ownd (env.getD i .unb) = true) : env[i]? = some (env.getD i .unb) ∧ env.getD i .unb ≠ .unb := by
  constructor
  · rw [List.getD_eq_getElem?_getD] at h ⊢
    cases q : env[i]? with
    | none => rw [q] at h; exact absurd h (by unfold ownd; simp)
    | some d => rfl
  · intro e
    rw [e] at h
    exact absurd h (by unfold ownd; simp)
section
variable {X : Cx} {j : J} {a : Expr} {es : List Expr} {pos : Pos} {da : List D → R D} {dr : List D → R (List Ar)}
theorem a_nil : DAr X j [] nilA := PA.mono pa_nil fun σ H Q ⟨W, F, env, rel, q⟩ => q W F H [] rel (Ex.refl F) rfl
theorem a_cons (ha : DE X j a da) (hr : DAr X j es dr) (hs : starEach (a :: es) X.env = (false, eval a X.env) :: starEach es X.env := by rfl) : DAr X j (a :: es) (consA da dr) :=
  PA.mono (pa_cons ha hr hs) fun σ H Q ⟨W, F, env, rel, q⟩ => ⟨W, F, env, rel, At.bind q fun d env1 W1 F1 H1 v _ r1 x1 p1 q1 => ⟨W1, F1, env1, r1, At.bind q1 fun d2 env2 W2 F2 H2 v2 _ r2 x2 p2 q2 =>
    q2 W2 F2 H2 (v :: v2) r2 (Ex.refl F2) ⟨v, v2, rfl, p1.mono x2, p2⟩⟩⟩
theorem a_io (i : Nat) {x : Str} (h : PE X (.Name x pos) (tVar i)) (hr : DAr X j es dr) (hs : starEach ((.Name x pos) :: es) X.env = (false, eval (.Name x pos) X.env) :: starEach es X.env := by rfl) : DAr X j ((.Name x pos) :: es) (ioA i dr) :=
  PA.mono (pa_cons h hr hs) fun σ H Q ⟨W, F, env, rel, q⟩ => by
    unfold ioA at q
    by_cases o : ownd (env.getD i .unb) = true
    · rw [if_pos o] at q
      obtain ⟨h1, h2⟩ := ownd_some o
      obtain ⟨v, h3, h4⟩ := rel.slot i _ h1 h2
      exact ⟨v, h3, W, F, env, rel, At.bind q fun d2 env2 W2 F2 H2 v2 _ r2 x2 p2 q2 => q2 W2 F2 H2 (v :: v2) r2 (Ex.refl F2) ⟨v, v2, rfl, h3, p2⟩⟩
    · rw [if_neg o] at q
      exact q.elim
end
def valsOf (as : List Ar) (env : List D) : List D := as.map fun a => match a with
  | .v d => d
  | .io i => env.getD i .unb
def ioOf : Nat → List Ar → List (Nat × Nat)
  | _, [] => []
  | k, .v _ :: r => ioOf (k + 1) r
  | k, .io i :: r => (k, i) :: ioOf (k + 1) r
def okIo (n : Nat) (io : List Nat) (as : List Ar) (env : List D) : Bool :=
  decide (as.length = n) && (decide ((ioOf 0 as).map (·.1) = io) && decide ((ioOf 0 as).map (·.2)).Nodup && (ioOf 0 as).all fun p => ownd (env.getD p.2 .unb))
def wback : List Nat → List D → List D → List D
  | i :: is, d :: ds, env => wback is ds (env.set i d)
  | _, _, env => env
/-- the call of a def: what it hands back may be owned -/
def callO (n : Nat) (io : List Nat) (f : List D → FR) (da : List D → R (List Ar)) : List D → R D := fun env => bindR (da env) fun as env1 =>
  if okIo n io as env1 = true then match f (valsOf as env1) with
    | .ret d outs => .ok d (wback ((ioOf 0 as).map (·.2)) outs env1)
    | .exc c fs outs => .ex c fs (wback ((ioOf 0 as).map (·.2)) outs env1)
    | .bad => .bad
  else .bad
theorem ioOf_lt : ∀ {as : List Ar} {k : Nat} {p : Nat × Nat}, p ∈ ioOf k as → k ≤ p.1
  | [], _, _, h => by simp [ioOf] at h
  | .v _ :: r, k, p, h => by
    have := ioOf_lt (as := r) (k := k + 1) (p := p) h
    omega
  | .io i :: r, k, p, h => by
    rcases List.mem_cons.mp h with h | h
    · rw [h]
      exact Nat.le_refl _
    · have := ioOf_lt (as := r) (k := k + 1) (p := p) h
      omega
theorem ioOf_fst : ∀ {as : List Ar} {k : Nat}, ((ioOf k as).map (·.1)).Nodup
  | [], _ => List.nodup_nil
  | .v _ :: r, k => ioOf_fst (as := r) (k := k + 1)
  | .io i :: r, k => by
    show (k :: (ioOf (k + 1) r).map (·.1)).Nodup
    refine List.nodup_cons.mpr ⟨fun h => ?_, ioOf_fst (as := r) (k := k + 1)⟩
    obtain ⟨p, hp, e⟩ := List.mem_map.mp h
    have := ioOf_lt hp
    omega
theorem ral_io {M : Mo} {σ : L2.St} {F : Hp} : ∀ {as : List Ar} {vs : List V} {k : Nat} {p : Nat × Nat}, RaL M σ F as vs → p ∈ ioOf k as → ∃ v, vs[p.1 - k]? = some v ∧ σ[p.2]? = some (some v) ∧ as[p.1 - k]? = some (.io p.2)
  | [], _, _, _, _, h => by simp [ioOf] at h
  | .v _ :: r, _, k, p, ⟨v, vs, e, _, q⟩, h => by
    have hl := ioOf_lt (as := r) (k := k + 1) (p := p) h
    obtain ⟨w, h1, h2, h3⟩ := ral_io (k := k + 1) q h
    have e1 : p.1 - k = (p.1 - (k + 1)) + 1 := by omega
    exact ⟨w, by rw [e, e1, List.getElem?_cons_succ]; exact h1, h2, by rw [e1, List.getElem?_cons_succ]; exact h3⟩
  | .io i :: r, _, k, p, ⟨v, vs, e, s, q⟩, h => by
    rcases List.mem_cons.mp h with h | h
    · rw [h, e]
      exact ⟨v, by simp, s, by simp⟩
    · have hl := ioOf_lt (as := r) (k := k + 1) (p := p) h
      obtain ⟨w, h1, h2, h3⟩ := ral_io (k := k + 1) q h
      have e1 : p.1 - k = (p.1 - (k + 1)) + 1 := by omega
      exact ⟨w, by rw [e, e1, List.getElem?_cons_succ]; exact h1, h2, by rw [e1, List.getElem?_cons_succ]; exact h3⟩
theorem ral_len {M : Mo} {σ : L2.St} {F : Hp} : ∀ {as : List Ar} {vs : List V}, RaL M σ F as vs → as.length = vs.length
  | [], _, h => by rw [show _ = ([] : List V) from h]; rfl
  | .v _ :: r, _, ⟨v, vs, e, _, q⟩ => by rw [e, List.length_cons, List.length_cons, ral_len q]
  | .io i :: r, _, ⟨v, vs, e, s, q⟩ => by rw [e, List.length_cons, List.length_cons, ral_len q]
theorem ral_v {M : Mo} {σ : L2.St} {F : Hp} : ∀ {as : List Ar} {vs : List V} {i : Nat} {d : D}, RaL M σ F as vs → as[i]? = some (.v d) → ∃ v, vs[i]? = some v ∧ Rp M F d v
  | [], _, _, _, _, h => by simp at h
  | .v _ :: r, _, 0, _, ⟨v, vs, e, p, q⟩, h => by
    simp at h
    subst h
    exact ⟨v, by rw [e]; rfl, p⟩
  | .v _ :: r, _, i + 1, _, ⟨v, vs, e, p, q⟩, h => by
    rw [List.getElem?_cons_succ] at h
    obtain ⟨w, h1, h2⟩ := ral_v q h
    exact ⟨w, by rw [e, List.getElem?_cons_succ]; exact h1, h2⟩
  | .io _ :: r, _, 0, _, _, h => by simp at h
  | .io _ :: r, _, i + 1, _, ⟨v, vs, e, p, q⟩, h => by
    rw [List.getElem?_cons_succ] at h
    obtain ⟨w, h1, h2⟩ := ral_v q h
    exact ⟨w, by rw [e, List.getElem?_cons_succ]; exact h1, h2⟩
theorem ioOf_mem : ∀ {as : List Ar} {k n i : Nat}, as[n]? = some (.io i) → (n + k, i) ∈ ioOf k as
  | [], _, _, _, h => by simp at h
  | .v _ :: r, k, 0, _, h => by simp at h
  | .v _ :: r, k, n + 1, i, h => by
    rw [List.getElem?_cons_succ] at h
    have := ioOf_mem (k := k + 1) h
    rw [show n + 1 + k = n + (k + 1) by omega]
    exact this
  | .io _ :: r, k, 0, i, h => by
    simp at h
    subst h
    exact List.mem_cons.mpr (.inl (by simp))
  | .io _ :: r, k, n + 1, i, h => by
    rw [List.getElem?_cons_succ] at h
    have := ioOf_mem (k := k + 1) h
    rw [show n + 1 + k = n + (k + 1) by omega]
    exact List.mem_cons.mpr (.inr this)
def toK (ps : List (Nat × Nat)) (i : Nat) : Option Nat := (ps.find? fun p => p.2 == i).map (·.1)
def toI (ps : List (Nat × Nat)) (k : Nat) : Option Nat := (ps.find? fun p => p.1 == k).map (·.2)
theorem toK_mem {ps : List (Nat × Nat)} {i k : Nat} (h : toK ps i = some k) : (k, i) ∈ ps := by
  unfold toK at h
  cases q : ps.find? fun p => p.2 == i with
  | none => rw [q] at h; cases h
  | some p =>
    rw [q] at h
    have h : p.1 = k := Option.some.inj h
    have h2 : p.2 = i := by simpa using List.find?_some q
    have := List.mem_of_find?_eq_some q
    rw [← h, ← h2]
    exact this
theorem toI_mem {ps : List (Nat × Nat)} {i k : Nat} (h : toI ps k = some i) : (k, i) ∈ ps := by
  unfold toI at h
  cases q : ps.find? fun p => p.1 == k with
  | none => rw [q] at h; cases h
  | some p =>
    rw [q] at h
    have h : p.2 = i := Option.some.inj h
    have h2 : p.1 = k := by simpa using List.find?_some q
    have := List.mem_of_find?_eq_some q
    rw [← h, ← h2]
    exact this
theorem pair_snd : ∀ {ps : List (Nat × Nat)} {a b i : Nat}, (ps.map (·.2)).Nodup → (a, i) ∈ ps → (b, i) ∈ ps → a = b
  | [], _, _, _, _, h, _ => by simp at h
  | p :: ps, a, b, i, nd, h1, h2 => by
    obtain ⟨n1, n2⟩ := List.nodup_cons.mp nd
    rcases List.mem_cons.mp h1 with h1 | h1 <;> rcases List.mem_cons.mp h2 with h2 | h2
    · rw [← h1] at h2
      exact (Prod.mk.inj h2).1.symm
    · exact absurd (List.mem_map.mpr ⟨_, h2, by rw [← h1]⟩) n1
    · exact absurd (List.mem_map.mpr ⟨_, h1, by rw [← h2]⟩) n1
    · exact pair_snd n2 h1 h2
theorem pair_fst : ∀ {ps : List (Nat × Nat)} {a b i : Nat}, (ps.map (·.1)).Nodup → (i, a) ∈ ps → (i, b) ∈ ps → a = b
  | [], _, _, _, _, h, _ => by simp at h
  | p :: ps, a, b, i, nd, h1, h2 => by
    obtain ⟨n1, n2⟩ := List.nodup_cons.mp nd
    rcases List.mem_cons.mp h1 with h1 | h1 <;> rcases List.mem_cons.mp h2 with h2 | h2
    · rw [← h1] at h2
      exact (Prod.mk.inj h2).2.symm
    · exact absurd (List.mem_map.mpr ⟨_, h2, by rw [← h1]⟩) n1
    · exact absurd (List.mem_map.mpr ⟨_, h1, by rw [← h2]⟩) n1
    · exact pair_fst n2 h1 h2
theorem mem_toK {ps : List (Nat × Nat)} {i k : Nat} (nd : (ps.map (·.2)).Nodup) (h : (k, i) ∈ ps) : toK ps i = some k := by
  cases q : toK ps i with
  | some k' => rw [pair_snd nd h (toK_mem q)]
  | none =>
    unfold toK at q
    have : ps.find? (fun p => p.2 == i) = none := by
      cases z : ps.find? fun p => p.2 == i with
      | none => rfl
      | some p => rw [z] at q; cases q
    exact absurd (List.find?_eq_none.mp this _ h) (by simp)
theorem mem_toI {ps : List (Nat × Nat)} {i k : Nat} (nd : (ps.map (·.1)).Nodup) (h : (k, i) ∈ ps) : toI ps k = some i := by
  cases q : toI ps k with
  | some k' => rw [pair_fst nd h (toI_mem q)]
  | none =>
    unfold toI at q
    have : ps.find? (fun p => p.1 == k) = none := by
      cases z : ps.find? fun p => p.1 == k with
      | none => rfl
      | some p => rw [z] at q; cases q
    exact absurd (List.find?_eq_none.mp this _ h) (by simp)
/-- what is owned, as the callee sees it, and behind the call -/
def inW (ps : List (Nat × Nat)) (W : Own) : Own := fun a => match W a with
  | some ((i + 1) :: q) => (toK ps i).map fun k => (k + 1) :: q
  | _ => none
def outW (ps : List (Nat × Nat)) (W W' : Own) : Own := fun a => match W' a with
  | some (0 :: q) => some (0 :: q)
  | some ((k + 1) :: q) => (toI ps k).map fun i => (i + 1) :: q
  | some [] => none
  | none => match W a with
    | some ((i + 1) :: q) => if (toK ps i).isSome = true then none else some ((i + 1) :: q)
    | _ => none
theorem inW_some {ps : List (Nat × Nat)} {W : Own} {a : Addr} {p : List Nat} (h : inW ps W a = some p) : ∃ i k q, W a = some ((i + 1) :: q) ∧ toK ps i = some k ∧ p = (k + 1) :: q := by
  unfold inW at h
  split at h
  · rename_i i q hq
    cases z : toK ps i with
    | none => rw [z] at h; cases h
    | some k =>
      rw [z] at h
      exact ⟨i, k, q, hq, z, (Option.some.inj h).symm⟩
  · cases h
theorem inW_ne {ps : List (Nat × Nat)} {W : Own} {a : Addr} (h : inW ps W a ≠ none) : W a ≠ none := by
  cases q : inW ps W a with
  | none => exact absurd q h
  | some p =>
    obtain ⟨i, k, r, e, _⟩ := inW_some q
    rw [e]
    simp
theorem outW_cases {ps : List (Nat × Nat)} {W W' : Own} {a : Addr} {p : List Nat} (h : outW ps W W' a = some p) :
    (∃ q, W' a = some (0 :: q) ∧ p = 0 :: q) ∨ (∃ k i q, W' a = some ((k + 1) :: q) ∧ toI ps k = some i ∧ p = (i + 1) :: q) ∨ (∃ i q, W' a = none ∧ W a = some ((i + 1) :: q) ∧ toK ps i = none ∧ p = (i + 1) :: q) := by
  unfold outW at h
  split at h
  · rename_i q hq
    exact .inl ⟨q, hq, (Option.some.inj h).symm⟩
  · rename_i k q hq
    cases z : toI ps k with
    | none => rw [z] at h; cases h
    | some i =>
      rw [z] at h
      exact .inr (.inl ⟨k, i, q, hq, z, (Option.some.inj h).symm⟩)
  · cases h
  · rename_i hn
    split at h
    · rename_i i q hq
      cases z : toK ps i with
      | none =>
        rw [z] at h
        exact .inr (.inr ⟨i, q, hn, hq, z, (Option.some.inj h).symm⟩)
      | some k => rw [z] at h; cases h
    · cases h
section
variable {M : Mo} {e : Ent} {W : Own} {F H : Hp} {env : List D} {σ : L2.St} {as : List Ar} {vs : List V} {io : List Nat}
theorem Rel.enter (r : Rel M e W F H env σ) (ra : RaL M σ F as vs) {n : Nat} (ok : okIo n io as env = true) :
    RelB ⟨H, F, inW (ioOf 0 as) W, pinOf io vs⟩ (inW (ioOf 0 as) W) F H ∧ (∀ i d, (valsOf as env)[i]? = some d → d ≠ .unb ∧ ∃ v, vs[i]? = some v ∧ Ow M (inW (ioOf 0 as) W) F H [i + 1] d v) := by
  unfold okIo at ok
  rw [Bool.and_eq_true, Bool.and_eq_true, Bool.and_eq_true] at ok
  obtain ⟨_, ⟨o1, o2⟩, o3⟩ := ok
  have o1 := of_decide_eq_true o1
  have o2 := of_decide_eq_true o2
  refine ⟨⟨fun _ _ _ h => h, Ex.refl F, r.exF, fun a h => ?_, fun a c q h => ?_, fun _ h => .inl h, fun _ h => h, fun _ _ _ h => h, fun _ _ _ h _ => h, fun a h => r.nof a (inW_ne h)⟩, fun i d h => ?_⟩
  · have z := r.sep a (inW_ne h)
    exact ⟨z.1, .inl h, z.2.2⟩
  · obtain ⟨i, k, q', h1, h2, h3⟩ := inW_some h
    have h4 : c = k + 1 := by
      injection h3
    subst h4
    have hm := toK_mem h2
    obtain ⟨v, h6, h7, _⟩ := ral_io ra hm
    refine .inr ⟨k, v, q, rfl, ?_, h⟩
    show pinOf io vs k = some v
    unfold pinOf
    rw [if_pos (by rw [← o1]; exact List.mem_map.mpr ⟨_, hm, rfl⟩)]
    exact h6
  · unfold valsOf at h
    rw [List.getElem?_map] at h
    cases q : as[i]? with
    | none => rw [q] at h; cases h
    | some x =>
      rw [q] at h
      cases x with
      | v d' =>
        have h : d' = d := Option.some.inj h
        subst h
        obtain ⟨v, h1, h2⟩ := ral_v ra q
        refine ⟨fun z => ?_, v, h1, .fz h2⟩
        subst z
        cases h2
      | io n =>
        have h : env.getD n .unb = d := Option.some.inj h
        have hm := ioOf_mem (k := 0) q
        have ho : ownd (env.getD n .unb) = true := List.all_eq_true.mp o3 _ hm
        obtain ⟨h1, h2⟩ := ownd_some ho
        rw [h] at h1 h2
        obtain ⟨v, h3, h4⟩ := r.slot n d h1 h2
        obtain ⟨w, h5, h6, _⟩ := ral_io ra hm
        have : w = v := by
          rw [h3] at h6
          cases h6
          rfl
        subst this
        refine ⟨h2, w, by simpa using h5, h4.tr (Ex.refl F) fun a q z => ⟨?_, fun _ x => x⟩⟩
        have hk : toK (ioOf 0 as) n = some i := by
          have := mem_toK o2 hm
          simpa using this
        unfold inW
        rw [z]
        show (toK (ioOf 0 as) n).map _ = _
        rw [hk]
        rfl
theorem wback_get : ∀ {is : List Nat} {ds env : List D} {i : Nat} {d : D}, is.Nodup → (wback is ds env)[i]? = some d → (i ∉ is ∧ env[i]? = some d) ∨ (∃ t : Nat, is[t]? = some i ∧ (ds[t]? = some d ∨ (ds[t]? = none ∧ env[i]? = some d)))
  | [], _, _, _, _, _, h => by
    unfold wback at h
    exact .inl ⟨by simp, h⟩
  | i0 :: is, [], env, i, d, nd, h => by
    unfold wback at h
    by_cases hi : i ∈ i0 :: is
    · obtain ⟨t, ht⟩ := List.mem_iff_getElem?.mp hi
      exact .inr ⟨t, ht, .inr ⟨rfl, h⟩⟩
    · exact .inl ⟨hi, h⟩
  | i0 :: is, d0 :: ds, env, i, d, nd, h => by
    unfold wback at h
    obtain ⟨n1, n2⟩ := List.nodup_cons.mp nd
    rcases wback_get n2 h with ⟨h1, h2⟩ | ⟨t, h1, h2⟩
    · by_cases z : i0 = i
      · subst z
        have hlt : i0 < env.length := by
          have := (List.getElem?_eq_some_iff.mp h2).1
          rwa [List.length_set] at this
        rw [List.getElem?_set_self hlt] at h2
        exact .inr ⟨0, rfl, .inl (by simpa using h2)⟩
      · rw [List.getElem?_set_ne z] at h2
        exact .inl ⟨by simp only [List.mem_cons, not_or]; exact ⟨fun y => z y.symm, h1⟩, h2⟩
    · refine .inr ⟨t + 1, by rw [List.getElem?_cons_succ]; exact h1, ?_⟩
      rw [List.getElem?_cons_succ]
      rcases h2 with h2 | ⟨h2, h3⟩
      · exact .inl h2
      · have z : i0 ≠ i := fun y => by
          subst y
          exact n1 (List.mem_of_getElem? h1)
        rw [List.getElem?_set_ne z] at h3
        exact .inr ⟨h2, h3⟩
theorem wback_len : ∀ {is : List Nat} {ds env : List D}, (wback is ds env).length = env.length
  | [], _, _ => by unfold wback; rfl
  | _ :: _, [], _ => by unfold wback; rfl
  | i :: is, d :: ds, env => by
    unfold wback
    rw [wback_len, List.length_set]
theorem Rel.leave {W' : Own} {F' H' : Hp} {outs : List D} (r : Rel M e W F H env σ) (ra : RaL M σ F as vs) {n : Nat} (ok : okIo n io as env = true) (hl : outs.length = io.length) (rb : RelB ⟨H, F, inW (ioOf 0 as) W, pinOf io vs⟩ W' F' H') (oo : outsOk M W' F' H' io outs vs) :
    Rel M e (outW (ioOf 0 as) W W') F' H' (wback ((ioOf 0 as).map (·.2)) outs env) σ ∧ ∀ d v, Ow M W' F' H' [0] d v → Ow M (outW (ioOf 0 as) W W') F' H' [0] d v := by
  unfold okIo at ok
  rw [Bool.and_eq_true, Bool.and_eq_true, Bool.and_eq_true] at ok
  obtain ⟨_, ⟨o1, o2⟩, o3⟩ := ok
  have o1 := of_decide_eq_true o1
  have o2 := of_decide_eq_true o2
  have n1 := ioOf_fst (as := as) (k := 0)
  have stay : ∀ b, H b ≠ none → H' b ≠ none := rb.stay
  have key : ∀ a i q, W a = some ((i + 1) :: q) → toK (ioOf 0 as) i = none → W' a = none ∧ inW (ioOf 0 as) W a = none := fun a i q h1 h2 => by
    have h3 : inW (ioOf 0 as) W a = none := by
      unfold inW
      rw [h1]
      show (toK (ioOf 0 as) i).map _ = none
      rw [h2]
      rfl
    refine ⟨?_, h3⟩
    cases z : W' a with
    | none => rfl
    | some p =>
      rcases (rb.sep a (by rw [z]; simp)).2.1 with y | y
      · exact absurd h3 y
      · exact absurd y (r.sep a (by rw [h1]; simp)).2.2
  refine ⟨⟨⟨fun b o h1 h2 => ?_, r.exF0.trans rb.exF0, rb.exF, fun a h => ?_, fun a c q h => ?_, fun b h => ?_, fun b h => stay b (r.stay b h), fun b o hf h => rb.tups b o hf (r.tups b o hf h), fun b o hf h z => r.tupr b o hf (rb.tupr b o hf h (r.stay b z)) z, fun a h => ?_⟩, by rw [wback_len]; exact r.len, fun i d h1 h2 => ?_, r.pin⟩, fun d v h => ?_⟩
  · refine rb.pres b o ?_ (r.pres b o h1 h2)
    show inW (ioOf 0 as) W b = none
    cases z : inW (ioOf 0 as) W b with
    | none => rfl
    | some p =>
      have hw := inW_ne (ps := ioOf 0 as) (W := W) (a := b) (by rw [z]; simp)
      rcases (r.sep b hw).2.1 with y | y
      · exact absurd h1 y
      · rw [y] at h2
        cases h2
  · cases z : outW (ioOf 0 as) W W' a with
    | none => exact absurd z h
    | some p =>
      rcases outW_cases z with ⟨q, h1, _⟩ | ⟨k, i, q, h1, h2, _⟩ | ⟨i, q, h1, h2, h3, _⟩
      · have y := rb.sep a (by rw [h1]; simp)
        refine ⟨y.1, ?_, y.2.2⟩
        rcases y.2.1 with x | x
        · exact (r.sep a (inW_ne x)).2.1
        · refine .inr ?_
          cases w : e.H0 a with
          | none => rfl
          | some o => exact absurd x (r.stay a (by rw [w]; simp))
      · have y := rb.sep a (by rw [h1]; simp)
        refine ⟨y.1, ?_, y.2.2⟩
        rcases y.2.1 with x | x
        · exact (r.sep a (inW_ne x)).2.1
        · refine .inr ?_
          cases w : e.H0 a with
          | none => rfl
          | some o => exact absurd x (r.stay a (by rw [w]; simp))
      · have y := r.sep a (by rw [h2]; simp)
        refine ⟨?_, y.2.1, stay a y.2.2⟩
        cases w : F' a with
        | none => rfl
        | some o =>
          rcases rb.new a (by rw [w]; simp) with x | x | x
          · exact absurd y.1 x
          · exact absurd x y.2.2
          · exact absurd x (r.nof a (by rw [h2]; simp))
  · rcases outW_cases h with ⟨q', h1, h2⟩ | ⟨k, i, q', h1, h2, h3⟩ | ⟨i, q', h1, h2, h3, h4⟩
    · injection h2 with h2 _
      rcases rb.fresh a 0 q' h1 with x | ⟨n, v, q0, hn, _⟩
      · refine .inl ?_
        cases w : e.H0 a with
        | none => rfl
        | some o => exact absurd x (r.stay a (by rw [w]; simp))
      · omega
    · injection h3 with h3 _
      rcases rb.fresh a (k + 1) q' h1 with x | ⟨n, v, q0, hn, hv, hw⟩
      · refine .inl ?_
        cases w : e.H0 a with
        | none => rfl
        | some o => exact absurd x (r.stay a (by rw [w]; simp))
      · obtain ⟨i2, k2, q2, e1, e2, e3⟩ := inW_some hw
        have ek : k2 = k := by
          injection e3 with e3 _
          omega
        subst ek
        have ei : i2 = i := pair_fst n1 (toK_mem e2) (toI_mem h2)
        subst ei
        rw [h3]
        exact r.fresh a (i2 + 1) q2 e1
    · injection h4 with h4 _
      rw [h4]
      exact r.fresh a (i + 1) q' h2
  · rcases rb.new b h with x | x | ⟨o, x, hf⟩
    · exact r.new b x
    · refine .inr (.inl ?_)
      cases w : e.H0 b with
      | none => rfl
      | some o => exact absurd x (r.stay b (by rw [w]; simp))
    · cases w : e.H0 b with
      | none => exact .inr (.inl rfl)
      | some u => exact .inr (.inr ⟨o, r.tupr b o hf x (by rw [w]; simp), hf⟩)
  · cases z : outW (ioOf 0 as) W W' a with
    | none => exact absurd z h
    | some p =>
      rcases outW_cases z with ⟨q, h1, _⟩ | ⟨k, i, q, h1, h2, _⟩ | ⟨i, q, h1, h2, h3, _⟩
      · exact rb.nof a (by rw [h1]; simp)
      · exact rb.nof a (by rw [h1]; simp)
      · rintro ⟨o, x, hf⟩
        have y := r.sep a (by rw [h2]; simp)
        cases w : H a with
        | none => exact y.2.2 w
        | some u => exact r.nof a (by rw [h2]; simp) ⟨o, rb.tupr a o hf x y.2.2, hf⟩
  · rcases wback_get o2 h1 with ⟨h3, h4⟩ | ⟨t, h3, h4⟩
    · obtain ⟨v, h5, h6⟩ := r.slot i d h4 h2
      have hk : toK (ioOf 0 as) i = none := by
        cases z : toK (ioOf 0 as) i with
        | none => rfl
        | some k => exact absurd (List.mem_map.mpr ⟨_, toK_mem z, rfl⟩) h3
      refine ⟨v, h5, h6.tr (show Ex F F' from rb.exF0) fun a q z => ?_⟩
      obtain ⟨z1, z2⟩ := key a i q z hk
      refine ⟨?_, fun o x => rb.pres a o z2 x⟩
      unfold outW
      rw [z1, z]
      show (if (toK (ioOf 0 as) i).isSome = true then none else some ((i + 1) :: q)) = _
      rw [hk]
      rfl
    · -- a slot that was handed in
      have hp : ∃ k, (ioOf 0 as)[t]? = some (k, i) := by
        rw [List.getElem?_map] at h3
        cases z : (ioOf 0 as)[t]? with
        | none => rw [z] at h3; cases h3
        | some p =>
          rw [z] at h3
          have h3 : p.2 = i := Option.some.inj h3
          exact ⟨p.1, by rw [← h3]⟩
      obtain ⟨k, hp⟩ := hp
      have hm : (k, i) ∈ ioOf 0 as := List.mem_of_getElem? hp
      have hio : io[t]? = some k := by
        rw [← o1, List.getElem?_map, hp]
        rfl
      rcases h4 with h4 | ⟨h4, _⟩
      · obtain ⟨v, h5, h6⟩ := oo t k d hio h4 h2
        obtain ⟨w, h7, h8, _⟩ := ral_io ra hm
        have h7 : vs[k]? = some w := h7
        rw [h5] at h7
        cases h7
        refine ⟨v, h8, h6.tr (Ex.refl F') fun a q z => ⟨?_, fun _ x => x⟩⟩
        unfold outW
        rw [z]
        show (toI (ioOf 0 as) k).map _ = _
        rw [mem_toI n1 hm]
        rfl
      · exfalso
        have h9 : t < io.length := (List.getElem?_eq_some_iff.mp hio).1
        rw [← hl] at h9
        rw [List.getElem?_eq_getElem h9] at h4
        cases h4
  · refine h.tr (Ex.refl F') fun a q z => ⟨?_, fun _ x => x⟩
    unfold outW
    rw [z]
    rfl
end
end DL
namespace DL
open PySem PySem.Spec PyProof.Rows L2
def OutLen (io : List Nat) (f : List D → FR) : Prop := ∀ ds, (∀ d outs, f ds = .ret d outs → outs.length = io.length) ∧ (∀ c fs outs, f ds = .exc c fs outs → outs.length = io.length)
theorem outLen_run {N : Nat} {io : List Nat} {den : List D → O} : OutLen io (runD N io den) := fun ds => by
  have z : ∀ env, (outsD io env).length = io.length := fun env => by
    unfold outsD
    rw [List.length_map]
  constructor
  · intro d outs h
    unfold runD at h
    split at h <;> first | (injection h with h1 h2; rw [← h2]; exact z _) | cases h
  · intro c fs outs h
    unfold runD at h
    split at h <;> first | (injection h with h1 h2 h3; rw [← h3]; exact z _) | cases h
section
variable {X : Cx} {j : J} {k n : Nat} {f : Addr} {fd : FuncData} {ps : List Str} {io : List Nat} {g : List D → FR} {x : Str} {p pos : Pos} {e : Expr} {es : List Expr} {da : List D → R (List Ar)}
/-- what a call comes to -/
theorem call_at {σ : L2.St} {W : Own} {F H : Hp} {env : List D} {as : List Ar} {vs : List V} {Q : VK} (lo : OutLen io g) (rel : Rel (mo X) j.e W F H env σ) (ra : RaL (mo X) σ F as vs)
    (q : AtO (mo X) j F σ (if okIo n io as env = true then match g (valsOf as env) with
      | .ret d outs => .ok d (wback ((ioOf 0 as).map (·.2)) outs env)
      | .exc c fs outs => .ex c fs (wback ((ioOf 0 as).map (·.2)) outs env)
      | .bad => .bad
    else .bad) Q) : spD (mo X) n io g vs H Q (WE j.wx σ) := by
  by_cases ok : okIo n io as env = true
  · rw [if_pos ok] at q
    obtain ⟨rb, sl⟩ := rel.enter ra ok
    have hv : vs.length = n := by
      unfold okIo at ok
      rw [Bool.and_eq_true] at ok
      rw [← ral_len ra]
      exact of_decide_eq_true ok.1
    refine ⟨inW (ioOf 0 as) W, F, valsOf as env, hv, ?_, rb, sl, ?_⟩
    · unfold valsOf
      rw [List.length_map, ral_len ra]
      exact hv
    · obtain ⟨l1, l2⟩ := lo (valsOf as env)
      cases o : g (valsOf as env) with
      | ret d outs =>
        rw [o] at q
        intro W' F' H' v rb' p oo
        obtain ⟨r2, h2⟩ := rel.leave ra ok (l1 d outs o) rb' oo
        exact q _ F' H' v r2 rb'.exF0 (h2 d v p)
      | exc c fs outs =>
        rw [o] at q
        intro W' F' H' cls dd rb' p oo
        obtain ⟨r2, h2⟩ := rel.leave ra ok (l2 c fs outs o) rb' oo
        exact q _ F' H' cls dd r2 rb'.exF0 p
      | bad =>
        rw [o] at q
        exact q
  · rw [if_neg ok] at q
    exact q.elim
theorem AtO.mono {M : Mo} {j : J} {F F1 : Hp} {σ : L2.St} {r : R D} {Q : VK} (h : AtO M j F σ r Q) (x : Ex F F1) : AtO M j F1 σ r Q := by
  cases r with
  | ok d env' => exact fun W' F' H' v a b c => h W' F' H' v a (x.trans b) c
  | ex c fs env' => exact fun W' F' H' cls dd a b c => h W' F' H' cls dd a (x.trans b) c
  | bad => exact h
theorem AtO.bind {α β : Type} {M : Mo} {j : J} {rep : Hp → α → β → Prop} {F : Hp} {σ : L2.St} {r : R α} {f : α → List D → R D} {Q : VK} {P : β → Hp → Prop} (h : AtO M j F σ (bindR r f) Q)
    (k : ∀ d env1 W1 F1 H1 v, r = .ok d env1 → Rel M j.e W1 F1 H1 env1 σ → Ex F F1 → rep F1 d v → AtO M j F1 σ (f d env1) Q → P v H1) : At M j.e j.wx rep F σ r P := by
  cases r with
  | ok d env' => exact fun W' F' H' v a b c => k d env' W' F' H' v rfl a b c (h.mono b)
  | ex c fs env' => exact h
  | bad => exact h
theorem o_call (F : FnOk X.prog X.w X.K X.mg X.base (L2.CX X.prog X.w) k f fd ps (spD (mo X) n io g)) (hr : Room k X.A) (hm : X.mg x = some (.ref f)) (hk : PySem.W.keepIn X.K (.ref f) = true) (hb : Binds X.K fd ps []) (tk : Takes X j.wx) (lo : OutLen io g) (ha : DAr X j (e :: es) da)
    (hg : Gl X x := by rfl) (hdb : (x == ("__debug__" : Str)) = false := by decide) (he : starEach (e :: es) X.env = (false, eval e X.env) :: starEach es X.env := by rfl) (hpl : (backTo pos (starEach es X.env)).any (·.1) = false := by rfl) :
    DO X j (.Call (.Name x p) (e :: es) [] pos) (callO n io g da) :=
  PE.mono (pe_callS F hr hg hm hk hb (fun σ => passAt tk σ) ha hdb he hpl) fun σ H Q ⟨W, F', env, rel, q⟩ => ⟨W, F', env, rel, AtO.bind q fun as env1 W1 F1 H1 vs o r1 x1 p1 q1 =>
    call_at lo r1 p1 q1⟩
end
section
variable (dc : List D → R Bool) (db : List D → O)
def whN : Nat → List D → Option O
  | 0, _ => none
  | n + 1, env => match dc env with
    | .ok true env1 => match db env1 with
      | .nx env2 => whN n env2
      | .ct env2 => whN n env2
      | .bk env2 => some (.nx env2)
      | .rt d env2 => some (.rt d env2)
      | .ex c fs env2 => some (.ex c fs env2)
      | .bad => some .bad
    | .ok false env1 => some (.nx env1)
    | .ex c fs env1 => some (.ex c fs env1)
    | .bad => some .bad
open Classical in
/-- while, where it ends -/
noncomputable def whileD : List D → O := fun env => if h : ∃ n o, whN dc db n env = some o then Classical.choose (Classical.choose_spec h) else .bad
end
theorem whN_mono {dc : List D → R Bool} {db : List D → O} : ∀ {n m : Nat} {env : List D} {o : O}, whN dc db n env = some o → n ≤ m → whN dc db m env = some o
  | 0, _, _, _, h, _ => by cases h
  | n + 1, 0, _, _, _, h => by omega
  | n + 1, m + 1, env, o, h, hm => by
    unfold whN at h ⊢
    cases q : dc env with
    | ok b env1 =>
      rw [q] at h
      cases b with
      | true =>
        simp only at h ⊢
        cases q2 : db env1 with
        | nx env2 =>
          rw [q2] at h
          exact whN_mono h (by omega)
        | ct env2 =>
          rw [q2] at h
          exact whN_mono h (by omega)
        | bk env2 => rw [q2] at h; exact h
        | rt d env2 => rw [q2] at h; exact h
        | ex c fs env2 => rw [q2] at h; exact h
        | bad => rw [q2] at h; exact h
      | false => exact h
    | ex c fs env1 => rw [q] at h; exact h
    | bad => rw [q] at h; exact h
theorem whileD_of {dc : List D → R Bool} {db : List D → O} {n : Nat} {env : List D} {o : O} (h : whN dc db n env = some o) : whileD dc db env = o := by
  unfold whileD
  have hx : ∃ n o, whN dc db n env = some o := ⟨n, o, h⟩
  rw [dif_pos hx]
  have h2 := Classical.choose_spec (Classical.choose_spec hx)
  generalize Classical.choose (Classical.choose_spec hx) = r at h2 ⊢
  rcases Nat.le_total n (Classical.choose hx) with l | l
  · rw [whN_mono h l] at h2
    exact (Option.some.inj h2).symm
  · rw [whN_mono h2 l] at h
    exact Option.some.inj h
theorem whileD_has {dc : List D → R Bool} {db : List D → O} {env : List D} (h : whileD dc db env ≠ .bad) : ∃ n, whN dc db n env = some (whileD dc db env) := by
  by_cases hx : ∃ n o, whN dc db n env = some o
  · obtain ⟨n, o, e⟩ := hx
    exact ⟨n, by rw [whileD_of e]; exact e⟩
  · unfold whileD at h
    rw [dif_neg hx] at h
    exact absurd rfl h
theorem whileD_stop {dc : List D → R Bool} {db : List D → O} {env env1 : List D} (h : dc env = .ok false env1) : whileD dc db env = .nx env1 := whileD_of (n := 1) (by unfold whN; rw [h])
theorem whileD_turn {dc : List D → R Bool} {db : List D → O} {env env1 env2 : List D} (h : dc env = .ok true env1) (h2 : db env1 = .nx env2) : whileD dc db env = whileD dc db env2 := by
  by_cases hx : ∃ n o, whN dc db n env2 = some o
  · obtain ⟨n, o, e⟩ := hx
    rw [whileD_of e]
    exact whileD_of (n := n + 1) (by unfold whN; rw [h]; simp only; rw [h2]; exact e)
  · have hy : ¬ ∃ n o, whN dc db n env = some o := fun ⟨n, o, e⟩ => by
      cases n with
      | zero => cases e
      | succ n =>
        unfold whN at e
        rw [h] at e
        simp only at e
        rw [h2] at e
        exact hx ⟨n, o, e⟩
    unfold whileD
    rw [dif_neg hx, dif_neg hy]
theorem s_while {X : Cx} {j : J} {c : Expr} {body : List Stmt} {pos : Pos} {dc : List D → R Bool} {db : List D → O} (hp : PassesOwn (model X.prog X.w) X.A X.env X.xe) (hc : DT X j c dc) (hb : DSs X j body db) : DS X j (.While c body [] pos) (whileD dc db) :=
  PS.mono (ps_while hp hc hb) fun Dn σ H ⟨W, F, env, rel, q⟩ => by
    have ne : whileD dc db env ≠ .bad := fun z => by
      rw [z] at q
      exact q
    obtain ⟨n, hn⟩ := whileD_has ne
    refine ⟨fun m σ H => ∃ W1 F1 env1 o, Rel (mo X) j.e W1 F1 H env1 σ ∧ whN dc db m env1 = some o ∧ AtS (mo X) j F1 o Dn, ⟨n, W, F, env, _, rel, hn, q⟩, fun m σ H hw => ?_⟩
    obtain ⟨W1, F1, env1, o, r1, e1, q1⟩ := hw
    cases m with
    | zero => cases e1
    | succ m =>
      refine ⟨W1, F1, env1, r1, ?_⟩
      unfold whN at e1
      cases z : dc env1 with
      | ok b env2 =>
        rw [z] at e1
        intro W2 F2 H2 v r2 x2 hb2
        subst hb2
        cases b with
        | false =>
          simp only at e1
          cases e1
          exact q1 W2 F2 H2 σ r2 x2
        | true =>
          simp only at e1
          refine ⟨fun σ' H' => ∃ W3 F3 env3, Rel (mo X) j.e W3 F3 H' env3 σ' ∧ Ex F2 F3 ∧ whN dc db m env3 = some o, fun σ' H' ⟨W3, F3, env3, r3, x3, e3⟩ => ⟨m, Nat.lt_succ_self m, W3, F3, env3, o, r3, e3, q1.mono (x2.trans x3)⟩, W2, F2, env2, r2, ?_⟩
          cases y : db env2 with
          | nx env3 =>
            rw [y] at e1
            exact fun W3 F3 H3 σ3 r3 x3 => ⟨W3, F3, env3, r3, x3, e1⟩
          | ct env3 =>
            rw [y] at e1
            exact fun W3 F3 H3 σ3 r3 x3 => ⟨W3, F3, env3, r3, x3, e1⟩
          | bk env3 =>
            rw [y] at e1
            cases e1
            exact fun W3 F3 H3 σ3 r3 x3 => q1 W3 F3 H3 σ3 r3 (x2.trans x3)
          | rt d env3 =>
            rw [y] at e1
            cases e1
            exact fun W3 F3 H3 σ3 v r3 p3 => q1 W3 F3 H3 σ3 v r3 p3
          | ex c fs env3 =>
            rw [y] at e1
            cases e1
            exact fun W3 F3 H3 σ3 cls dd r3 x3 p3 => q1 W3 F3 H3 σ3 cls dd r3 (x2.trans x3) p3
          | bad =>
            rw [y] at e1
            cases e1
            exact q1.elim
      | ex c fs env2 =>
        rw [z] at e1
        cases e1
        exact fun W2 F2 H2 cls dd r2 x2 p2 => q1 W2 F2 H2 σ cls dd r2 x2 p2
      | bad =>
        rw [z] at e1
        cases e1
        exact q1.elim
def tG (M : Mo) (j : J) (g : D → List D → Option (List D)) : TG := fun v σ H Q => ∃ W F env d, Rel M j.e W F H env σ ∧ Rp M F d v ∧ ∃ env', g d env = some env' ∧ ∀ W' F' H' σ', Rel M j.e W' F' H' env' σ' → Ex F F' → Q σ' H'
abbrev DG (X : Cx) (j : J) (tg : Expr) (g : D → List D → Option (List D)) : Prop := PG X tg (tG (mo X) j g)
def tGs (M : Mo) (j : J) (g : List D → List D → Option (List D)) : TGs := fun vs σ H Q => ∃ W F env ds, Rel M j.e W F H env σ ∧ RpL M F ds vs ∧ ∃ env', g ds env = some env' ∧ ∀ W' F' H' σ', Rel M j.e W' F' H' env' σ' → Ex F F' → Q σ' H'
abbrev DGs (X : Cx) (j : J) (ts : List Expr) (g : List D → List D → Option (List D)) : Prop := PGs X ts (tGs (mo X) j g)
def gnD (i : Nat) : D → List D → Option (List D) := fun d env => some (env.set i d)
def gNilD : List D → List D → Option (List D) := fun ds env => match ds with
  | [] => some env
  | _ => none
def gConsD (g : D → List D → Option (List D)) (h : List D → List D → Option (List D)) : List D → List D → Option (List D) := fun ds env => match ds with
  | d :: r => match g d env with
    | some env1 => h r env1
    | none => none
  | [] => none
def gTupD (g : List D → List D → Option (List D)) : D → List D → Option (List D) := fun d env => match d with
  | .tup l => g l env
  | _ => none
theorem PG.mono {X : Cx} {tg : Expr} {t t' : TG} (h : PG X tg t) (k : ∀ v σ H Q, t' v σ H Q → t v σ H Q) : PG X tg t' := ⟨fun pins s σ H v u Q I r q => h.run pins s σ H v u Q I r (k v σ H Q q)⟩
theorem PGs.mono {X : Cx} {tg : List Expr} {t t' : TGs} (h : PGs X tg t) (k : ∀ v σ H Q, t' v σ H Q → t v σ H Q) : PGs X tg t' := ⟨fun pins s σ H v u Q I r q => h.run pins s σ H v u Q I r (k v σ H Q q)⟩
section
variable {X : Cx} {j : J} {e tg : Expr} {es : List Expr} {pos : Pos} {g : D → List D → Option (List D)} {h : List D → List D → Option (List D)}
theorem g_name (i : Nat) {x : Str} (hN : X.N.Nodup) (hp : j.e.P i = none) (hi : X.N[i]? = some x := by rfl) (hx : Loc X.env.scope x := by first | exact Or.inl rfl | exact Or.inr rfl) (hf : X.fn x = true ∨ X.env.scope.names.lookup x = some .local := by first | exact .inl rfl | exact .inr rfl) : DG X j (.Name x pos) (gnD i) :=
  PG.mono (pg_name hN hi hx hf) fun v σ H Q ⟨W, F, env, d, r, p, env', e, q⟩ => by
    have e : env.set i d = env' := Option.some.inj e
    exact q W F H _ (by rw [← e]; exact r.set p hp) (Ex.refl F)
theorem gs_nil : DGs X j [] gNilD := PGs.mono pgs_nil fun vs σ H Q ⟨W, F, env, ds, r, p, env', e, q⟩ => by
  cases p with
  | nil =>
    have e : env = env' := Option.some.inj e
    exact ⟨rfl, q W F H σ (by rw [← e]; exact r) (Ex.refl F)⟩
  | cons _ _ => cases e
theorem gs_cons {g : D → List D → Option (List D)} (hg : DG X j e g) (hh : DGs X j es h) (hs : (assignEach (e :: es) X.env).map (·.2) = assign e X.env :: (assignEach es X.env).map (·.2) := by rfl) : DGs X j (e :: es) (gConsD g h) :=
  PGs.mono (pgs_cons hg hh hs) fun vs σ H Q ⟨W, F, env, ds, r, p, env', e, q⟩ => by
    cases p with
    | nil => cases e
    | @cons d l v xs p1 p2 =>
      unfold gConsD at e
      simp only at e
      cases o : g d env with
      | none => rw [o] at e; cases e
      | some env1 =>
        rw [o] at e
        exact ⟨v, xs, rfl, W, F, env, d, r, p1, env1, o, fun W' F' H' σ' r' x' => ⟨W', F', env1, l, r', p2.mono x', env', e, fun W2 F2 H2 σ2 r2 x2 => q W2 F2 H2 σ2 r2 (x'.trans x2)⟩⟩
theorem g_tup {k n : Nat} (hc : X.calm = true) (hh : DGs X j es h) (hlen : ∀ ds env env', h ds env = some env' → ds.length = n) (hn : (assignEach es X.env).length = n := by rfl) (hst : (assignEach es X.env).findIdx? (·.1) = none := by rfl) : DG X j (.Tuple es k pos) (gTupD h) :=
  PG.mono (pg_tup hc hh hn hst) fun v σ H Q ⟨W, F, env, d, r, p, env', e, q⟩ => by
    cases p with
    | tup h1 h2 =>
      exact ⟨_, _, rfl, SqT.of (r.exF _ _ h1), by rw [← h2.length]; exact hlen _ _ _ e, W, F, env, _, r, h2, env', e, q⟩
    | _ => cases e
theorem gConsD_len {g : D → List D → Option (List D)} {h : List D → List D → Option (List D)} {ds env env' : List D} {n : Nat} (hlen : ∀ ds env env', h ds env = some env' → ds.length = n) (e : gConsD g h ds env = some env') : ds.length = n + 1 := by
  unfold gConsD at e
  cases ds with
  | nil => cases e
  | cons d r =>
    simp only at e
    cases o : g d env with
    | none => rw [o] at e; cases e
    | some env1 =>
      rw [o] at e
      rw [List.length_cons, hlen _ _ _ e]
theorem gNilD_len {ds env env' : List D} (e : gNilD ds env = some env') : ds.length = 0 := by
  unfold gNilD at e
  cases ds with
  | nil => rfl
  | cons d r => cases e
end
/-- what is walked: the items -/
def ItOk (M : Mo) (Ji : It) (F : Hp) (ds : List D) : Prop := ∀ i F1 H, Ex F F1 → Ex F1 H →
  (i < ds.length → Ji.go i H ∧ ∀ x H', Ji.yld i H x H' → ∃ F2 d, ds[i]? = some d ∧ Grow F1 H F2 H' ∧ Rp M F2 d x) ∧ (ds.length = i → Ji.stop i H)
def tI (M : Mo) (j : J) (di : List D → R (List D)) : TI := fun σ H Rr => ∃ W F env, Rel M j.e W F H env σ ∧ At M j.e j.wx (fun F ds J => ItOk M J F ds) F σ (di env) Rr
abbrev DI (X : Cx) (j : J) (tg iter : Expr) (di : List D → R (List D)) : Prop := PI X tg iter (tI (mo X) j di)
def forGo (g : D → List D → Option (List D)) (db : List D → O) : List D → List D → O
  | [], env => .nx env
  | d :: ds, env => match g d env with
    | none => .bad
    | some env1 => match db env1 with
      | .nx e => forGo g db ds e
      | .ct e => forGo g db ds e
      | .bk e => .nx e
      | .rt d e => .rt d e
      | .ex c fs e => .ex c fs e
      | .bad => .bad
def forD (di : List D → R (List D)) (g : D → List D → Option (List D)) (db : List D → O) : List D → O := fun env => bindS (di env) fun ds env1 => forGo g db ds env1
theorem s_for {X : Cx} {j : J} {tg iter : Expr} {body : List Stmt} {pos : Pos} {di : List D → R (List D)} {g : D → List D → Option (List D)} {db : List D → O} (hp : PassesOwn (model X.prog X.w) X.A X.env X.xe) (hc : X.calm = true)
    (hi : DI X j tg iter di) (hg : DG X j tg g) (hb : DSs X j body db) (hs : ∀ x, foldedSetIterable iter X.env x = pure x := by intro _; rfl) : DS X j (.For tg iter body [] pos) (forD di g db) :=
  PS.mono (ps_for hp hc hi hg hb hs) fun Dn σ H ⟨W, F, env, rel, q⟩ => ⟨W, F, env, rel, AtS.bind q fun ds env1 W1 F1 H1 Ji _ r1 x1 p1 q1 => by
    refine ⟨fun i m σ H => m = ds.length - i ∧ i ≤ ds.length ∧ ∃ W2 F2 env2, Rel (mo X) j.e W2 F2 H env2 σ ∧ Ex F1 F2 ∧ AtS (mo X) j F2 (forGo g db (ds.drop i) env2) Dn, ⟨_, rfl, Nat.zero_le _, W1, F1, env1, r1, Ex.refl F1, q1⟩, fun i m σ H hw => ?_⟩
    obtain ⟨rfl, hi, W2, F2, env2, r2, x2, q2⟩ := hw
    by_cases hlt : i < ds.length
    · obtain ⟨go, yl⟩ := (p1 i F2 H x2 r2.exF).1 hlt
      rw [List.drop_eq_getElem_cons hlt] at q2
      unfold forGo at q2
      cases o : g ds[i] env2 with
      | none => rw [o] at q2; exact q2.elim
      | some env3 =>
        rw [o] at q2
        simp only at q2
        refine .inr ⟨go, fun σ' H' => ∃ W4 F4 env4, Rel (mo X) j.e W4 F4 H' env4 σ' ∧ Ex F1 F4 ∧ AtS (mo X) j F4 (forGo g db (ds.drop (i + 1)) env4) Dn, fun σ' H' ⟨W4, F4, env4, r4, x4, q4⟩ => ⟨ds.length - (i + 1), by omega, rfl, hlt, W4, F4, env4, r4, x4, q4⟩, fun x H' hy => ?_⟩
        obtain ⟨F3, d, e1, gr, rp⟩ := yl x H' hy
        have e2 : ds[i] = d := by
          rw [List.getElem?_eq_getElem hlt] at e1
          exact Option.some.inj e1
        refine ⟨W2, F3, env2, d, r2.grow gr, rp, env3, by rw [← e2]; exact o, fun W4 F4 H4 σ4 r4 x4 => ⟨W4, F4, env3, r4, ?_⟩⟩
        have x5 : Ex F2 F4 := gr.exF.trans x4
        cases y : db env3 with
        | nx env5 =>
          rw [y] at q2
          exact fun W5 F5 H5 σ5 r5 x6 => ⟨W5, F5, env5, r5, x2.trans (x5.trans x6), q2.mono (x5.trans x6)⟩
        | ct env5 =>
          rw [y] at q2
          exact fun W5 F5 H5 σ5 r5 x6 => ⟨W5, F5, env5, r5, x2.trans (x5.trans x6), q2.mono (x5.trans x6)⟩
        | bk env5 =>
          rw [y] at q2
          exact fun W5 F5 H5 σ5 r5 x6 => q2 W5 F5 H5 σ5 r5 (x5.trans x6)
        | rt d env5 =>
          rw [y] at q2
          exact q2
        | ex c fs env5 =>
          rw [y] at q2
          exact q2.mono x5
        | bad =>
          rw [y] at q2
          exact q2.elim
    · refine .inl ⟨(p1 i F2 H x2 r2.exF).2 (by omega), ?_⟩
      rw [List.drop_eq_nil_of_le (by omega)] at q2
      exact q2 W2 F2 H σ r2 (Ex.refl F2)⟩
section
variable {X : Cx} {j : J} {tg l : Expr} {da : List D → R D}
theorem itl_ok {M : Mo} {F : Hp} {a : Addr} {xs : List V} {ds : List D} (h : SqL M.K F a xs) (p : RpL M F ds xs) : ItOk M (Itl M.K a) F ds := fun i F1 H x1 x2 => by
  have hl := p.length
  have hS := ex_l x2 (ex_l x1 h)
  refine ⟨fun hi => ?_, fun hi => ⟨xs, hS, by omega⟩⟩
  have h1 : i < xs.length := by omega
  refine ⟨⟨xs, xs[i], hS, List.getElem?_eq_getElem h1⟩, fun x H' ⟨e, y⟩ => ?_⟩
  obtain ⟨v, h2, h3⟩ := p.get (List.getElem?_eq_getElem hi)
  have h4 := y xs hS
  rw [h2] at h4
  cases h4
  exact ⟨F1, ds[i], List.getElem?_eq_getElem hi, by rw [e]; exact Grow.refl x2, h3.mono x1⟩
end
end DL
namespace DL
open PySem PySem.Spec PyProof.Rows L2
section
variable {X : Cx} {j : J} {a b e tg : Expr} {pos pos' : Pos} {da db : List D → R D} {g : D → List D → Option (List D)}
end
/-- the list that an owned slot holds -/
def listAt (env : List D) (i : Nat) : Option (List D) := match env.getD i .unb with
  | .ml l => some l
  | _ => none
theorem listAt_some {env : List D} {i : Nat} {l : List D} (h : listAt env i = some l) : env[i]? = some (.ml l) := by
  unfold listAt at h
  split at h
  · rename_i l' hl
    cases h
    rw [List.getD_eq_getElem?_getD] at hl
    cases q : env[i]? with
    | none => rw [q] at hl; cases hl
    | some d => rw [q] at hl; exact congrArg some hl
  · cases h
theorem Rel.list {M : Mo} {e : Ent} {W : Own} {F H : Hp} {env : List D} {σ : L2.St} {i : Nat} {l : List D} (r : Rel M e W F H env σ) (h : listAt env i = some l) :
    ∃ a xs, σ[i]? = some (some (.ref a)) ∧ W a = some [i + 1] ∧ H a = some (.lst xs) ∧ OwL M W F H [i + 1] 0 l xs := by
  obtain ⟨v, h1, h2⟩ := r.slot i _ (listAt_some h) (fun z => nomatch z)
  cases h2 with
  | fz p => cases p
  | ml w1 w2 w3 => exact ⟨_, _, h1, w1, w2, w3⟩
theorem OwL.length {M : Mo} {W : Own} {F H : Hp} : ∀ {p : List Nat} {k : Nat} {l : List D} {xs : List V}, OwL M W F H p k l xs → l.length = xs.length
  | _, _, _, _, .nil => rfl
  | _, _, _, _, .cons _ q => congrArg (· + 1) q.length
theorem OwL.get {M : Mo} {W : Own} {F H : Hp} : ∀ {p : List Nat} {k : Nat} {l : List D} {xs : List V} {i : Nat} {d : D}, OwL M W F H p k l xs → l[i]? = some d → ∃ v, xs[i]? = some v ∧ Ow M W F H (p ++ [k + i]) d v
  | _, _, _, _, _, _, .nil, e => by simp at e
  | p, k, _, _, 0, _, .cons h _, e => by
    simp at e
    subst e
    exact ⟨_, rfl, h⟩
  | p, k, _, _, i + 1, _, .cons _ q, e => by
    obtain ⟨v, h1, h2⟩ := q.get (i := i) (by simpa using e)
    refine ⟨v, by simpa using h1, ?_⟩
    rw [show k + (i + 1) = k + 1 + i by omega]
    exact h2
theorem OwL.set {M : Mo} {W : Own} {F H : Hp} {d : D} {v : V} (h : Rp M F d v) : ∀ {p : List Nat} {k : Nat} {l : List D} {xs : List V} (n : Nat), OwL M W F H p k l xs → OwL M W F H p k (l.set n d) (xs.set n v)
  | _, _, _, _, _, .nil => .nil
  | _, _, _, _, 0, .cons _ q => .cons (.fz h) q
  | _, _, _, _, n + 1, .cons p q => .cons p (OwL.set h n q)
theorem OwL.snoc {M : Mo} {W : Own} {F H : Hp} {d : D} {v : V} (h : Rp M F d v) : ∀ {p : List Nat} {k : Nat} {l : List D} {xs : List V}, OwL M W F H p k l xs → OwL M W F H p k (l ++ [d]) (xs ++ [v])
  | _, _, _, _, .nil => .cons (.fz h) .nil
  | _, _, _, _, .cons p q => .cons p (OwL.snoc h q)
theorem OwL.upd {M : Mo} {W : Own} {F H : Hp} {p : List Nat} {k : Nat} {l : List D} {xs : List V} {a : Addr} {o : HO} {q0 : List Nat} (h : OwL M W F H p k l xs) (ha : W a = some q0) (hq : q0.length ≤ p.length) : OwL M W F (L2.upd H a o) p k l xs := by
  have : ∀ {p : List Nat} {k : Nat} {l : List D} {xs : List V}, q0.length ≤ p.length → OwL M W F H p k l xs → OwL M W F (L2.upd H a o) p k l xs := by
    intro p k l
    induction l generalizing k with
    | nil => intro xs _ h; cases h; exact .nil
    | cons d l ih =>
      intro xs hq h
      cases h with
      | cons h1 h2 =>
        refine .cons (h1.tr (Ex.refl F) fun b q z => ⟨z, fun u y => ?_⟩) (ih hq h2)
        have : b ≠ a := fun w => by
          subst w
          rw [ha] at z
          injection z with z
          rw [z] at hq
          simp only [List.length_append, List.length_cons, List.length_nil] at hq
          omega
        rw [upd_ne this]
        exact y
  exact this hq h
/-- x[k] read, x an owned list -/
def ixO (i : Nat) (dk : List D → R D) : List D → R D := fun env => if (listAt env i).isSome = true then bindR (dk env) fun k env1 => match k with
  | .int k => match listAt env1 i with
    | some l => match atI l k with
      | some d => if isOwn d = true then .bad else .ok d env1
      | none => .bad
    | none => .bad
  | _ => .bad
else .bad
theorem atI_get2 {α β : Type} {l : List α} {xs : List β} {k : Int} {d : α} (hl : l.length = xs.length) (h : atI l k = some d) : ∃ n : Nat, l[n]? = some d ∧ ∀ v, xs[n]? = some v → atI xs k = some v := by
  unfold atI at h ⊢
  rw [← hl]
  cases o : ixN l.length k with
  | none => rw [o] at h; cases h
  | some n =>
    rw [o] at h
    exact ⟨n, h, fun v hv => hv⟩
section
variable {X : Cx} {j : J} {b e : Expr} {pos px : Pos} {da dk : List D → R D}
theorem e_ixO (i : Nat) {x : Str} (h : PE X (.Name x px) (tVar i)) (hk : DE X j b dk) (hs : PlainIx b) : DE X j (.Subscript (.Name x px) b pos) (ixO i dk) :=
  PE.mono (pe_ix ix_list h hk hs) fun σ H Q ⟨W, F, env, rel, q⟩ => by
    unfold ixO at q
    by_cases o : (listAt env i).isSome = true
    · rw [if_pos o] at q
      obtain ⟨l0, e0⟩ := Option.isSome_iff_exists.mp o
      obtain ⟨a0, xs0, s0, _⟩ := rel.list e0
      refine ⟨_, s0, W, F, env, rel, At.bind q fun d env1 W1 F1 H1 v _ r1 x1 p1 q1 => ?_⟩
      cases p1 with
      | int k =>
        simp only at q1
        cases o2 : listAt env1 i with
        | none => rw [o2] at q1; exact q1.elim
        | some l =>
          rw [o2] at q1
          simp only at q1
          obtain ⟨a, xs, s1, w1, h1, ol⟩ := r1.list o2
          rw [s0] at s1
          cases s1
          cases o3 : atI l k with
          | none => rw [o3] at q1; exact q1.elim
          | some d =>
            rw [o3] at q1
            simp only at q1
            by_cases o4 : isOwn d = true
            · rw [if_pos o4] at q1
              exact q1.elim
            · rw [if_neg o4] at q1
              obtain ⟨n, g1, g2⟩ := atI_get2 ol.length o3
              obtain ⟨v, g3, g4⟩ := ol.get g1
              exact ⟨_, xs, k, v, rfl, rfl, SqL.of h1, g2 v g3, q1 W1 F1 H1 v r1 (Ex.refl F1) (g4.rp (by simpa using o4))⟩
      | _ => exact q1.elim
    · rw [if_neg o] at q
      exact q.elim
/-- x[k] = e, x an owned list -/
def setO (i : Nat) (da dk : List D → R D) : List D → O := fun env => bindS (da env) fun d env1 => if (listAt env1 i).isSome = true then bindS (dk env1) fun k env2 => match k with
  | .int k => match listAt env2 i with
    | some l => match ixN l.length k with
      | some n => .nx (env2.set i (.ml (l.set n d)))
      | none => .bad
    | none => .bad
  | _ => .bad
else .bad
theorem s_setix (i : Nat) {x : Str} {tpos : Pos} (he : DE X j e da) (h : PE X (.Name x px) (tVar i)) (hk : DE X j b dk)
    (ha : ∀ v, assign (.Subscript (.Name x px) b tpos) X.env v = (do
      let ov ← holding [v] (eval (.Name x px) X.env)
      let iv ← holding [v, ov] (eval b X.env)
      standAt tpos
      holding [v, ov, iv] (setItem ov iv v)
      release [v, ov, iv] []) := by intro _; rfl) (hs : swapsWithSole [.Subscript (.Name x px) b tpos] e pos.line X.env = pure false := by rfl) (hw : swappedStores [.Subscript (.Name x px) b tpos] e X.env = pure none := by rfl)
    (h1 : (assignEach [.Subscript (.Name x px) b tpos] X.env).map (·.2) = [assign (.Subscript (.Name x px) b tpos) X.env] := by rfl) : DS X j (.Assign [.Subscript (.Name x px) b tpos] e pos) (setO i da dk) :=
  PS.mono (ps_asg he (pg_sub h hk set_list ha) hs hw h1) fun Dn σ H ⟨W, F, env, rel, q⟩ => ⟨W, F, env, rel, AtS.bind q fun d env1 W1 F1 H1 v _ r1 x1 p1 q1 => by
    by_cases o : (listAt env1 i).isSome = true
    · rw [if_pos o] at q1
      obtain ⟨l0, e0⟩ := Option.isSome_iff_exists.mp o
      obtain ⟨a0, xs0, s0, _⟩ := r1.list e0
      refine ⟨_, s0, W1, F1, env1, r1, AtS.bind q1 fun k env2 W2 F2 H2 v2 _ r2 x2 p2 q2 => ?_⟩
      cases p2 with
      | int k =>
        simp only at q2
        cases o2 : listAt env2 i with
        | none => rw [o2] at q2; exact q2.elim
        | some l =>
          rw [o2] at q2
          simp only at q2
          obtain ⟨a, xs, s1, w1, h1, ol⟩ := r2.list o2
          rw [s0] at s1
          cases s1
          cases o3 : ixN l.length k with
          | none => rw [o3] at q2; exact q2.elim
          | some n =>
            rw [o3] at q2
            refine ⟨_, xs, k, n, rfl, rfl, h1, by rw [← ol.length]; exact o3, q2 W2 F2 _ σ (r2.write w1 s0 ?_) (Ex.refl F2)⟩
            exact .ml w1 upd_same ((ol.upd w1 (Nat.le_refl _)).set (p1.mono x2) n)
      | _ => exact q2.elim
    · rw [if_neg o] at q1
      exact q1.elim⟩
/-- x.append(e) -/
def appO (i : Nat) (da : List D → R D) : List D → O := fun env => if (listAt env i).isSome = true then bindS (da env) fun d env1 => match listAt env1 i with
  | some l => if l.length < sizeLine then .nx (env1.set i (.ml (l ++ [d]))) else .bad
  | none => .bad
else .bad
theorem s_app (i : Nat) {x : Str} {apos cpos : Pos} (h : PE X (.Name x px) (tVar i)) (ha : DE X j e da) (hbase : attributeBase (.Name x px) "append" X.env (eval (.Name x px) X.env) = eval (.Name x px) X.env := by rfl)
    (hfew : ((backTo cpos (starEach (e :: []) X.env)).all (fun x => !x.1) && (backToKw cpos (keywordEach [] X.env)).all (fun x => x.1.isSome)
      && decide ((e :: []).length + ([] : List Keyword).length + (if ([] : List Keyword).isEmpty then 0 else 1) < 30)) = true := by rfl)
    (hline : (apos.endLine == cpos.line) = true := by rfl) (hs : starEach (e :: []) X.env = (false, eval e X.env) :: starEach [] X.env := by rfl) (hplain : (backTo cpos (starEach [] X.env)).any (·.1) = false := by rfl)
    (hsw : swapsWith (.Call (.Attribute (.Name x px) "append" apos) [e] [] cpos) none pos.line X.env = pure false := by rfl) : DS X j (.Expr (.Call (.Attribute (.Name x px) "append" apos) [e] [] cpos) pos) (appO i da) :=
  PS.mono (ps_expr (pe_bm PySem.F.plainAttrs_list PySem.F.slot_list_append PySem.F.type_list_append mt_append h (pa_cons ha pa_nil hs) hbase hfew hline hs hplain) hsw) fun Dn σ H ⟨W, F, env, rel, q⟩ => by
    unfold appO at q
    by_cases o : (listAt env i).isSome = true
    · rw [if_pos o] at q
      obtain ⟨l0, e0⟩ := Option.isSome_iff_exists.mp o
      obtain ⟨a0, xs0, s0, w0, h0, _⟩ := rel.list e0
      refine ⟨_, s0, .inl ⟨rfl, _, SqL.of h0⟩, W, F, env, rel, AtS.bind q fun d env1 W1 F1 H1 v _ r1 x1 p1 q1 => ?_⟩
      cases o2 : listAt env1 i with
      | none => rw [o2] at q1; exact q1.elim
      | some l =>
        rw [o2] at q1
        simp only at q1
        obtain ⟨a, xs, s1, w1, h1, ol⟩ := r1.list o2
        rw [s0] at s1
        cases s1
        by_cases o3 : l.length < sizeLine
        · rw [if_pos o3] at q1
          refine ⟨_, xs, v, rfl, rfl, h1, by rw [← ol.length]; exact o3, q1 W1 F1 _ σ (r1.write w1 s0 ?_) (Ex.refl F1)⟩
          exact .ml w1 upd_same ((ol.upd w1 (Nat.le_refl _)).snoc p1)
        · rw [if_neg o3] at q1
          exact q1.elim
    · rw [if_neg o] at q
      exact q.elim
end
theorem o_lst {X : Cx} {j : J} {es : List Expr} {pos : Pos} {dl : List D → R (List D)} (h : DL X j es dl) : DO X j (.List es pos) (fun env => bindR (dl env) fun xs env1 => if xs.length ≤ 1000 then .ok (.ml xs) env1 else .bad) :=
  PE.mono (pe_lst h) fun σ H Q ⟨W, F, env, rel, q⟩ => ⟨W, F, env, rel, AtO.bind q fun d env1 W1 F1 H1 v _ r1 x1 p1 q1 => by
    by_cases z : d.length ≤ 1000
    · rw [if_pos z] at q1
      refine ⟨le_line (by rw [← p1.length]; exact z), fun p n => ?_⟩
      obtain ⟨h1, h2⟩ := r1.newO n p1
      exact q1 _ F1 _ _ h1 (Ex.refl F1) h2
    · rw [if_neg z] at q1
      exact q1.elim⟩
def TOd (M : Mo) (j : J) (den : List D → R (Option Int)) : TO := fun σ H Q => tR M j.e j.wx (fun _ a b => a = b) den σ H Q
def noPartD : List D → R (Option Int) := fun env => .ok none env
def partD (da : List D → R D) : List D → R (Option Int) := fun env => bindR (da env) fun d env1 => match d with
  | .int i => .ok (some i) env1
  | _ => .bad
def cutL (l : List D) (lo hi : Option Int) : List D := (l.drop (HT.sIx l.length 0 lo)).take (HT.sIx l.length l.length hi - HT.sIx l.length 0 lo)
def cutD (d : D) (lo hi : Option Int) : Option D := match d with
  | .lst l => some (.lst (cutL l lo hi))
  | .tup l => if HT.sIx l.length 0 lo = 0 ∧ HT.sIx l.length l.length hi = l.length then none else some (.tup (cutL l lo hi))
  | .str z => if z.length ≤ sizeLine then some (.str (cutS z lo hi)) else none
  | _ => none
def sliceD (da : List D → R D) (dl dh : List D → R (Option Int)) : List D → R D := fun env => bindR (da env) fun d env1 => bindR (dl env1) fun lo env2 => bindR (dh env2) fun hi env3 => opR (cutD d lo hi) env3
section
variable {X : Cx} {j : J} {e : Expr} {pos p2 : Pos} {da : List D → R D} {dl dh : List D → R (Option Int)} {lo hi : Option Expr}
theorem PO.mono {lo : Option Expr} {t t' : TO} (h : PO X lo t) (k : ∀ σ H Q, t' σ H Q → t σ H Q) : PO X lo t' := ⟨fun pins s σ H Q I q => h.run pins s σ H Q I (k σ H Q q)⟩
theorem p_none : PO X none (TOd (mo X) j noPartD) := PO.mono po_none fun σ H Q ⟨W, F, env, rel, q⟩ => q W F H none rel (Ex.refl F) rfl
theorem p_some (h : DE X j e da) : PO X (some e) (TOd (mo X) j (partD da)) := PO.mono (po_some h) fun σ H Q ⟨W, F, env, rel, q⟩ => ⟨W, F, env, rel, At.bind q fun d env1 W1 F1 H1 v _ r1 x1 p1 q1 => by
  cases p1 with
  | int i => exact ⟨i, rfl, q1 W1 F1 H1 _ r1 (Ex.refl F1) rfl⟩
  | _ => exact q1.elim⟩
theorem RpL.cut {M : Mo} {F : Hp} {l : List D} {xs : List V} (h : RpL M F l xs) (lo hi : Option Int) : RpL M F (cutL l lo hi) (cutV xs lo hi) := by
  unfold cutL cutV
  rw [← h.length]
  exact (h.drop _).take _
theorem e_slice (h : DE X j e da) (hl : PO X lo (TOd (mo X) j dl)) (hh : PO X hi (TOd (mo X) j dh)) : DE X j (.Subscript e (.Slice lo hi none p2) pos) (sliceD da dl dh) :=
  PE.mono (pe_slice (sl_list.or (sl_tup.or sl_str)) h hl hh) fun σ H Q ⟨W, F, env, rel, q⟩ => ⟨W, F, env, rel, At.bind q fun d env1 W1 F1 H1 v _ r1 x1 p1 q1 => ⟨W1, F1, env1, r1, At.bind q1 fun lo env2 W2 F2 H2 v2 _ r2 x2 p2 q2 => ⟨W2, F2, env2, r2, At.bind q2 fun hi env3 W3 F3 H3 v3 _ r3 x3 p3 q3 => by
    subst p2 p3
    have p1 := p1.mono (x2.trans x3)
    unfold cutD at q3
    cases p1 with
    | lst h1 h2 => exact .inl ⟨_, _, rfl, ex_l r3.exF h1, fun p n => At.grow q3 r3 (Grow.one r3.exF n) (.lst (SqL.of upd_same) ((h2.cut _ _).mono (Ex.new (r3.exF.none n))))⟩
    | @tup a xs l h1 h2 =>
      simp only at q3
      split at q3
      · exact q3.elim
      · rename_i hz
        exact .inr (.inl ⟨_, _, rfl, SqT.of (r3.exF _ _ h1), by rw [← h2.length]; exact hz, fun p n => At.grow q3 r3 (Grow.one r3.exF n) (.tup upd_same ((h2.cut _ _).mono (Ex.new (r3.exF.none n))))⟩)
    | str z =>
      simp only at q3
      split at q3
      · rename_i hz
        exact .inr (.inr ⟨z, rfl, hz, q3 W3 F3 H3 _ r3 (Ex.refl F3) (.str _)⟩)
      · exact q3.elim
    | _ => exact q3.elim⟩⟩⟩
end
end DL
namespace DL
open PySem PySem.Spec PyProof.Rows L2
abbrev noX : WX := fun _ _ _ _ => False
def blkW (pb : Nat → Option V) (W : Own) : Own := fun a => match W a with
  | some ((i + 1) :: q) => if (pb i).isSome = true then some ((i + 1) :: q) else none
  | _ => none
theorem blkW_some {pb : Nat → Option V} {W : Own} {a : Addr} {p : List Nat} (h : blkW pb W a = some p) : ∃ i q v, p = (i + 1) :: q ∧ W a = some p ∧ pb i = some v := by
  unfold blkW at h
  split at h
  · rename_i i q hq
    split at h
    · rename_i hs
      obtain ⟨v, hv⟩ := Option.isSome_iff_exists.mp hs
      cases h
      exact ⟨i, q, v, rfl, hq, hv⟩
    · cases h
  · cases h
section
variable {M : Mo} {e : Ent} {W : Own} {F H : Hp} {env : List D} {σ : L2.St}
theorem Rel.inB {pb : Nat → Option V} (r : Rel M e W F H env σ) (hp : ∀ i v, pb i = some v → σ[i]? = some (some v)) (ho : ∀ i d, env[i]? = some d → isOwn d = true → d ≠ .unb → pb i ≠ none) : Rel M ⟨H, F, blkW pb W, pb⟩ (blkW pb W) F H env σ where
  pres := fun _ _ _ h => h
  exF0 := Ex.refl F
  exF := r.exF
  sep := fun a h => by
    cases q : blkW pb W a with
    | none => exact absurd q h
    | some p =>
      obtain ⟨i, q', v, _, h2, _⟩ := blkW_some q
      have z := r.sep a (by rw [h2]; simp)
      exact ⟨z.1, .inl h, z.2.2⟩
  fresh := fun a c q h => by
    obtain ⟨i, q', v, h1, h2, h3⟩ := blkW_some h
    injection h1 with h1 _
    exact .inr ⟨i, v, q, h1, h3, h⟩
  new := fun _ h => .inl h
  stay := fun _ h => h
  tups := fun _ _ _ h => h
  tupr := fun _ _ _ h _ => h
  nof := fun a h => by
    cases q : blkW pb W a with
    | none => exact absurd q h
    | some p =>
      obtain ⟨i, q', v, _, h2, _⟩ := blkW_some q
      exact r.nof a (by rw [h2]; simp)
  len := r.len
  slot := fun i d h1 h2 => by
    obtain ⟨v, h3, h4⟩ := r.slot i d h1 h2
    refine ⟨v, h3, ?_⟩
    cases o : isOwn d with
    | false => exact .fz (h4.rp o)
    | true =>
      refine h4.tr (Ex.refl F) fun a q z => ⟨?_, fun _ x => x⟩
      have z2 : W a = some ((i + 1) :: q) := z
      unfold blkW
      rw [z2]
      show (if (pb i).isSome = true then some ((i + 1) :: q) else none) = some ((i + 1) :: q)
      rw [if_pos (Option.isSome_iff_ne_none.mpr (ho i d h1 o h2))]
  pin := hp
theorem Rel.outB {pb : Nat → Option V} {W' : Own} {F' H' : Hp} {env' : List D} {σ' : L2.St} (r : RelB e W F H) (r' : Rel M ⟨H, F, blkW pb W, pb⟩ W' F' H' env' σ') (hp : ∀ i v, e.P i = some v → pb i = some v) : Rel M e W' F' H' env' σ' where
  pres := fun b o h1 h2 => by
    refine r'.pres b o ?_ (r.pres b o h1 h2)
    show blkW pb W b = none
    cases q : blkW pb W b with
    | none => rfl
    | some p =>
      obtain ⟨i, q', v, _, h4, _⟩ := blkW_some q
      rcases (r.sep b (by rw [h4]; simp)).2.1 with z | z
      · exact absurd h1 z
      · rw [z] at h2
        cases h2
  exF0 := r.exF0.trans r'.exF0
  exF := r'.exF
  sep := fun a h => by
    obtain ⟨h1, h2, h3⟩ := r'.sep a h
    refine ⟨h1, ?_, h3⟩
    rcases h2 with h2 | h2
    · have h2 : blkW pb W a ≠ none := h2
      cases q : blkW pb W a with
      | none => exact absurd q h2
      | some p =>
        obtain ⟨i, q', v, _, h4, _⟩ := blkW_some q
        exact (r.sep a (by rw [h4]; simp)).2.1
    · refine .inr ?_
      cases w : e.H0 a with
      | none => rfl
      | some o => exact absurd h2 (r.stay a (by rw [w]; simp))
  fresh := fun a c q h => by
    rcases r'.fresh a c q h with h2 | ⟨i, v, q0, h2, h3, h4⟩
    · refine .inl ?_
      cases w : e.H0 a with
      | none => rfl
      | some o => exact absurd h2 (r.stay a (by rw [w]; simp))
    · have h4 : blkW pb W a = some (c :: q0) := h4
      obtain ⟨i2, q2, v2, h5, h6, h7⟩ := blkW_some h4
      exact r.fresh a c q0 h6
  new := fun b h => by
    rcases r'.new b h with h2 | h2 | ⟨o, h2, hf⟩
    · exact r.new b h2
    · refine .inr (.inl ?_)
      cases w : e.H0 b with
      | none => rfl
      | some o => exact absurd h2 (r.stay b (by rw [w]; simp))
    · cases w : e.H0 b with
      | none => exact .inr (.inl rfl)
      | some u => exact .inr (.inr ⟨o, r.tupr b o hf h2 (by rw [w]; simp), hf⟩)
  stay := fun b h => r'.stay b (r.stay b h)
  tups := fun b o hf h => r'.tups b o hf (r.tups b o hf h)
  tupr := fun b o hf h z => r.tupr b o hf (r'.tupr b o hf h (r.stay b z)) z
  nof := r'.nof
  len := r'.len
  slot := r'.slot
  pin := fun i v h => r'.pin i v (hp i v h)
end
def wipeD (env : List D) : List Nat → List D
  | [] => env
  | v :: vs => (wipeD env vs).set v .unb
def backD (env0 env : List D) : List Nat → List D
  | [] => env
  | v :: vs => (backD env0 env vs).set v (if isOwn (env0.getD v .unb) = true then .unb else env0.getD v .unb)
theorem wipeD_len (env : List D) : ∀ vs : List Nat, (wipeD env vs).length = env.length
  | [] => rfl
  | v :: vs => by unfold wipeD; rw [List.length_set, wipeD_len env vs]
theorem backD_len (env0 env : List D) : ∀ vs : List Nat, (backD env0 env vs).length = env.length
  | [] => rfl
  | v :: vs => by unfold backD; rw [List.length_set, backD_len env0 env vs]
theorem wipeD_get {env : List D} {i : Nat} {d : D} : ∀ {vs : List Nat}, (wipeD env vs)[i]? = some d → d ≠ .unb → i ∉ vs ∧ env[i]? = some d
  | [], h, _ => ⟨by simp, h⟩
  | v :: vs, h, hd => by
    unfold wipeD at h
    by_cases z : v = i
    · subst z
      have hlt : v < (wipeD env vs).length := by
        have := (List.getElem?_eq_some_iff.mp h).1
        rwa [List.length_set] at this
      rw [List.getElem?_set_self hlt] at h
      cases h
      exact absurd rfl hd
    · rw [List.getElem?_set_ne z] at h
      obtain ⟨h1, h2⟩ := wipeD_get h hd
      exact ⟨by simp only [List.mem_cons, not_or]; exact ⟨fun e => z e.symm, h1⟩, h2⟩
theorem backD_get {env0 env : List D} {i : Nat} {d : D} : ∀ {vs : List Nat}, (backD env0 env vs)[i]? = some d → d ≠ .unb → (i ∉ vs ∧ env[i]? = some d) ∨ (i ∈ vs ∧ env0[i]? = some d ∧ isOwn d = false)
  | [], h, _ => .inl ⟨by simp, h⟩
  | v :: vs, h, hd => by
    unfold backD at h
    by_cases z : v = i
    · subst z
      have hlt : v < (backD env0 env vs).length := by
        have := (List.getElem?_eq_some_iff.mp h).1
        rwa [List.length_set] at this
      rw [List.getElem?_set_self hlt] at h
      by_cases o : isOwn (env0.getD v .unb) = true
      · rw [if_pos o] at h
        cases h
        exact absurd rfl hd
      · rw [if_neg o] at h
        have o := (by simpa using o : isOwn (env0.getD v .unb) = false)
        obtain ⟨h1, _⟩ := getD_some o
        cases h
        exact .inr ⟨List.mem_cons_self, h1, o⟩
    · rw [List.getElem?_set_ne z] at h
      rcases backD_get h hd with ⟨h1, h2⟩ | ⟨h1, h2⟩
      · exact .inl ⟨by simp only [List.mem_cons, not_or]; exact ⟨fun e => z e.symm, h1⟩, h2⟩
      · exact .inr ⟨List.mem_cons_of_mem _ h1, h2⟩
theorem wipe_get {σ : L2.St} {i : Nat} : ∀ {vs : List Nat}, i ∉ vs → (wipe σ vs)[i]? = σ[i]?
  | [], _ => rfl
  | v :: vs, h => by
    simp only [List.mem_cons, not_or] at h
    unfold wipe
    rw [List.getElem?_set_ne (fun e => h.1 e.symm)]
    exact wipe_get h.2
theorem wipe_in {σ : L2.St} {i : Nat} : ∀ {vs : List Nat}, i ∈ vs → (wipe σ vs)[i]? = if i < σ.length then some none else none
  | v :: vs, h => by
    unfold wipe
    by_cases z : v = i
    · subst z
      by_cases hl : v < σ.length
      · rw [if_pos hl, List.getElem?_set_self (by rw [wipe_length]; exact hl)]
      · rw [if_neg hl, List.getElem?_eq_none]
        rw [List.length_set, wipe_length]
        omega
    · rw [List.getElem?_set_ne z]
      rcases List.mem_cons.mp h with h | h
      · exact absurd h.symm z
      · exact wipe_in h
theorem wipe_eq {σ σ' : L2.St} {vs : List Nat} (hl : σ'.length = σ.length) (h : ∀ i, i ∉ vs → σ'[i]? = σ[i]?) : wipe σ' vs = wipe σ vs := by
  refine List.ext_getElem? fun i => ?_
  by_cases z : i ∈ vs
  · rw [wipe_in z, wipe_in z, hl]
  · rw [wipe_get z, wipe_get z]
    exact h i z
/-- the slots that a target stores -/
def tGw (M : Mo) (j : J) (ss : List Nat) (g : D → List D → Option (List D)) : TG := fun v σ H Q => ∃ W F env d, Rel M j.e W F H env σ ∧ Rp M F d v ∧ ∃ env', g d env = some env' ∧ ∀ W' F' H' σ', Rel M j.e W' F' H' env' σ' → Ex F F' → σ'.length = σ.length → (∀ i, i ∉ ss → σ'[i]? = σ[i]?) → Q σ' H'
abbrev DGw (X : Cx) (j : J) (tg : Expr) (ss : List Nat) (g : D → List D → Option (List D)) : Prop := PG X tg (tGw (mo X) j ss g)
def tGsw (M : Mo) (j : J) (ss : List Nat) (g : List D → List D → Option (List D)) : TGs := fun vs σ H Q => ∃ W F env ds, Rel M j.e W F H env σ ∧ RpL M F ds vs ∧ ∃ env', g ds env = some env' ∧ ∀ W' F' H' σ', Rel M j.e W' F' H' env' σ' → Ex F F' → σ'.length = σ.length → (∀ i, i ∉ ss → σ'[i]? = σ[i]?) → Q σ' H'
abbrev DGsw (X : Cx) (j : J) (ts : List Expr) (ss : List Nat) (g : List D → List D → Option (List D)) : Prop := PGs X ts (tGsw (mo X) j ss g)
section
variable {X : Cx} {j : J} {e tg : Expr} {es : List Expr} {pos : Pos} {h : List D → List D → Option (List D)} {ss st : List Nat}
theorem w_name (i : Nat) {x : Str} (hN : X.N.Nodup) (hp : j.e.P i = none) (hi : X.N[i]? = some x := by rfl) (hx : Loc X.env.scope x := by first | exact Or.inl rfl | exact Or.inr rfl) (hf : X.fn x = true ∨ X.env.scope.names.lookup x = some .local := by first | exact .inl rfl | exact .inr rfl) : DGw X j (.Name x pos) [i] (gnD i) :=
  PG.mono (pg_name hN hi hx hf) fun v σ H Q ⟨W, F, env, d, r, p, env', e, q⟩ => by
    have e : env.set i d = env' := Option.some.inj e
    exact q W F H _ (by rw [← e]; exact r.set p hp) (Ex.refl F) (by rw [List.length_set]) fun k hk => List.getElem?_set_ne (by simp at hk; exact fun z => hk z.symm)
theorem ws_nil : DGsw X j [] [] gNilD := PGs.mono pgs_nil fun vs σ H Q ⟨W, F, env, ds, r, p, env', e, q⟩ => by
  cases p with
  | nil =>
    have e : env = env' := Option.some.inj e
    exact ⟨rfl, q W F H σ (by rw [← e]; exact r) (Ex.refl F) rfl fun _ _ => rfl⟩
  | cons _ _ => cases e
theorem ws_cons {g : D → List D → Option (List D)} (hg : DGw X j e ss g) (hh : DGsw X j es st h) (hs : (assignEach (e :: es) X.env).map (·.2) = assign e X.env :: (assignEach es X.env).map (·.2) := by rfl) : DGsw X j (e :: es) (ss ++ st) (gConsD g h) :=
  PGs.mono (pgs_cons hg hh hs) fun vs σ H Q ⟨W, F, env, ds, r, p, env', e, q⟩ => by
    cases p with
    | nil => cases e
    | @cons d l v xs p1 p2 =>
      unfold gConsD at e
      simp only at e
      cases o : g d env with
      | none => rw [o] at e; cases e
      | some env1 =>
        rw [o] at e
        exact ⟨v, xs, rfl, W, F, env, d, r, p1, env1, o, fun W' F' H' σ' r' x' l1 k1 => ⟨W', F', env1, l, r', p2.mono x', env', e, fun W2 F2 H2 σ2 r2 x2 l2 k2 => q W2 F2 H2 σ2 r2 (x'.trans x2) (l2.trans l1) fun i hi => by
          simp only [List.mem_append, not_or] at hi
          rw [k2 i hi.2, k1 i hi.1]⟩⟩
theorem w_tup {k n : Nat} (hc : X.calm = true) (hh : DGsw X j es ss h) (hlen : ∀ ds env env', h ds env = some env' → ds.length = n) (hn : (assignEach es X.env).length = n := by rfl) (hst : (assignEach es X.env).findIdx? (·.1) = none := by rfl) : DGw X j (.Tuple es k pos) ss (gTupD h) :=
  PG.mono (pg_tup hc hh hn hst) fun v σ H Q ⟨W, F, env, d, r, p, env', e, q⟩ => by
    cases p with
    | tup h1 h2 =>
      exact ⟨_, _, rfl, SqT.of (r.exF _ _ h1), by rw [← h2.length]; exact hlen _ _ _ e, W, F, env, _, r, h2, env', e, q⟩
    | _ => cases e
end
/-- tests of a clause -/
def yesD : List D → R Bool := fun env => .ok true env
abbrev DTs (X : Cx) (j : J) (ifs : List Expr) (dt : List D → R Bool) : Prop := PTs X ifs (tT (mo X) j dt)
theorem ts_nil {X : Cx} {j : J} : DTs X j [] yesD := ⟨fun pins s σ H Q I h => pts_nil.run pins s σ H Q I (by obtain ⟨W, F, env, rel, q⟩ := h; exact q W F H true rel (Ex.refl F) rfl)⟩
def bindB {α β : Type} (r : R α) (f : α → List D → R β) : R β := match r with
  | .ok a env => f a env
  | _ => .bad
@[simp] theorem bindB_ok {α β : Type} (a : α) (env : List D) (f : α → List D → R β) : bindB (.ok a env) f = f a env := rfl
def lcGo (g : D → List D → Option (List D)) (dt : List D → R Bool) (de : List D → R D) (vs : List Nat) : List D → List D → List D → R (List D)
  | [], acc, env => .ok acc env
  | d :: ds, acc, env => match g d env with
    | none => .bad
    | some env1 => bindB (dt env1) fun b env2 => if b = true then bindB (de env2) fun y env3 => lcGo g dt de vs ds (acc ++ [y]) (wipeD env3 vs) else lcGo g dt de vs ds acc (wipeD env2 vs)
def lcD (di : List D → R (List D)) (g : D → List D → Option (List D)) (dt : List D → R Bool) (de : List D → R D) (vs : List Nat) : List D → R D := fun env => bindR (di env) fun ds env1 =>
  if ds.length ≤ 1000000 then bindB (lcGo g dt de vs ds [] (wipeD env1 vs)) fun acc env2 => .ok (.ml acc) (backD env1 env2 vs) else .bad
/-- a block's result in a block: nothing is raised -/
theorem At.bindB {α β γ : Type} {M : Mo} {e : Ent} {rep : Hp → α → β → Prop} {F : Hp} {σ : L2.St} {r : R α} {f : α → List D → R γ} {o : R γ} {P : β → Hp → Prop} (h : DL.bindB r f = o) (ho : o ≠ .bad)
    (k : ∀ d env1 W1 F1 H1 v, r = .ok d env1 → Rel M e W1 F1 H1 env1 σ → Ex F F1 → rep F1 d v → f d env1 = o → P v H1) : At M e noX rep F σ r P := by
  cases r with
  | ok d env' => exact fun W' F' H' v a b c => k d env' W' F' H' v rfl a b c h
  | ex c fs env' => exact absurd h.symm ho
  | bad => exact absurd h.symm ho
theorem Rel.wipe {M : Mo} {e : Ent} {W : Own} {F H : Hp} {env : List D} {σ σ' : L2.St} (r : Rel M e W F H env σ) (vs : List Nat) (hl : σ'.length = σ.length) (h : ∀ i, i ∉ vs → σ'[i]? = σ[i]?) (hp : ∀ i ∈ vs, e.P i = none) : Rel M e W F H (wipeD env vs) σ' where
  toRelB := r.toRelB
  len := by rw [wipeD_len, hl]; exact r.len
  slot := fun i d h1 h2 => by
    obtain ⟨h3, h4⟩ := wipeD_get h1 h2
    obtain ⟨v, h5, h6⟩ := r.slot i d h4 h2
    exact ⟨v, by rw [h i h3]; exact h5, h6⟩
  pin := fun i v hv => by
    have : i ∉ vs := fun z => by
      rw [hp i z] at hv
      cases hv
    rw [h i this]
    exact r.pin i v hv
section
variable {X : Cx} {j : J} {elt tg iter : Expr} {ifs : List Expr} {scope : Scope} {pos : Pos} {own : List (Str × Nat)} {di : List D → R (List D)} {g : D → List D → Option (List D)} {dt : List D → R Bool} {de : List D → R D} {ss : List Nat}
abbrev lcG (M : Mo) (vs ss : List Nat) (g : D → List D → Option (List D)) : TG := fun v σ H Q => ∃ eb : Ent, (∀ i ∈ vs, eb.P i = none) ∧ tGw M ⟨eb, noX⟩ ss g v σ H Q
abbrev lcT (M : Mo) (vs : List Nat) (dt : List D → R Bool) : TT := fun σ H Q => ∃ eb : Ent, (∀ i ∈ vs, eb.P i = none) ∧ tT M ⟨eb, noX⟩ dt σ H Q
abbrev lcE (M : Mo) (vs : List Nat) (de : List D → R D) : TE := fun σ H Q => ∃ eb : Ent, (∀ i ∈ vs, eb.P i = none) ∧ tE M ⟨eb, noX⟩ de σ H Q
/-- what the library's reading of a comprehension asks -/
theorem lc_red {vs : List Nat} (hp : ∀ i ∈ vs, j.e.P i = none) (hss : ∀ i ∈ ss, i ∈ vs) {σ : L2.St} {H : Hp} {Q : VK} (h : tO (mo X) j (lcD di g dt de vs) σ H Q) : tLc (tI (mo X) j di) (lcG (mo X) vs ss g) (lcT (mo X) vs dt) (lcE (mo X) vs de) vs σ H Q := by
  obtain ⟨W, F, env, rel, q⟩ := h
  refine ⟨W, F, env, rel, AtO.bind q fun ds env1 W1 F1 H1 Ji _ r1 x1 p1 q1 => ?_⟩
  by_cases hds0 : ¬ ds.length ≤ 1000000
  · rw [if_neg hds0] at q1
    exact q1.elim
  have hds : ds.length ≤ 1000000 := by omega
  rw [if_pos hds] at q1
  cases o : lcGo g dt de vs ds [] (wipeD env1 vs) with
  | ex c fs en => rw [o] at q1; exact q1.elim
  | bad => rw [o] at q1; exact q1.elim
  | ok acc0 env0 =>
    rw [o] at q1
    intro Dl hDl
    have wl : (wipe σ vs).length = σ.length := wipe_length σ vs
    have wg : ∀ i, i ∉ vs → (wipe σ vs)[i]? = σ[i]? := fun i h => wipe_get h
    have dW1 : W1 Dl = none := by
      cases z : W1 Dl with
      | none => rfl
      | some p => exact absurd hDl (r1.sep Dl (by rw [z]; simp)).2.2
    have dF1 : F1 Dl = none := r1.exF.none hDl
    -- the new list
    have gr : Rel (mo X) j.e W1 F1 (upd H1 Dl (.lst [])) (wipeD env1 vs) (wipe σ vs) := by
      have a := r1.wipe vs wl wg hp
      have h0 : j.e.H0 Dl = none := by
        cases z : j.e.H0 Dl with
        | none => rfl
        | some p => exact absurd hDl (r1.stay Dl (by rw [z]; simp))
      refine ⟨⟨fun b u h1 h2 => ?_, a.exF0, fun b u h => ?_, fun b h => ?_, a.fresh, a.new, fun b h => ?_, a.tupsU h0, a.tuprU h0, nofU a.nof flat_lst fun _ _ h => h⟩, a.len, fun i d h1 h2 => ?_, a.pin⟩
      · have : b ≠ Dl := fun z => by
          subst z
          rw [h0] at h2
          cases h2
        rw [upd_ne this]
        exact a.pres b u h1 h2
      · have : b ≠ Dl := fun z => by
          subst z
          rw [dF1] at h
          cases h
        rw [upd_ne this]
        exact a.exF b u h
      · have : b ≠ Dl := fun z => h (by rw [z]; exact dW1)
        rw [upd_ne this]
        exact a.sep b h
      · by_cases z : b = Dl
        · rw [z, upd_same]
          simp
        · rw [upd_ne z]
          exact a.stay b h
      · obtain ⟨v, h3, h4⟩ := a.slot i d h1 h2
        refine ⟨v, h3, h4.tr (Ex.refl F1) fun b q z => ⟨z, fun u y => ?_⟩⟩
        have : b ≠ Dl := fun w => by
          rw [w, dW1] at z
          cases z
        rw [upd_ne this]
        exact y
    refine ⟨fun i m H => m = ds.length - i ∧ i ≤ ds.length ∧ ∃ W2 F2 env2 acc xs, Rel (mo X) j.e W2 F2 H env2 (wipe σ vs) ∧ Ex F1 F2 ∧ H Dl = some (.lst xs) ∧ F2 Dl = none ∧ W2 Dl = none ∧ RpL (mo X) F2 acc xs ∧ acc.length ≤ i ∧ (∀ i ∈ vs, ∀ d, env2[i]? = some d → d = .unb) ∧ lcGo g dt de vs (ds.drop i) acc env2 = .ok acc0 env0,
      ⟨_, rfl, Nat.zero_le _, W1, F1, _, [], [], gr, Ex.refl F1, upd_same, dF1, dW1, .nil, Nat.zero_le _, fun i hi d h => Classical.byContradiction fun hd => (wipeD_get h hd).1 hi, o⟩, fun i m H hw => ?_⟩
    obtain ⟨rfl, hi, W2, F2, env2, acc, xs, r2, x2, hD, hF, hW, ra, hacc, hun, e2⟩ := hw
    by_cases hlt : i < ds.length
    · obtain ⟨go, yl⟩ := (p1 i F2 H x2 r2.exF).1 hlt
      rw [List.drop_eq_getElem_cons hlt] at e2
      unfold lcGo at e2
      cases og : g ds[i] env2 with
      | none => rw [og] at e2; cases e2
      | some env3 =>
        rw [og] at e2
        simp only at e2
        refine .inr ⟨go, fun H' => ∃ W4 F4 env4 acc4 xs4, Rel (mo X) j.e W4 F4 H' env4 (wipe σ vs) ∧ Ex F1 F4 ∧ H' Dl = some (.lst xs4) ∧ F4 Dl = none ∧ W4 Dl = none ∧ RpL (mo X) F4 acc4 xs4 ∧ acc4.length ≤ i + 1 ∧ (∀ i ∈ vs, ∀ d, env4[i]? = some d → d = .unb) ∧ lcGo g dt de vs (ds.drop (i + 1)) acc4 env4 = .ok acc0 env0,
          fun H' h => ⟨ds.length - (i + 1), by omega, rfl, hlt, h⟩, fun x H' hy => ?_⟩
        obtain ⟨F3, d, e1, grw, rp⟩ := yl x H' hy
        have ed : ds[i] = d := by
          rw [List.getElem?_eq_getElem hlt] at e1
          exact Option.some.inj e1
        have r3 := r2.grow grw
        have hD3 : H' Dl = some (.lst xs) := grw.exH _ _ hD
        have hF3 : F3 Dl = none := by
          cases z : F3 Dl with
          | none => rfl
          | some u =>
            rcases grw.new Dl (by rw [z]; simp) with y | y | y
            · exact absurd hF y
            · rw [y] at hD
              cases hD
            · exact absurd y (FlatT.not hD flat_lst)
        -- the block's own entry
        have hpb : ∃ pb : Nat → Option V, (∀ i ∈ vs, pb i = none) ∧ (∀ i v, pb i = some v → (wipe σ vs)[i]? = some (some v)) ∧ (∀ i v, i ∉ vs → (wipe σ vs)[i]? = some (some v) → pb i = some v) :=
          ⟨fun i => if i ∈ vs then none else match (wipe σ vs)[i]? with | some o => o | none => none, fun i h => if_pos h, fun i v h => by
            simp only at h
            by_cases z : i ∈ vs
            · rw [if_pos z] at h
              cases h
            · rw [if_neg z] at h
              cases y : (wipe σ vs)[i]? with
              | none => rw [y] at h; cases h
              | some o => rw [y] at h; exact congrArg some h, fun i v h1 h2 => by
            simp only
            rw [if_neg h1, h2]⟩
        obtain ⟨pb, pb1, pb2, pb3⟩ := hpb
        have rB := r3.inB (pb := pb) pb2 fun i d h1 h2 h3 z => by
          have hn : i ∉ vs := fun hv => h3 (hun i hv d h1)
          obtain ⟨v, h4, _⟩ := r3.slot i d h1 h3
          rw [pb3 i v hn h4] at z
          cases z
        have hpe : ∀ i v, j.e.P i = some v → pb i = some v := fun i v h => by
          have hn : i ∉ vs := fun hv => by
            rw [hp i hv] at h
            cases h
          exact pb3 i v hn (r3.pin i v h)
        refine ⟨_, pb1, blkW pb W2, F3, env2, d, rB, rp, env3, by rw [← ed]; exact og, fun W4 F4 H4 σ4 r4 x4 l4 k4 => ?_⟩
        have k4' : ∀ i, i ∉ vs → σ4[i]? = (wipe σ vs)[i]? := fun i hn => k4 i fun z => hn (hss i z)
        have wσ : wipe σ4 vs = wipe σ vs := by
          rw [wipe_eq (σ := wipe σ vs) (σ' := σ4) l4 k4']
          refine List.ext_getElem? fun i => ?_
          by_cases z : i ∈ vs
          · rw [wipe_in z, wipe_in z, wl]
          · rw [wipe_get z]
        refine ⟨wσ, _, pb1, W4, F4, env3, r4, ?_⟩
        have keepD : ∀ {W' F' H' env' σ'}, Rel (mo X) ⟨_, F3, blkW pb W2, pb⟩ W' F' H' env' σ' → H' Dl = some (.lst xs) ∧ F' Dl = none ∧ W' Dl = none := fun {W' F' H' env' σ'} r => by
          have bn : blkW pb W2 Dl = none := by
            unfold blkW
            rw [hW]
          refine ⟨r.pres Dl _ bn hD3, ?_, ?_⟩
          · cases z : F' Dl with
            | none => rfl
            | some u =>
              rcases r.new Dl (by rw [z]; simp) with y | y | y
              · exact absurd hF3 y
              · cases hD3.symm.trans y
              · exact absurd y (FlatT.not hD3 flat_lst)
          · cases z : W' Dl with
            | none => rfl
            | some u =>
              rcases (r.sep Dl (by rw [z]; simp)).2.1 with y | y
              · exact absurd bn y
              · cases hD3.symm.trans y
        have back : ∀ {W' F' H' env'}, Rel (mo X) ⟨_, F3, blkW pb W2, pb⟩ W' F' H' env' σ4 → Rel (mo X) j.e W' F' H' (wipeD env' vs) (wipe σ vs) := fun {W' F' H' env'} r =>
          (Rel.outB r3.toRelB r hpe).wipe vs (by rw [l4]) (fun i hn => (k4' i hn).symm) hp
        have unb : ∀ (env' : List D) i, i ∈ vs → ∀ d, (wipeD env' vs)[i]? = some d → d = .unb := fun env' i hv d h => Classical.byContradiction fun hd => (wipeD_get h hd).1 hv
        refine At.bindB e2 (fun z => nomatch z) fun b env5 W5 F5 H5 b' ob r5 x5 hb e5 => ?_
        subst hb
        cases b with
        | false =>
          rw [if_neg Bool.false_ne_true] at e5 ⊢
          obtain ⟨d1, d2, d3⟩ := keepD r5
          exact ⟨W5, F5, _, acc, xs, back r5, x2.trans (grw.exF.trans (x4.trans x5)), d1, d2, d3, ra.mono (grw.exF.trans (x4.trans x5)), by omega, unb _, e5⟩
        | true =>
          rw [if_pos rfl] at e5 ⊢
          refine ⟨_, pb1, W5, F5, env5, r5, At.bindB e5 (fun z => nomatch z) fun y env6 W6 F6 H6 v oy r6 x6 py e6 => ?_⟩
          obtain ⟨d1, d2, d3⟩ := keepD r6
          have xx : Ex F2 F6 := grw.exF.trans (x4.trans (x5.trans x6))
          have hlen := ra.length
          refine ⟨xs, d1, ?_, W6, F6, _, acc ++ [y], xs ++ [v], ?_, x2.trans xx, upd_same, d2, d3, (ra.mono xx).append (.cons py .nil), by rw [List.length_append]; simp; omega, unb _, e6⟩
          · rw [sizeLine_eq]
            omega
          · have a := back r6
            have hD0' : j.e.H0 Dl = none := by
              cases z : j.e.H0 Dl with
              | none => rfl
              | some p => exact absurd hDl (r1.stay Dl (by rw [z]; simp))
            refine ⟨⟨fun b u h1 h2 => ?_, a.exF0, fun b u h => ?_, fun b h => ?_, a.fresh, a.new, fun b h => ?_, a.tupsU hD0', a.tuprU hD0', nofU a.nof flat_lst fun _ _ h => h⟩, a.len, fun i d h1 h2 => ?_, a.pin⟩
            · have : b ≠ Dl := fun z => by
                subst z
                have := r1.stay b (by rw [h2]; simp)
                exact this hDl
              rw [upd_ne this]
              exact a.pres b u h1 h2
            · have : b ≠ Dl := fun z => by
                subst z
                rw [d2] at h
                cases h
              rw [upd_ne this]
              exact a.exF b u h
            · have : b ≠ Dl := fun z => h (by rw [z]; exact d3)
              rw [upd_ne this]
              exact a.sep b h
            · by_cases z : b = Dl
              · rw [z, upd_same]
                simp
              · rw [upd_ne z]
                exact a.stay b h
            · obtain ⟨v, h3, h4⟩ := a.slot i d h1 h2
              refine ⟨v, h3, h4.tr (Ex.refl _) fun b q z => ⟨z, fun u y => ?_⟩⟩
              have : b ≠ Dl := fun w => by
                rw [w, d3] at z
                cases z
              rw [upd_ne this]
              exact y
    · -- the end
      refine .inl ⟨(p1 i F2 H x2 r2.exF).2 (by omega), ?_⟩
      rw [List.drop_eq_nil_of_le (by omega)] at e2
      have e2 : R.ok acc env2 = R.ok acc0 env0 := e2
      injection e2 with e3 e4
      subst e3 e4
      -- the slots as they stood
      have a : Rel (mo X) j.e W2 F2 H (backD env1 env2 vs) σ := {
        toRelB := r2.toRelB
        len := by rw [backD_len, r2.len, wl]
        slot := fun i d h1 h2 => by
          rcases backD_get h1 h2 with ⟨h3, h4⟩ | ⟨h3, h4, h5⟩
          · obtain ⟨v, h6, h7⟩ := r2.slot i d h4 h2
            exact ⟨v, by rw [← wg i h3]; exact h6, h7⟩
          · obtain ⟨v, h6, h7⟩ := r1.slot i d h4 h2
            exact ⟨v, h6, .fz ((h7.rp h5).mono x2)⟩
        pin := r1.pin }
      have hD0 : j.e.H0 Dl = none := by
        cases z : j.e.H0 Dl with
        | none => rfl
        | some p => exact absurd hDl (r1.stay Dl (by rw [z]; simp))
      have own2 : ∀ {l : List D} {xs : List V} {W' : Own} {k : Nat}, RpL (mo X) F2 l xs → OwL (mo X) W' F2 H [0] k l xs := by
        intro l
        induction l with
        | nil => intro xs W' k h; cases h; exact .nil
        | cons d l ih => intro xs W' k h; cases h with
          | cons h q => exact .cons (.fz h) (ih q)
      have old : ∀ b, b ≠ Dl → newW W2 Dl b ≠ none → W2 b ≠ none := fun b hb h z => h (by
        unfold newW
        rw [if_neg hb, z]
        rfl)
      refine q1 (newW W2 Dl) F2 H (.ref Dl) ⟨⟨a.pres, a.exF0, a.exF, fun b h => ?_, fun b c q h => ?_, a.new, a.stay, a.tups, a.tupr, fun b h => (by
        by_cases z : b = Dl
        · rw [z]; exact FlatT.not hD flat_lst
        · exact a.nof b (old b z h))⟩, a.len, fun k d' h1 h2 => ?_, a.pin⟩ x2 (.ml (by unfold newW; rw [if_pos rfl]) hD (own2 ra))
      · by_cases z : b = Dl
        · subst z
          exact ⟨hF, .inr hD0, by rw [hD]; simp⟩
        · exact a.sep b (old b z h)
      · unfold newW at h
        split at h
        · rename_i z
          subst z
          exact .inl hD0
        · split at h
          · cases h
          · exact a.fresh b c q h
      · obtain ⟨v', h5, h6⟩ := a.slot k d' h1 h2
        refine ⟨v', h5, h6.tr (Ex.refl F2) fun b q' z => ⟨?_, fun _ y => y⟩⟩
        have : b ≠ Dl := fun w => by
          rw [w, hW] at z
          cases z
        unfold newW
        rw [if_neg this, if_neg]
        · exact z
        · intro w
          obtain ⟨q2, h7⟩ := rootIs_iff.mp w
          rw [z] at h7
          injection h7 with h7
          injection h7 with h8 _
          omega
theorem o_lc (hc : X.calm = true) (hN : X.N.Nodup) (hp : ∀ i ∈ own.map (·.2), j.e.P i = none) (hss : ∀ i ∈ ss, i ∈ own.map (·.2)) (hi : DI X j tg iter di) (ok : BlkOk X.N X.env.scope scope own)
    (hg : ∀ (s : Shared) (H : Hp) (C : Addr) (cl : List (Str × Addr)) (fp : List Addr) (eb : Ent), (∀ i ∈ own.map (·.2), eb.P i = none) → DGw (X.blk s H scope (compEnvC scope cl C X.env) fp) ⟨eb, noX⟩ tg ss g)
    (ht : ∀ (s : Shared) (H : Hp) (C : Addr) (cl : List (Str × Addr)) (fp : List Addr) (eb : Ent), (∀ i ∈ own.map (·.2), eb.P i = none) → DTs (X.blk s H scope (compEnvC scope cl C X.env) fp) ⟨eb, noX⟩ ifs dt)
    (he : ∀ (s : Shared) (H : Hp) (C : Addr) (cl : List (Str × Addr)) (fp : List Addr) (eb : Ent), (∀ i ∈ own.map (·.2), eb.P i = none) → DE (X.blk s H scope (compEnvC scope cl C X.env) fp) ⟨eb, noX⟩ elt de)
    (hs : ∀ x, foldedSetIterable iter X.env x = pure x := by intro _; rfl) : DO X j (.ListComp elt [⟨tg, iter, ifs, 0⟩] scope pos) (lcD di g dt de (own.map (·.2))) :=
  PE.mono (pe_lc (g := lcG (mo X) (own.map (·.2)) ss g) (tt := lcT (mo X) (own.map (·.2)) dt) (te := lcE (mo X) (own.map (·.2)) de) hc hN hi ok
    (fun s H C cl fp => ⟨fun pins s' σ H' v u Q I r ⟨eb, h1, h2⟩ => (hg s H C cl fp eb h1).run pins s' σ H' v u Q I r h2⟩)
    (fun s H C cl fp => ⟨fun pins s' σ H' Q I ⟨eb, h1, h2⟩ => (ht s H C cl fp eb h1).run pins s' σ H' Q I h2⟩)
    (fun s H C cl fp => ⟨fun pins s' σ H' Q I ⟨eb, h1, h2⟩ => (he s H C cl fp eb h1).run pins s' σ H' Q I h2⟩) hs) fun σ H Q h => lc_red hp hss h
/-- .. what is made is frozen -/
theorem s_setLcF (i : Nat) {y : Str} {py spos : Pos} (hc : X.calm = true) (hN : X.N.Nodup) (hpi : j.e.P i = none) (hp : ∀ i ∈ own.map (·.2), j.e.P i = none) (hss : ∀ i ∈ ss, i ∈ own.map (·.2)) (hi : DI X j tg iter di) (ok : BlkOk X.N X.env.scope scope own)
    (hg : ∀ (s : Shared) (H : Hp) (C : Addr) (cl : List (Str × Addr)) (fp : List Addr) (eb : Ent), (∀ i ∈ own.map (·.2), eb.P i = none) → DGw (X.blk s H scope (compEnvC scope cl C X.env) fp) ⟨eb, noX⟩ tg ss g)
    (ht : ∀ (s : Shared) (H : Hp) (C : Addr) (cl : List (Str × Addr)) (fp : List Addr) (eb : Ent), (∀ i ∈ own.map (·.2), eb.P i = none) → DTs (X.blk s H scope (compEnvC scope cl C X.env) fp) ⟨eb, noX⟩ ifs dt)
    (he : ∀ (s : Shared) (H : Hp) (C : Addr) (cl : List (Str × Addr)) (fp : List Addr) (eb : Ent), (∀ i ∈ own.map (·.2), eb.P i = none) → DE (X.blk s H scope (compEnvC scope cl C X.env) fp) ⟨eb, noX⟩ elt de)
    (hs : ∀ x, foldedSetIterable iter X.env x = pure x := by intro _; rfl) (hy : X.N[i]? = some y := by rfl) (hyl : X.env.scope.names.lookup y = some .local := by rfl) (hsw : swapsWith (.ListComp elt [⟨tg, iter, ifs, 0⟩] scope pos) (some (.Name y py)) spos.line X.env = pure true := by rfl) :
    DS X j (.Assign [.Name y py] (.ListComp elt [⟨tg, iter, ifs, 0⟩] scope pos) spos) (asgD i (frzD (lcD di g dt de (own.map (·.2))))) :=
  PS.mono (ps_setLc (g := lcG (mo X) (own.map (·.2)) ss g) (tt := lcT (mo X) (own.map (·.2)) dt) (te := lcE (mo X) (own.map (·.2)) de) hc hN hy hyl hsw hi ok
    (fun s H C cl fp => ⟨fun pins s' σ H' v u Q I r ⟨eb, h1, h2⟩ => (hg s H C cl fp eb h1).run pins s' σ H' v u Q I r h2⟩)
    (fun s H C cl fp => ⟨fun pins s' σ H' Q I ⟨eb, h1, h2⟩ => (ht s H C cl fp eb h1).run pins s' σ H' Q I h2⟩)
    (fun s H C cl fp => ⟨fun pins s' σ H' Q I ⟨eb, h1, h2⟩ => (he s H C cl fp eb h1).run pins s' σ H' Q I h2⟩) hs) fun Dn σ H ⟨W, F, env, rel, q⟩ => lc_red hp hss ⟨W, F, env, rel, by
    unfold asgD frzD at q
    cases o : lcD di g dt de (own.map (·.2)) env with
    | ok d env1 =>
      rw [o] at q
      exact fun W' F' H' v r x p => q _ _ H' _ ((r.freeze0).set (Ow.froze r.toRelB p) hpi) (x.trans (frzF_ex r.toRelB 0))
    | ex c fs env1 =>
      rw [o] at q
      exact fun W' F' H' cls dd r x y => q W' F' H' σ cls dd r x y
    | bad =>
      rw [o] at q
      exact q⟩
end
end DL
namespace DL
open PySem PySem.Spec PyProof.Rows L2
/-- one with fields: its __init__ stands at fI -/
structure XKf (M : Mo) (c : Str) (C fI : Addr) : Prop where
  g : M.mg c = some (.ref C)
  ox : OexC M.K C
  ini : PySem.W.findIn M.K (.ref C) "__init__" = some (some (.ref fI))
  tyi : PySem.W.typeIn M.K (.ref fI) = some (.type "function")
  no : ∀ f ∈ eflds c, PySem.W.findIn M.K (.ref C) f = some none
def raiseD (c : Str) (da : List D → R (List D)) : List D → O := fun env => bindS (da env) fun fs env1 => .ex c fs env1
section
variable {X : Cx} {j : J}
/-- self.f1 = a1; self.f2 = a2 .. of a new exception -/
def putX (C a : Addr) (fs : List (Str × V)) (H : Hp) (Q : Hp → Prop) : Prop := ∀ d, H d = none → d ≠ a → Q (upd (upd H d (exd d fs)) a (exo a C (some d)))
def spX (K : PySem.W.Frag) (C : Addr) (fl : List Str) : Sp := fun vs H Q E => ∃ a ws, vs = .ref a :: ws ∧ ws.length = fl.length ∧ OexC K C ∧ (∀ f ∈ fl, PySem.W.findIn K (.ref C) f = some none) ∧ H a = some (exo a C none) ∧ putX C a (fl.zip ws).reverse H (Q .non)
section
variable {P : Program} {w : World} {K : PySem.W.Frag} {mg : Str → Option Value} {base : Heap}
end
theorem s_raise {x : Str} {C fI : Addr} {p pos pos' : Pos} {e : Expr} {es : List Expr} {fd : FuncData} {ps : List Str} {dl : List D → R (List D)} (hc : X.calm = true) (tk : Takes X j.wx) (T : XKf (mo X) x C fI) (F1 : FnOk X.prog X.w X.K X.mg X.base CX0 1 fI fd ps (spX X.K C (eflds x)))
    (hr : Room 2 X.A) (hb : Binds X.K fd ps []) (ha : DL X j (e :: es) dl) (hlen : ∀ env fs env1, dl env = .ok fs env1 → fs.length = (eflds x).length) (hg : Gl X x := by rfl) (hdb : (x == ("__debug__" : Str)) = false := by decide)
    (he : starEach (e :: es) X.env = (false, eval e X.env) :: starEach es X.env := by rfl) (hpl : (backTo pos (starEach es X.env)).any (·.1) = false := by rfl) (hsm : (eflds x).length ≤ 1000 := by decide) (hne : eflds x ≠ [] := by decide) :
    DS X j (.Raise (some (.Call (.Name x p) (e :: es) [] pos)) none pos') (raiseD x dl) :=
  PS.mono (ps_raise hc tk (pmk_oex T.ox T.ini T.tyi F1 hr hb .nil pass0 hg T.g ha hdb he hpl)) fun Dn σ H ⟨W, F, env, rel, q⟩ => ⟨W, F, env, rel, AtS.bind q fun fs env1 W1 F1 H1 vs o r1 x1 p1 q1 => by
    have hl := hlen _ _ _ o
    have hv : vs.length = (eflds x).length := by rw [← p1.length]; exact hl
    refine ⟨by rw [hv]; exact hsm, fun a na => ?_⟩
    refine ⟨a, vs, by rw [List.append_nil], hv, T.ox, T.no, upd_same, fun d nd hd => ?_⟩
    have nd1 : H1 d = none := by
      rw [upd_ne hd] at nd
      exact nd
    refine ⟨rfl, d, ((eflds x).zip vs).reverse, upd_same, ?_, nd1, ?_⟩
    · rw [upd_ne hd, upd_same]
    · have eH : upd (del (upd (upd (upd H1 a (exo a C none)) d (exd d ((eflds x).zip vs).reverse)) a (exo a C (some d))) a) d (.xd ((eflds x).zip vs).reverse) = upd H1 d (.xd ((eflds x).zip vs).reverse) := by
        funext b
        by_cases hb : b = d
        · subst hb
          rw [upd_same, upd_same]
        · rw [upd_ne hb, upd_ne hb]
          by_cases hba : b = a
          · subst hba
            rw [del_same]
            exact na.symm
          · rw [del_ne hba, upd_ne hba, upd_ne hb, upd_ne hba]
      rw [eH]
      have g := Grow.one (o := .xd ((eflds x).zip vs).reverse) r1.exF nd1
      refine q1 W1 _ _ σ (.ref C) (some d) (r1.grow g) g.exF ⟨C, rfl, T.g, .inr ⟨d, _, hne, rfl, upd_same, ?_, ?_⟩⟩
      · rw [List.map_reverse, List.map_fst_zip (by omega)]
      · rw [List.map_reverse, List.map_snd_zip (by omega)]
        have rv : ∀ {l : List D} {xs : List V}, RpL (mo X) F1 l xs → RpL (mo X) (upd F1 d (.xd ((eflds x).zip vs).reverse)) l.reverse xs.reverse := by
          intro l
          induction l with
          | nil => intro xs h; cases h; exact .nil
          | cons z l ih => intro xs h; cases h with
            | cons h1 h2 =>
              rw [List.reverse_cons, List.reverse_cons]
              exact (ih h2).append (.cons (h1.mono g.exF) .nil)
        exact rv p1⟩
end
/-- nothing is raised in a suite -/
def noEx (o : O) : O := match o with
  | .ex _ _ _ => .bad
  | r => r
/-- the entry of a suite: what is pinned -/
def suiteP (as : List Nat) (P : Nat → Option V) (env : List D) (σ : L2.St) : Nat → Option V := fun i => if i ∈ as then none else match P i with
  | some v => some v
  | none => if isOwn (env.getD i .unb) = true then match σ[i]? with
    | some o => o
    | none => none
  else none
section
variable {X : Cx} {j : J}
theorem takes_noX : Takes X noX := fun u s' x => by
  obtain ⟨_, _, _, _, _, _, _, _, _, _, _, _, _, _, _, _, z⟩ := x
  exact z.elim
end
end DL
namespace DL
open PySem PySem.Spec PyProof.Rows L2
def tyD : D → Option String
  | .non => some "NoneType"
  | .bl _ => some "bool"
  | .int _ => some "int"
  | .str _ => some "str"
  | .tup _ => some "tuple"
  | .lst _ => some "list"
  | _ => none
theorem Rp.ty {M : Mo} {F H : Hp} {d : D} {v : V} (x : Ex F H) (h : Rp M F d v) {t : String} (e : tyD d = some t) : TyX M.K H v (.type t) ∧ t ∈ tyNames := by
  cases h with
  | non => cases e; exact ⟨.base .non, by decide⟩
  | bl b => cases e; exact ⟨.base (.bl b), by decide⟩
  | int i => cases e; exact ⟨.base (.int i), by decide⟩
  | str s => cases e; exact ⟨.base (.str s), by decide⟩
  | tup h q =>
    cases e
    refine ⟨?_, by decide⟩
    exact .base (.tup (x _ _ h))
  | ctp h q => cases e
  | lst h q =>
    cases e
    refine ⟨?_, by decide⟩
    rcases h with (h | ⟨o, h⟩) | h
    · exact .base (.lst (x _ _ h))
    · exact .base (.frz (x _ _ h))
    · obtain ⟨_, _, _, h2, h1, _⟩ := h
      exact .kList h2 h1
  | ins _ _ _ _ => cases e
  | dic _ _ _ => cases e
  | dct _ _ _ => cases e
  | dcl _ _ _ => cases e
section
variable {X : Cx} {j : J} {a b c e : Expr} {es : List Expr} {pos p q : Pos} {da db : List D → R D}
theorem RaL.append {M : Mo} {σ : L2.St} {F : Hp} : ∀ {as bs : List Ar} {vs ws : List V}, RaL M σ F as vs → RaL M σ F bs ws → RaL M σ F (as ++ bs) (vs ++ ws)
  | [], _, _, _, h, k => by
    cases (show _ = _ from h)
    exact k
  | .v d :: as, _, _, _, ⟨v, r, e, p, q⟩, k => by
    subst e
    exact ⟨v, _, rfl, p, RaL.append q k⟩
  | .io i :: as, _, _, _, ⟨v, r, e, p, q⟩, k => by
    subst e
    exact ⟨v, _, rfl, p, RaL.append q k⟩
theorem RaL.get {M : Mo} {σ : L2.St} {F : Hp} : ∀ {as : List Ar} {vs : List V} (i : Nat), RaL M σ F as vs → (as[i]? = none ∧ vs[i]? = none) ∨ ∃ x v, as[i]? = some x ∧ vs[i]? = some v ∧ RaL M σ F [x] [v]
  | [], vs, i, h => by
    cases (show vs = [] from h)
    exact .inl ⟨by simp, by simp⟩
  | .v d :: as, vs, i, ⟨v, r, e, p, q⟩ => by
    subst e
    cases i with
    | zero => exact .inr ⟨_, _, rfl, rfl, v, [], rfl, p, rfl⟩
    | succ i => simpa using RaL.get i q
  | .io k :: as, vs, i, ⟨v, r, e, p, q⟩ => by
    subst e
    cases i with
    | zero => exact .inr ⟨_, _, rfl, rfl, v, [], rfl, p, rfl⟩
    | succ i => simpa using RaL.get i q
theorem Vals.get {vs : List V} {us : List Value} (h : Vals vs us) (i : Nat) : (vs[i]? = none ∧ us[i]? = none) ∨ ∃ v u, vs[i]? = some v ∧ us[i]? = some u ∧ RelV v u := by
  induction h generalizing i with
  | nil => exact .inl ⟨by simp, by simp⟩
  | cons r t ih =>
    cases i with
    | zero => exact .inr ⟨_, _, rfl, rfl, r⟩
    | succ i => simpa using ih i
variable {k n : Nat} {f : Addr} {fd : FuncData} {ps ks : List Str} {io g : List Nat} {den : List D → FR} {kws : List Keyword} {dA dK : List D → R (List Ar)}
section
variable {CX : CXT} {E : L2.St → XK} {sp : Sp} {gg : List Value → List Value → List Value} {gV : List V → List V → List V}
variable {x : Str} {t tk : TA}
end
end
end DL
namespace DL
open PySem PySem.Spec PyProof.Rows L2
/-- slot i holds something of which nothing is told -/
theorem Rel.putX {M : Mo} {e : Ent} {W : Own} {F H : Hp} {env : List D} {σ : L2.St} {i : Nat} (r : Rel M e W F H env σ) (w : Option V) (hp : e.P i = none) : Rel M e W F H (env.set i .unb) (σ.set i w) where
  toRelB := r.toRelB
  len := by rw [List.length_set, List.length_set, r.len]
  slot := fun k d h1 h2 => by
    by_cases h : i = k
    · subst h
      rw [List.getElem?_set] at h1
      rw [if_pos rfl] at h1
      split at h1
      · exact absurd (Option.some.inj h1).symm h2
      · cases h1
    · rw [List.getElem?_set_ne h] at h1
      rw [List.getElem?_set_ne h]
      exact r.slot k d h1 h2
  pin := fun k v h => by
    rw [List.getElem?_set_ne (fun z => by rw [z, h] at hp; cases hp)]
    exact r.pin k v h
def goneO (i : Nat) : O → O
  | .nx e2 => .nx (e2.set i .unb)
  | .bk e2 => .bk (e2.set i .unb)
  | .ct e2 => .ct (e2.set i .unb)
  | r => r
def tryAsD (i : Nat) (mt : Str → Option Bool) (as : List Nat) (db : List D → O) (ds : Str → List D → List D → O) : List D → O := fun env => match db env with
  | .ex c fs env1 => match mt c with
    | some true => if (as.all (fun i => !ownd (env1.getD i .unb)) && decide (i < env1.length)) = true then goneO i (noEx (ds c fs (env1.set i .unb))) else .bad
    | some false => .ex c fs env1
    | none => .bad
  | r => r
/-- what a suite may know of the caught thing -/
structure Caught (X : Cx) (es : Ent) (i : Nat) (a : Addr) (oe : Obj) (cn : Str) (fs : List D) (cls : Value) (d : Option Addr) : Prop where
  zc : Zc cls d oe
  fl : ∃ vs, oe.data = .fields vs
  pin : es.P i = some (.ref a)
  xr : XR (mo X) es.F0 cn fs cls d
section
variable {X : Cx} {j : J}
theorem s_try_as (i : Nat) {n x : Str} {c : Value} {body suite : List Stmt} {b0 : Stmt} {np pos pos' : Pos} {mt : Str → Option Bool} {as : List Nat} {db : List D → O} {ds : Str → List D → List D → O} (hs : X.stack = X.env :: X.outer) (hf : X.env.frame = some X.env.locals) (hN : X.N.Nodup) (hc : Names X x c)
    (tk : Takes X j.wx) (hpin : ∀ k ∈ i :: as, j.e.P k = none) (hm : ∀ cn C b, X.mg cn = some (.ref C) → mt cn = some b → PySem.W.exmOne X.K (.ref C) c = some b)
    (hb : ∀ (W : WX) (pn : List (Addr × Obj)) (xe : Value → Shared → Prop), Takes (X.tr pn xe) W → PassesOwn (model X.prog X.w) X.A X.env xe → DSs (X.tr pn xe) ⟨j.e, W⟩ body db)
    (hsu : ∀ (a : Addr) (oe : Obj) (cls : Value) (d : Option Addr) (pn : List (Addr × Obj)) (es : Ent) (cn : Str) (fs : List D), Caught X es i a oe cn fs cls d → (∀ k ∈ as, es.P k = none) → mt cn = some true →
      DSs (X.suite a ((a, oe) :: pn)) ⟨es, noX⟩ (b0 :: suite) (ds cn fs)) (hi : X.N[i]? = some n := by rfl) (hln : X.env.kindOf n = some .local := by rfl) (hia : i ∉ as := by decide) :
    DS X j (.Try body [.ExceptHandler (some (.Name x np)) (some n) (b0 :: suite) pos'] [] [] pos) (tryAsD i mt as db ds) := by
  refine PS.mono (ps_try_as (tb := fun W => tS (mo X) ⟨j.e, W⟩ db) (ts := fun a cls d Dn σ H => ∃ (es : Ent) (cn : Str) (fs : List D), es.P i = some (.ref a) ∧ (∀ k ∈ as, es.P k = none) ∧ mt cn = some true ∧ XR (mo X) es.F0 cn fs cls d ∧ tS (mo X) ⟨es, noX⟩ (ds cn fs) Dn σ H) hs hf hN hi hln hc tk hb
    (fun a oe cls d pn hz hf => ⟨fun pins s σ H Dn I ⟨es, cn, fs, h0, h1, h2, h3, h4⟩ => (hsu a oe cls d pn es cn fs ⟨hz, hf, h0, h3⟩ h1 h2).run pins s σ H Dn I h4⟩)) fun Dn σ H ⟨W, F, env, rel, q⟩ => ⟨W, F, env, rel, ?_⟩
  have q : AtS (mo X) j F (tryAsD i mt as db ds env) Dn := q
  unfold tryAsD at q
  have hpi : j.e.P i = none := hpin i List.mem_cons_self
  have hpa : ∀ k ∈ as, j.e.P k = none := fun k hk => hpin k (List.mem_cons_of_mem _ hk)
  cases o : db env with
  | nx e1 => rw [o] at q; exact q
  | rt d e1 => rw [o] at q; exact q
  | bk e1 => rw [o] at q; exact q
  | ct e1 => rw [o] at q; exact q
  | bad => rw [o] at q; exact q
  | ex cn fs env1 =>
    rw [o] at q
    intro W' F' H' σ' cls dd r xF xr
    obtain ⟨C, rfl, hC, hx⟩ := id xr
    simp only at q
    cases om : mt cn with
    | none => rw [om] at q; exact q.elim
    | some b =>
      rw [om] at q
      refine ⟨b, hm cn C b hC om, fun hb1 a na => ?_, fun hb1 => ?_⟩
      · subst hb1
        simp only at q
        by_cases ha : (as.all (fun i => !ownd (env1.getD i .unb)) && decide (i < env1.length)) = true
        · rw [if_pos ha] at q
          obtain ⟨ha, hlt⟩ := Bool.and_eq_true_iff.mp ha
          have hlt := of_decide_eq_true hlt
          have r1 : Rel (mo X) j.e W' F' H' (env1.set i .unb) (σ'.set i (some (.ref a))) := r.putX (some (.ref a)) hpi
          have hsi : (σ'.set i (some (V.ref a)))[i]? = some (some (.ref a)) := List.getElem?_set_self (by rw [← r.len]; exact hlt)
          generalize hσ : σ'.set i (some (V.ref a)) = σ1 at r1 hsi ⊢
          generalize henv : env1.set i D.unb = env2 at r1 q ⊢
          let pb : Nat → Option V := fun k => if k = i then some (.ref a) else suiteP as j.e.P env2 σ1 k
          have pbi : pb i = some (.ref a) := if_pos rfl
          have pbn : ∀ k, k ≠ i → pb k = suiteP as j.e.P env2 σ1 k := fun k h => if_neg h
          have pb1 : ∀ k v, pb k = some v → σ1[k]? = some (some v) := fun k v h => by
            by_cases hk : k = i
            · subst hk
              rw [pbi] at h
              rw [← h]
              exact hsi
            · rw [pbn k hk] at h
              unfold suiteP at h
              by_cases hi : k ∈ as
              · rw [if_pos hi] at h
                cases h
              · rw [if_neg hi] at h
                cases z : j.e.P k with
                | some v' =>
                  rw [z] at h
                  cases h
                  exact r1.pin k v z
                | none =>
                  rw [z] at h
                  simp only at h
                  split at h
                  · cases y : σ1[k]? with
                    | none => rw [y] at h; cases h
                    | some o => rw [y] at h; exact congrArg some h
                  · cases h
          have own2 : ∀ k d, env2[k]? = some d → d ≠ .unb → k ≠ i ∧ env1[k]? = some d := fun k d h1 h2 => by
            rw [← henv] at h1
            by_cases hk : i = k
            · subst hk
              rw [List.getElem?_set_self hlt] at h1
              exact absurd (Option.some.inj h1).symm h2
            · rw [List.getElem?_set_ne hk] at h1
              exact ⟨fun z => hk z.symm, h1⟩
          have rB := r1.inB (pb := pb) pb1 fun k d h1 h2 h3 z => by
            obtain ⟨hk, h1'⟩ := own2 k d h1 h3
            have hd : env1.getD k .unb = d := by rw [List.getD_eq_getElem?_getD, h1']; rfl
            have hd2 : env2.getD k .unb = d := by rw [List.getD_eq_getElem?_getD, h1]; rfl
            have hna : k ∉ as := fun hi => by
              have := List.all_eq_true.mp ha k hi
              rw [hd] at this
              cases d with
              | ml l => exact absurd this (by unfold ownd; simp)
              | mi c l => exact absurd this (by unfold ownd; simp)
              | md c l => exact absurd this (by unfold ownd; simp)
              | mt l => exact absurd this (by unfold ownd; simp)
              | mdt c l => exact absurd this (by unfold ownd; simp)
              | unb => exact h3 rfl
              | _ => exact absurd h2 (by unfold isOwn; simp)
            obtain ⟨v, h4, _⟩ := r1.slot k d h1 h3
            rw [pbn k hk] at z
            unfold suiteP at z
            rw [if_neg hna] at z
            cases y : j.e.P k with
            | some v' => rw [y] at z; cases z
            | none =>
              rw [y, hd2] at z
              simp only at z
              rw [if_pos h2, h4] at z
              cases z
          refine ⟨_, cn, fs, pbi, fun k hk => ?_, om, xr, _, F', env2, rB, ?_⟩
          · show pb k = none
            rw [pbn k (fun z => hia (z ▸ hk))]
            exact if_pos hk
          · have back : ∀ {W2 F2 H2 env3 σ2}, Rel (mo X) ⟨H', F', blkW pb W', pb⟩ W2 F2 H2 env3 σ2 → Rel (mo X) j.e W2 F2 H2 env3 σ2 := fun r2 => Rel.outB r1.toRelB r2 fun k v h => by
              have hk : k ≠ i := fun z => by
                rw [z, hpi] at h
                cases h
              rw [pbn k hk]
              unfold suiteP
              rw [if_neg (fun hi => by rw [hpa k hi] at h; cases h), h]
            cases os : ds cn fs env2 with
            | nx e2 => rw [os] at q; exact fun W2 F2 H2 σ2 r2 x2 => q W2 F2 H2 _ ((back r2).putX none hpi) (xF.trans x2)
            | rt d e2 => rw [os] at q; exact fun W2 F2 H2 σ2 v r2 p2 => q W2 F2 H2 σ2 v (back r2) p2
            | bk e2 => rw [os] at q; exact fun W2 F2 H2 σ2 r2 x2 => q W2 F2 H2 _ ((back r2).putX none hpi) (xF.trans x2)
            | ct e2 => rw [os] at q; exact fun W2 F2 H2 σ2 r2 x2 => q W2 F2 H2 _ ((back r2).putX none hpi) (xF.trans x2)
            | ex c2 f2 e2 => rw [os] at q; exact q.elim
            | bad => rw [os] at q; exact q
        · rw [if_neg ha] at q
          exact q.elim
      · subst hb1
        exact q W' F' H' σ' (.ref C) dd r xF xr
end
end DL
namespace DL
open PySem PySem.Spec PyProof.Rows L2
/-- THE RULE of a def that the head tells of -/
theorem fn_denD {P : Program} {w : World} {K : PySem.W.Frag} {mg : Str → Option Value} {base : Heap} {x qual : Str} {params : Arguments} {body : List Stmt} {scope : Scope} {dvs : List V} {kws : List (Str × V)} {f : Addr} {fd : FuncData} {N ps : List Str} {k : Nat} {io : List Nat} {den : List D → O}
    (F : FunD K x qual params body scope dvs kws f fd) (S : FnScope N ps scope) (hio : ∀ i ∈ io, i < ps.length)
    (hbody : ∀ (cdv : Value) (A : Around) (outer : List Env) (s : Shared) (H : Hp) (E : XK) (j : J), Room k (A.deeper (envOfC qual scope s.heap.objs.size f cdv)) →
      Wf (cxOf (L2.CX P w) P w K mg base N qual scope f cdv A outer s H E) j io → DSs (cxOf (L2.CX P w) P w K mg base N qual scope f cdv A outer s H E) j body den) :
    FnOk P w K mg base (L2.CX P w) (k + 1) f fd ps (spD ⟨K, mg⟩ ps.length io (runD N.length io den)) := by
  refine F.ok S (fun vs H Q E h => ?_) (fun cdv A outer s H vs Q E hr h => ?_)
  · obtain ⟨_, _, _, h, _⟩ := h
    exact h
  · obtain ⟨W, F, ds, hv, hl, rb, sl, q⟩ := h
    have hN : ps.length ≤ N.length := by
      have := congrArg List.length S.pre
      rw [List.length_take] at this
      omega
    have hio' : ∀ i ∈ io, i < vs.length := fun i h => by
      rw [hv]
      exact hio i h
    refine ⟨_, hbody cdv A outer s H E ⟨⟨H, F, W, pinOf io vs⟩, fun cls dd _ H' => E cls dd H'⟩ hr ⟨S.nd, rfl, takes_of rfl rfl rfl rfl, passes_of rfl, fun i hi => if_neg hi⟩, W, F, ds ++ List.replicate (N.length - ds.length) .unb, ⟨rb, ?_, fun i d h1 h2 => ?_, fun i v h1 => ?_⟩, ?_⟩
    · show (ds ++ _).length = (L2.start N vs).length
      unfold L2.start
      simp only [List.length_append, List.length_replicate, List.length_map, hl, hv]
    · unfold L2.start
      by_cases hi : i < ds.length
      · rw [List.getElem?_append_left hi] at h1
        obtain ⟨_, v, h3, h4⟩ := sl i d h1
        refine ⟨v, ?_, h4⟩
        rw [List.getElem?_append_left (by rw [List.length_map, hv, ← hl]; exact hi), List.getElem?_map, h3] <;> rfl
      · rw [List.getElem?_append_right (by omega), List.getElem?_replicate] at h1
        split at h1
        · exact absurd (Option.some.inj h1).symm h2
        · cases h1
    · have h1 : pinOf io vs i = some v := h1
      unfold pinOf at h1
      split at h1
      · have hi : i < vs.length := (List.getElem?_eq_some_iff.mp h1).1
        unfold L2.start
        rw [List.getElem?_append_left (by rw [List.length_map]; exact hi), List.getElem?_map, h1] <;> rfl
      · cases h1
    · unfold runD at q
      cases o : den (ds ++ List.replicate (N.length - ds.length) .unb) with
      | nx env =>
        rw [o] at q
        exact fun W' F' H' σ' r _ => q W' F' H' .non r.toRelB (.fz .non) (outs_rel r hio')
      | rt d env =>
        rw [o] at q
        exact fun W' F' H' σ' v r p => q W' F' H' v r.toRelB p (outs_rel r hio')
      | ex c fs env =>
        rw [o] at q
        exact fun W' F' H' σ' cls dd r _ p => q W' F' H' cls dd r.toRelB p (outs_rel r hio')
      | bk env => rw [o] at q; exact q.elim
      | ct env => rw [o] at q; exact q.elim
      | bad => rw [o] at q; exact q.elim
/-- what the head tells, and where the names lie -/
structure Ctx (fa : List He.Fa) (fn : List He.DefD) (ex : PySem.W.Frag → Bool) (K : PySem.W.Frag) (mg : Str → Option Value) : Prop where
  h : ∃ h : Heap, K.In h ∧ h.Ns mainGlobals mg
  d : He.SaysD fa fn K
  ex : ex K = true
section
variable {fa : List He.Fa} {fn : List He.DefD} {ex : PySem.W.Frag → Bool} {K : PySem.W.Frag} {mg : Str → Option Value} {P : Program} {w : World} {base : Heap}
theorem Ctx.glo (c : Ctx fa fn ex K mg) (i : Nat) {x : Str} (e : fa[i]? = some (.glo x) := by rfl) : mg x = some (.ref (He.ga K x)) := by
  obtain ⟨h, X, G⟩ := c.h
  exact He.glo_ok X G (c.d.fact i e)
theorem Ctx.free (c : Ctx fa fn ex K mg) (i : Nat) {x : Str} (e : fa[i]? = some (.free x) := by rfl) : mg x = none := by
  obtain ⟨h, X, G⟩ := c.h
  exact He.free_ok X G (c.d.fact i e)
theorem Ctx.int (c : Ctx fa fn ex K mg) (i : Nat) {x : Str} {n : Int} (e : fa[i]? = some (.int x n) := by rfl) : ∃ t, mg x = some (.int n t) := by
  obtain ⟨h, X, G⟩ := c.h
  exact He.int_ok X G (c.d.fact i e)
theorem Ctx.str (c : Ctx fa fn ex K mg) (i : Nat) {x n : Str} (e : fa[i]? = some (.str x n) := by rfl) : ∃ t, mg x = some (.str n t) := by
  obtain ⟨h, X, G⟩ := c.h
  exact He.str_ok X G (c.d.fact i e)
theorem Ctx.exm (c : Ctx fa fn ex K mg) (i : Nat) {x y : Str} {b : Bool} (e : fa[i]? = some (.exm x y b) := by rfl) : PySem.W.exmOne K (.ref (He.ga K x)) (.ref (He.ga K y)) = some b := He.exm_ok (c.d.fact i e)
end
/-- a def that is walked -/
structure Df (P : Program) (w : World) (K : PySem.W.Frag) (mg : Str → Option Value) (base : Heap) (d : He.DefD) (fd : FuncData) (ps : List Str) (io : List Nat) (g : List D → FR) (k : Nat) : Prop where
  fn : FunD K d.name d.qual d.params d.body d.scope (d.dvs K) (d.kws K) (He.fAd K d.at_) fd
  ok : FnOk P w K mg base (L2.CX P w) k (He.fAd K d.at_) fd ps (spD ⟨K, mg⟩ ps.length io g)
  lo : OutLen io g
section
variable {X : Cx} {j : J} {d : He.DefD} {fd : FuncData} {ps ks : List Str} {io g : List Nat} {G : List D → FR} {k m n N nk : Nat} {x : Str} {p pos : Pos} {e : Expr} {es : List Expr} {kws : List Keyword} {da dA dK : List D → R (List Ar)}
/-- f(..), f a def of the module -/
theorem o_fn (F : Df X.prog X.w X.K X.mg X.base d fd ps io G k) (hb : Binds X.K fd ps []) (hr : Room m X.A) (hm : X.mg x = some (.ref (He.fAd X.K d.at_))) (tk : Takes X j.wx) (ha : DAr X j (e :: es) da) (hn : ps.length = n := by rfl) (hk : k ≤ m := by decide)
    (hg : Gl X x := by rfl) (hdb : (x == ("__debug__" : Str)) = false := by decide) (he : starEach (e :: es) X.env = (false, eval e X.env) :: starEach es X.env := by rfl) (hpl : (backTo pos (starEach es X.env)).any (·.1) = false := by rfl) :
    DO X j (.Call (.Name x p) (e :: es) [] pos) (callO n io G da) := hn ▸ o_call F.ok (hr.mono hk) hm F.fn.kp hb tk F.lo ha hg hdb he hpl
end
end DL
namespace DL
open PySem PySem.Spec PyProof.Rows L2
def lstO (dl : List D → R (List D)) : List D → R D := fun env => bindR (dl env) fun xs env1 => if xs.length ≤ 1000 then .ok (.ml xs) env1 else .bad
theorem o_lstO {X : Cx} {j : J} {es : List Expr} {pos : Pos} {dl : List D → R (List D)} (h : DL X j es dl) : DO X j (.List es pos) (lstO dl) := o_lst h
/-- the classes that a clause takes, those that it leaves -/
def mtOf (l : List (Str × Bool)) (c : Str) : Option Bool := l.lookup c
inductive ExmAll (M : Mo) (c : Value) : List (Str × Bool) → Prop
  | nil : ExmAll M c []
  | cons {x : Str} {b : Bool} {C : Addr} {r : List (Str × Bool)} : M.mg x = some (.ref C) → PySem.W.exmOne M.K (.ref C) c = some b → ExmAll M c r → ExmAll M c ((x, b) :: r)
theorem mtOf_ok {M : Mo} {c : Value} {l : List (Str × Bool)} (h : ExmAll M c l) : ∀ cn C b, M.mg cn = some (.ref C) → mtOf l cn = some b → PySem.W.exmOne M.K (.ref C) c = some b := by
  induction h with
  | nil => intro _ _ _ _ e; cases e
  | @cons x b0 C0 r h1 h2 h3 ih =>
    intro cn C b hm e
    unfold mtOf at e
    rw [List.lookup_cons] at e
    split at e
    · rename_i hq
      have hq := eq_of_beq hq
      subst hq
      rw [h1] at hm
      cases hm
      cases e
      exact h2
    · exact ih cn C b hm e
def takesOf (l : List (Str × Bool)) : List Str := (l.filter (·.2)).map (·.1)
theorem mtOf_mem {l : List (Str × Bool)} {cn : Str} (h : mtOf l cn = some true) : cn ∈ takesOf l := by
  unfold mtOf at h
  unfold takesOf
  induction l with
  | nil => cases h
  | cons q r ih =>
    rw [List.lookup_cons] at h
    split at h
    · rename_i hq
      have hq := eq_of_beq hq
      cases h1 : q.2 with
      | true => rw [List.filter_cons, if_pos h1, hq]; exact List.mem_cons_self
      | false => rw [h1] at h; cases h
    · have := ih h
      rw [List.filter_cons]
      split
      · exact List.mem_cons_of_mem _ this
      · exact this
end DL
namespace DL
open PySem PySem.Spec PyProof.Rows L2
theorem FunD.uniq {K : PySem.W.Frag} {x qual : Str} {params : Arguments} {body : List Stmt} {scope : Scope} {dvs : List V} {kws : List (Str × V)} {f : Addr} {fd fd' : FuncData} (F : FunD K x qual params body scope dvs kws f fd) (F' : FunD K x qual params body scope dvs kws f fd') : fd' = fd := by
  obtain ⟨_, _, _, _, _, _, _, _, _, _, _, l1, _⟩ := F.ex
  obtain ⟨_, _, _, _, _, _, _, _, _, _, _, l2, _⟩ := F'.ex
  rw [l1] at l2
  injection l2 with l2
  injection l2 with _ _ l2 _
  injection l2 with l2
  exact l2.symm
theorem law_spB {K : PySem.W.Frag} {mg : Str → Option Value} {g : List D → FR} {H : Hp} {a : Addr} {ns : List Int} (hg : ∃ outs, g [.lst (ns.map D.int)] = .ret (.bl true) outs) (hS : SqL K H a (ns.map V.int)) :
    spD ⟨K, mg⟩ 1 [] g [.ref a] H (fun v _ => v = .bl true) fun _ _ _ => False := by
  obtain ⟨outs, e⟩ := hg
  refine ⟨fun _ => none, H, [.lst (ns.map D.int)], rfl, rfl, ⟨fun b o _ h => h, Ex.refl H, Ex.refl H, fun a h => absurd rfl h, fun a r q h => (by cases h), fun b h => .inl h, fun b h => h, fun _ _ _ h => h, fun _ _ _ h _ => h, fun a h => absurd rfl h⟩, fun i d h => ?_, ?_⟩
  · cases i with
    | zero =>
      cases h
      exact ⟨(by intro z; cases z), .ref a, rfl, .fz (.lst hS (RpL.ints ns))⟩
    | succ i => cases h
  · rw [e]
    intro W' F' H' v rb p _
    cases p with
    | fz p =>
      cases p
      rfl
theorem walk_end {l : PySem.W.OpenLaw} {k i : Nat} {q : Program} {loose : List Str} {XP : (Str → Option Value) → Heap → Prop} {fa : List He.Fa} {fn : List He.DefD} {ex : PySem.W.Frag → Bool} {m : Nat} {d : DefRec} {a : He.DefD} {g : List D → FR}
    (hn : l.most = some 63) (hdf : d.params.defaults = []) (hr : Room k callerA) (hname : d.name = ("law" : Str)) (hat : a.at_ = ((("law" : Str), none) : Str × Option Str)) (hdfl : a.dfl = [])
    (hb : ∀ (kV doc pm : Value) (an : Option Addr) (cdv ct : Value) (us : List Value), us.length = 1 → bindArgs (PySem.W.fnOf a.name a.qual a.params a.body a.scope .none kV doc pm an cdv ct) ⟨us, []⟩ = pure ((["script"] : List Str).zip us)) (hm : fa[i]? = some (.glo "law"))
    (ok : ∀ (w : World) (base : Heap) (K : PySem.W.Frag) (mg : Str → Option Value), Ctx fa fn ex K mg → ∃ fd, Df l.prog w K mg base a fd ["script"] [] g k)
    (hg : ∀ ns : List Int, ns.length ≤ 63 → (∀ z ∈ ns, Builtin.Int.intBits z ≤ 1048576) → ∃ outs, g [.lst (ns.map D.int)] = .ret (.bl true) outs) :
    PySem.W.WalkO q loose XP (He.hookX m fa fn [] [] ex).says l.row.toRowW d [] (fun f vs => PySem.call f vs) := by
  refine Att.attach_callB hn hdf fun w s₀ s₁ mg mb f0 o pm cd doc a0 vs ns G Y ho hd hcd hmg hobj hints hlen hbits hg0 => ?_
  obtain ⟨K, KX, Sx⟩ := Y
  have c : Ctx fa fn ex K mg := ⟨⟨_, KX, G.T.g⟩, Sx.t.d, Sx.more⟩
  obtain ⟨fd, D0⟩ := ok w s₁.heap K mg c
  have hf : f0 = He.fAd K a.at_ := by
    have e := c.glo i hm
    rw [hname] at hmg
    rw [hmg] at e
    injection e with e
    injection e with e
    rw [e, hat]
    rfl
  subst hf
  have F0 := D0.fn
  have hdv : He.DefD.dvs K a = [] := by
    unfold He.DefD.dvs
    rw [hdfl]
    rfl
  refine law_call (k := k) (x := "script") (CX := L2.CX l.prog w) (sp := spD ⟨K, mg⟩ 1 [] g) KX G.T.g G.T.b G.T.builtins G.T.nolimit hg0 hobj hints (Nat.le_trans hlen (by decide)) hr (fun base hB hG => ?_) (fun s u => ?_) (fun H hO hS => law_spB (hg ns hlen hbits) hS) (fun H e s' hc => ?_) (fd := fd)
  · obtain ⟨fd', D1⟩ := ok w base K mg c
    have e := FunD.uniq F0 D1.fn
    subst e
    exact D1.ok
  · rw [hdv] at F0
    exact FunD.bindsA (ps := ["script"]) F0 hb s [u] rfl
  · obtain ⟨_, _, _, _, _, _, _, _, _, _, _, _, hE⟩ := hc
    exact hE
end DL
namespace DL
open PySem PySem.Spec PyProof.Rows L2
@[simp] theorem fine_int (a : Int) : fine (.int a) = true := rfl
@[simp] theorem fine_bl (b : Bool) : fine (.bl b) = true := rfl
@[simp] theorem fine_non : fine .non = true := rfl
theorem eqb_of {x y : D} {p q : PyData} (h : x.py = some p) (k : y.py = some q) : x.eqb y = PyData.eqv p q := by
  unfold D.eqb
  rw [h, k]
@[simp] theorem eqb_int (a b : Int) : (D.int a).eqb (.int b) = decide (a = b) := by
  rw [eqb_of (p := .int a) (q := .int b) rfl rfl, PyData.eqv]
  exact Bool.eq_iff_iff.mpr (by simp)
@[simp] theorem eqb_bl (a b : Bool) : (D.bl a).eqb (.bl b) = decide (a = b) := by
  rw [eqb_of (p := .bool a) (q := .bool b) rfl rfl, PyData.eqv]
  cases a <;> cases b <;> rfl
@[simp] theorem fine_tup2 (a b : Int) : fine (.tup [.int a, .int b]) = true := rfl
@[simp] theorem eqb_tup2 (a b c d : Int) : (D.tup [.int a, .int b]).eqb (.tup [.int c, .int d]) = (decide (a = c) && decide (b = d)) := by
  rw [eqb_of (p := .tuple [.int a, .int b]) (q := .tuple [.int c, .int d]) rfl rfl]
  simp only [PyData.eqv, PyData.eqvAll, Bool.and_true]
  exact Bool.eq_iff_iff.mpr (by simp)
section
variable (env : List D) (i k n : Nat) (f : D → D → Option D) (g : D → Option D) (h : List D → Option D) (da db dc : List D → R D) (dt du : List D → R Bool) (dl dr : List D → R (List D)) (dA : List D → R (List Ar)) (sa sb : List D → O) (d : D)
@[simp] theorem constD_ap : constD d env = .ok d env := rfl
@[simp] theorem varD_ap : varD i env = if isOwn (env.getD i .unb) = true then .bad else .ok (env.getD i .unb) env := rfl
@[simp] theorem binD_ap : binD f da db env = bindR (da env) fun x env1 => bindR (db env1) fun y env2 => opR (f x y) env2 := rfl
@[simp] theorem unD_ap : unD g da env = bindR (da env) fun x env1 => opR (g x) env1 := rfl
@[simp] theorem nilD_ap : nilD env = .ok [] env := rfl
@[simp] theorem consD_ap : consD da dl env = bindR (da env) fun x env1 => bindR (dl env1) fun xs env2 => .ok (x :: xs) env2 := rfl
@[simp] theorem callBD_ap : callBD h dl env = bindR (dl env) fun xs env1 => opR (h xs) env1 := rfl
@[simp] theorem testD_ap : testD da env = bindR (da env) fun x env1 => match x with
  | .bl b => .ok b env1
  | _ => .bad := rfl
@[simp] theorem andD_ap : andD dt du env = bindR (dt env) fun b env1 => if b = true then du env1 else .ok false env1 := rfl
@[simp] theorem orD_ap : orD dt du env = bindR (dt env) fun b env1 => if b = true then .ok true env1 else du env1 := rfl
@[simp] theorem notD_ap : notD dt env = bindR (dt env) fun b env1 => .ok (!b) env1 := rfl
@[simp] theorem tupD_ap : tupD dl env = bindR (dl env) fun xs env1 => if xs.length ≤ 1000 then .ok (.tup xs) env1 else .bad := rfl
@[simp] theorem lstD_ap : lstD dl env = bindR (dl env) fun xs env1 => if xs.length ≤ 1000 then .ok (.lst xs) env1 else .bad := rfl
@[simp] theorem lstO_ap : lstO dl env = bindR (dl env) fun xs env1 => if xs.length ≤ 1000 then .ok (.ml xs) env1 else .bad := rfl
@[simp] theorem andV_ap : andV da db env = bindR (da env) fun x env1 => match x with
  | .bl true => db env1
  | .bl false => .ok (.bl false) env1
  | _ => .bad := rfl
@[simp] theorem orV_ap : orV da db env = bindR (da env) fun x env1 => match x with
  | .bl true => .ok (.bl true) env1
  | .bl false => db env1
  | _ => .bad := rfl
@[simp] theorem frzD_ap : frzD da env = bindR (da env) fun x env1 => .ok (frz x) env1 := rfl
@[simp] theorem frz_int (i : Int) : frz (.int i) = .int i := rfl
@[simp] theorem frz_bl (i : Bool) : frz (.bl i) = .bl i := rfl
@[simp] theorem frz_non : frz .non = .non := rfl
@[simp] theorem frz_str (i : Str) : frz (.str i) = .str i := rfl
@[simp] theorem frz_tup (l : List D) : frz (.tup l) = .tup l := rfl
@[simp] theorem frz_lst (l : List D) : frz (.lst l) = .lst l := rfl
@[simp] theorem frz_ml (l : List D) : frz (.ml l) = .lst (frzL l) := by rw [frz]
@[simp] theorem frzL_nil : frzL [] = [] := by rw [frzL]
@[simp] theorem frzL_cons (d : D) (l : List D) : frzL (d :: l) = frz d :: frzL l := by rw [frzL]
@[simp] theorem isOwn_int (i : Int) : isOwn (.int i) = false := rfl
@[simp] theorem isOwn_bl (i : Bool) : isOwn (.bl i) = false := rfl
@[simp] theorem isOwn_non : isOwn .non = false := rfl
@[simp] theorem isOwn_str (i : Str) : isOwn (.str i) = false := rfl
@[simp] theorem isOwn_tup (l : List D) : isOwn (.tup l) = false := rfl
@[simp] theorem isOwn_lst (l : List D) : isOwn (.lst l) = false := rfl
@[simp] theorem isOwn_ml (l : List D) : isOwn (.ml l) = true := rfl
@[simp] theorem ownd_ml (l : List D) : ownd (.ml l) = true := rfl
@[simp] theorem ownd_int (i : Int) : ownd (.int i) = false := rfl
@[simp] theorem ownd_bl (i : Bool) : ownd (.bl i) = false := rfl
@[simp] theorem ownd_unb : ownd .unb = false := rfl
@[simp] theorem ownd_tup (l : List D) : ownd (.tup l) = false := rfl
@[simp] theorem ownd_lst (l : List D) : ownd (.lst l) = false := rfl
@[simp] theorem skipD_ap : skipD env = .nx env := rfl
@[simp] theorem seqD_ap : seqD sa sb env = match sa env with
  | .nx env1 => sb env1
  | r => r := rfl
@[simp] theorem ifS_ap : ifS dt sa sb env = bindS (dt env) fun b env1 => if b = true then sa env1 else sb env1 := rfl
@[simp] theorem asgD_ap : asgD i da env = bindS (da env) fun d env1 => .nx (env1.set i d) := rfl
@[simp] theorem exprD_ap : exprD da env = bindS (da env) fun _ env1 => .nx env1 := rfl
@[simp] theorem retD_ap : retD da env = bindS (da env) fun d env1 => .rt d env1 := rfl
@[simp] theorem gnD_ap : gnD i d env = some (env.set i d) := rfl
@[simp] theorem gNilD_ap : gNilD [] env = some env := rfl
@[simp] theorem gConsD_ap (g : D → List D → Option (List D)) (h : List D → List D → Option (List D)) (r : List D) : gConsD g h (d :: r) env = match g d env with
  | some env1 => h r env1
  | none => none := rfl
@[simp] theorem gTupD_ap (g : List D → List D → Option (List D)) (l : List D) : gTupD g (.tup l) env = g l env := rfl
@[simp] theorem raiseD_ap (c : Str) : raiseD c dl env = bindS (dl env) fun fs env1 => .ex c fs env1 := rfl
theorem runD_ap (N : Nat) (io : List Nat) (ds : List D) : runD N io sa ds = match sa (ds ++ List.replicate (N - ds.length) .unb) with
  | .nx env => .ret .non (outsD io env)
  | .rt d env => .ret d (outsD io env)
  | .ex c fs env => .exc c fs (outsD io env)
  | _ => .bad := rfl
@[simp] theorem outsD_nil : outsD [] env = [] := rfl
@[simp] theorem outsD_cons (io : List Nat) : outsD (i :: io) env = env.getD i .unb :: outsD io env := rfl
@[simp] theorem nilA_ap : nilA env = .ok [] env := rfl
@[simp] theorem consA_ap : consA da dA env = bindR (da env) fun x env1 => bindR (dA env1) fun xs env2 => .ok (.v x :: xs) env2 := rfl
@[simp] theorem ioA_ap : ioA i dA env = if ownd (env.getD i .unb) = true then bindR (dA env) fun xs env2 => .ok (.io i :: xs) env2 else .bad := rfl
def retI (is : List Nat) (r : FR) (env : List D) : R D := match r with
  | .ret d outs => .ok d (wback is outs env)
  | .exc c fs outs => .ex c fs (wback is outs env)
  | .bad => .bad
@[simp] theorem retI_ret (is : List Nat) (outs : List D) : retI is (.ret d outs) env = .ok d (wback is outs env) := rfl
@[simp] theorem retI_exc (is : List Nat) (c : Str) (fs outs : List D) : retI is (.exc c fs outs) env = .ex c fs (wback is outs env) := rfl
@[simp] theorem wback_nil (ds : List D) : wback [] ds env = env := by
  cases ds <;> rfl
@[simp] theorem wback_cons (is : List Nat) (ds : List D) : wback (i :: is) (d :: ds) env = wback is ds (env.set i d) := rfl
@[simp] theorem callO_ap (io : List Nat) (G : List D → FR) : callO n io G dA env = bindR (dA env) fun as env1 => if okIo n io as env1 = true then retI ((ioOf 0 as).map (·.2)) (G (valsOf as env1)) env1 else .bad := by
  unfold callO
  congr 1
@[simp] theorem okIo_ap (io : List Nat) (as : List Ar) : okIo n io as env = (decide (as.length = n) && (decide ((ioOf 0 as).map (·.1) = io) && decide ((ioOf 0 as).map (·.2)).Nodup && (ioOf 0 as).all fun p => ownd (env.getD p.2 .unb))) := rfl
@[simp] theorem valsOf_nil : valsOf [] env = [] := rfl
@[simp] theorem valsOf_v (as : List Ar) : valsOf (.v d :: as) env = d :: valsOf as env := rfl
@[simp] theorem valsOf_io (as : List Ar) : valsOf (.io i :: as) env = env.getD i .unb :: valsOf as env := rfl
@[simp] theorem ioOf_nil : ioOf k [] = [] := rfl
@[simp] theorem ioOf_v (as : List Ar) : ioOf k (.v d :: as) = ioOf (k + 1) as := rfl
@[simp] theorem ioOf_io (as : List Ar) : ioOf k (.io i :: as) = (k, i) :: ioOf (k + 1) as := rfl
@[simp] theorem addD_int (a b : Int) : addD (.int a) (.int b) = some (.int (a + b)) := rfl
@[simp] theorem subD_int (a b : Int) : subD (.int a) (.int b) = some (.int (a - b)) := rfl
@[simp] theorem mulD_int (a b : Int) : mulD (.int a) (.int b) = if fitsMul a b then some (.int (a * b)) else none := rfl
@[simp] theorem fdivD_int (a b : Int) : fdivD (.int a) (.int b) = if fitsDiv b then some (.int (a.fdiv b)) else none := rfl
@[simp] theorem modD_int (a b : Int) : modD (.int a) (.int b) = if b ≠ 0 then some (.int (a.fmod b)) else none := rfl
@[simp] theorem powD_int (a b : Int) : powD (.int a) (.int b) = if fitsPow a b then some (.int (a ^ b.toNat)) else none := rfl
@[simp] theorem ltD_int (a b : Int) : ltD (.int a) (.int b) = some (.bl (decide (a < b))) := rfl
@[simp] theorem leD_int (a b : Int) : leD (.int a) (.int b) = some (.bl (decide (a ≤ b))) := rfl
@[simp] theorem gtD_int (a b : Int) : gtD (.int a) (.int b) = some (.bl (decide (b < a))) := rfl
@[simp] theorem geD_int (a b : Int) : geD (.int a) (.int b) = some (.bl (decide (b ≤ a))) := rfl
@[simp] theorem negD_int (a : Int) : negD (.int a) = some (.int (-a)) := rfl
@[simp] theorem eqD_ap (x y : D) : eqD x y = if (fine x && fine y) = true then some (.bl (x.eqb y)) else none := rfl
@[simp] theorem neD_ap (x y : D) : neD x y = if (fine x && fine y) = true then some (.bl (!x.eqb y)) else none := rfl
@[simp] theorem ixD_lst (l : List D) (a : Int) : ixD (.lst l) (.int a) = atI l a := rfl
@[simp] theorem ixD_tup (l : List D) (a : Int) : ixD (.tup l) (.int a) = atI l a := rfl
@[simp] theorem listAt_ap : listAt env i = match env.getD i .unb with
  | .ml l => some l
  | _ => none := rfl
@[simp] theorem ixO_ap : ixO i da env = if (listAt env i).isSome = true then bindR (da env) fun k env1 => match k with
  | .int k => match listAt env1 i with
    | some l => match atI l k with
      | some d => if isOwn d = true then .bad else .ok d env1
      | none => .bad
    | none => .bad
  | _ => .bad
else .bad := rfl
@[simp] theorem setO_ap : setO i da db env = bindS (da env) fun d env1 => if (listAt env1 i).isSome = true then bindS (db env1) fun k env2 => match k with
  | .int k => match listAt env2 i with
    | some l => match ixN l.length k with
      | some n => .nx (env2.set i (.ml (l.set n d)))
      | none => .bad
    | none => .bad
  | _ => .bad
else .bad := rfl
@[simp] theorem absD_int (a : Int) : absD [.int a] = some (.int (a.natAbs : Int)) := by
  show some (D.int (if a < 0 then -a else a)) = _
  congr 2
  split <;> omega
@[simp] theorem intD_int (a : Int) : intD [.int a] = some (.int a) := rfl
@[simp] theorem intD_bl (b : Bool) : intD [.bl b] = some (.int (if b = true then 1 else 0)) := rfl
@[simp] theorem lenD_lst (l : List D) : lenD [.lst l] = some (.int l.length) := rfl
@[simp] theorem lenD_tup (l : List D) : lenD [.tup l] = some (.int l.length) := rfl
@[simp] theorem tyD_int (a : Int) : tyD (.int a) = some "int" := rfl
@[simp] theorem tyD_tup (l : List D) : tyD (.tup l) = some "tuple" := rfl
@[simp] theorem tyD_lst (l : List D) : tyD (.lst l) = some "list" := rfl
theorem atI_nat {α : Type} (l : List α) (m : Nat) (h : m < l.length) : atI l (m : Int) = l[m]? := by
  unfold atI ixN
  rw [if_pos (by omega), if_pos (by omega)]
  rfl
theorem atI_in {α : Type} {l : List α} {a : Int} (h0 : 0 ≤ a) (h : a < l.length) : ∃ x ∈ l, atI l a = some x := by
  obtain ⟨m, rfl⟩ := Int.eq_ofNat_of_zero_le h0
  have h : m < l.length := by omega
  exact ⟨l[m], List.getElem_mem h, by rw [atI_nat l m h, List.getElem?_eq_getElem h]⟩
@[simp] theorem atI_0 {α : Type} (x : α) (l : List α) : atI (x :: l) 0 = some x := atI_nat (x :: l) 0 (by simp)
@[simp] theorem atI_1 {α : Type} (x0 x : α) (l : List α) : atI (x0 :: x :: l) 1 = some x := atI_nat (x0 :: x :: l) 1 (by simp)
@[simp] theorem atI_2 {α : Type} (x0 x1 x : α) (l : List α) : atI (x0 :: x1 :: x :: l) 2 = some x := atI_nat (x0 :: x1 :: x :: l) 2 (by simp)
@[simp] theorem atI_3 {α : Type} (x0 x1 x2 x : α) (l : List α) : atI (x0 :: x1 :: x2 :: x :: l) 3 = some x := atI_nat (x0 :: x1 :: x2 :: x :: l) 3 (by simp)
theorem ixN_nat {n m : Nat} (h : m < n) : ixN n (m : Int) = some m := by
  unfold ixN
  rw [if_pos (by omega), if_pos (by omega)]
  rfl
@[simp] theorem ixN_0 (n : Nat) : ixN (n + 1) 0 = some 0 := ixN_nat (m := 0) (by omega)
@[simp] theorem ixN_1 (n : Nat) : ixN (n + 2) 1 = some 1 := ixN_nat (m := 1) (by omega)
@[simp] theorem ixN_30 : ixN 3 0 = some 0 := rfl
@[simp] theorem ixN_31 : ixN 3 1 = some 1 := rfl
theorem fitsPow_lit {a b : Int} (h : 0 ≤ b) (h2 : b ≤ 1000000) (h3 : a.natAbs < 18446744073709551616) : fitsPow a b := ⟨h, h2, h3⟩
theorem fitsDiv_lit {b : Int} (h : b ≠ 0) (h2 : b.natAbs < 18446744073709551616) : fitsDiv b := ⟨h, Nat.lt_of_lt_of_le h2 (Nat.pow_le_pow_right (n := 2) (i := 64) (by decide) (by decide))⟩
@[simp] theorem fitsMul_10 (a : Int) (p : Prop) [Decidable p] : fitsMul a (if p then 1 else 0) := .inr (.inl (by split <;> decide))
end
theorem fitsMul_l {a b : Int} (h : a.natAbs < 2 ^ 64) : fitsMul a b := .inl h
/-- n bits -/
def Sm (n : Nat) (x : Int) : Prop := x.natAbs < 2 ^ n
theorem Sm.mono {n m : Nat} {x : Int} (h : Sm n x) (l : n ≤ m) : Sm m x := Nat.lt_of_lt_of_le h (Nat.pow_le_pow_right (by decide) l)
theorem Sm.add {n : Nat} {x y : Int} (h : Sm n x) (k : Sm n y) : Sm (n + 1) (x + y) := by
  unfold Sm at *
  have := Int.natAbs_add_le x y
  rw [Nat.pow_succ]
  omega
theorem Sm.neg {n : Nat} {x : Int} (h : Sm n x) : Sm n (-x) := by
  unfold Sm at *
  rw [Int.natAbs_neg]
  exact h
theorem Sm.sub {n : Nat} {x y : Int} (h : Sm n x) (k : Sm n y) : Sm (n + 1) (x - y) := by
  rw [Int.sub_eq_add_neg]
  exact h.add k.neg
theorem Sm.mul {n m : Nat} {x y : Int} (h : Sm n x) (k : Sm m y) : Sm (n + m) (x * y) := by
  unfold Sm at *
  rw [Int.natAbs_mul, Nat.pow_add]
  exact Nat.mul_lt_mul'' h k
theorem Sm.le {n : Nat} {x y : Int} (h : Sm n x) (k : y.natAbs ≤ x.natAbs) : Sm n y := Nat.lt_of_le_of_lt k h
end DL
namespace DL
open PySem PySem.Spec PyProof.Rows L2
inductive Src where
  | l (a : Addr)
  | t (a : Addr)
  | s (x : Str)
def Src.val : Src → L2.V
  | .l a => .ref a
  | .t a => .ref a
  | .s x => .str x
def signsV (x : Str) : List V := x.cps.toList.map fun c => .str ⟨#[c]⟩
def Src.Has (K : PySem.W.Frag) (H : Hp) : Src → List L2.V → Prop
  | .l a, xs => SqL K H a xs
  | .t a, xs => SqT K H a xs
  | .s x, xs => xs = signsV x
/-- the iterator's object at it, its i-th turn next -/
def Src.Itr (u : Value) (h : Heap) (it : Addr) (i : Nat) : Src → Prop
  | .l a => h.IsListIter it a i
  | .t a => h.IsTupleIter it a i
  | .s x => ∃ tk, u = .str x tk ∧ h.IsStrIter it (strIterType x) x tk i
def Src.ob (u : Value) : Src → Obj
  | .l a => { cls := .type "list_iterator", data := .fields #[.ref a, .int 0 0] }
  | .t a => { cls := .type "tuple_iterator", data := .fields #[.ref a, .int 0 0] }
  | .s x => { cls := .type (strIterType x), data := .fields #[u, .int 0 0] }
theorem Src.it_at {u : Value} {h h' : Heap} {it : Addr} {i : Nat} : ∀ {c : Src}, c.Itr u h it i → (∀ o, h.get? it = some o → h'.get? it = some o) → c.Itr u h' it i
  | .l a, q, k => q.at k
  | .t a, q, k => q.at k
  | .s x, ⟨tk, e, o, ho, r⟩, k => ⟨tk, e, o, k o ho, r⟩
theorem Src.it_obj {u : Value} {h : Heap} {it : Addr} {i : Nat} : ∀ {c : Src}, c.Itr u h it i → ∃ o, h.get? it = some o ∧ ∀ v, o.data ≠ .cell v
  | .l a, ⟨o, e, _, d⟩ => ⟨o, e, fun v q => by rw [d] at q; cases q⟩
  | .t a, ⟨o, e, _, d⟩ => ⟨o, e, fun v q => by rw [d] at q; cases q⟩
  | .s x, ⟨tk, _, o, e, _, d⟩ => ⟨o, e, fun v q => by rw [d] at q; cases q⟩
theorem Src.it_new {u : Value} {h : Heap} {it : Addr} : ∀ {c : Src}, RelV c.val u → h.get? it = some (c.ob u) → c.Itr u h it 0
  | .l a, _, e => ⟨_, e, rfl, rfl⟩
  | .t a, _, e => ⟨_, e, rfl, rfl⟩
  | .s x, ⟨tk, r⟩, e => by
    subst r
    exact ⟨tk, rfl, _, e, rfl, rfl⟩
theorem Draws.imp {prog : Program} {w : World} {A : Around} {it : Addr} {fp : List Addr} {n : Nat} {P P' : Nat → Value → Prop} {St St' : Nat → Heap → Prop} (D : Draws prog w A it fp n P St) (h : ∀ i v, P i v → P' i v) (e : St = St') : Draws prog w A it fp n P' St' := by
  subst e
  exact ⟨D.live, D.frame, fun i s Q E hi st hQ => D.item i s Q E hi st fun x h' tk p => hQ x h' tk (h i x p), D.done⟩
section
variable {X : Cx} {pins : List (Addr × Obj)} {σ : L2.St} {H : Hp} {s : Shared}
/-- the draws of a source, as the state stands; fp: what must stay -/
theorem Src.draws (I : Inv X pins σ H s) {c : Src} {xs : List V} {u : Value} (r : RelV c.val u) (hc : X.calm = true) (hs : c.Has X.K H xs) (it : Addr) {i : Nat} (hit : c.Itr u s.heap it i) (hn : H it = none) :
    ∃ (fp : List Addr) (St : Nat → Heap → Prop), Draws X.prog X.w X.A.in1 it fp xs.length (fun i v => ∃ x, xs[i]? = some x ∧ RelV x v) St ∧ St i s.heap ∧ (∀ j h, St j h → c.Itr u h it j) ∧ it ∈ fp ∧ (∀ b ∈ fp, b = it ∨ c.val = .ref b ∧ ∃ (o : Obj) (n : Array Value × Nat), s.heap.get? b = some o ∧ o.data = .seq n.1 n.2 ∧ (o.cls = .type "list" ∨ o.cls = .type "tuple")) := by
  have hh : X.A.in1.handled = none := I.ok.hd hc
  have idx : ∀ {its : List Value}, Vals xs its → ∀ i v, its.toArray[i]? = some v → ∃ x, xs[i]? = some x ∧ RelV x v := fun {its} rv (i : Nat) v h => by
    have h : its[i]? = some v := by simpa using h
    rcases Vals.get rv i with ⟨_, h2⟩ | ⟨x, u, h1, h2, h3⟩
    · rw [h2] at h; cases h
    · rw [h2] at h; cases h; exact ⟨x, h1, h3⟩
  cases c with
  | l a =>
    obtain ⟨its, rv, p, _⟩ := I.list hs
    have hp := p.isList
    have ne : a ≠ it := fun z => by
      obtain ⟨o, e, ec, _⟩ := hp
      obtain ⟨o', e', ec', _⟩ := (show s.heap.IsListIter it a i from hit)
      rw [z, e'] at e
      cases e
      rw [ec'] at ec
      exact absurd ec (by simp)
    have hl : its.toArray.size = xs.length := by simp [rv.length]
    refine ⟨[it, a], _, hl ▸ Draws.imp (Draws.list hh it a ne its.toArray) (idx rv) rfl, ⟨hit, hp⟩, fun j h st => st.1, List.mem_cons_self, fun b hb => ?_⟩
    rcases List.mem_cons.mp hb with hb | hb
    · exact .inl hb
    · rw [List.mem_singleton.mp hb]
      obtain ⟨o, e, ec, n, ed⟩ := hp
      exact .inr ⟨rfl, o, (_, n), e, ed, .inl ec⟩
  | t a =>
    obtain ⟨its, rv, p, _⟩ := I.tuple hs
    have hp : s.heap.IsTuple a its.toArray := p
    have ne : a ≠ it := fun z => by
      obtain ⟨o, e, ec, _⟩ := hp
      obtain ⟨o', e', ec', _⟩ := (show s.heap.IsTupleIter it a i from hit)
      rw [z, e'] at e
      cases e
      rw [ec'] at ec
      exact absurd ec (by simp)
    have hl : its.toArray.size = xs.length := by simp [rv.length]
    refine ⟨[it, a], _, hl ▸ Draws.imp (Draws.tuple hh it a ne its.toArray) (idx rv) rfl, ⟨hit, hp⟩, fun j h st => st.1, List.mem_cons_self, fun b hb => ?_⟩
    rcases List.mem_cons.mp hb with hb | hb
    · exact .inl hb
    · rw [List.mem_singleton.mp hb]
      obtain ⟨o, e, ec, n, ed⟩ := hp
      exact .inr ⟨rfl, o, (_, n), e, ed, .inr ec⟩
  | s x =>
    obtain ⟨tk, eu, hi⟩ := hit
    have hs : xs = signsV x := hs
    have hl : x.cps.size = xs.length := by rw [hs]; unfold signsV; simp
    refine ⟨[it], _, hl ▸ Draws.imp (Draws.text hh it x tk) (fun i v hv => ?_) rfl, hi, fun j h st => ⟨tk, eu, st⟩, List.mem_cons_self, fun b hb => .inl (List.mem_singleton.mp hb)⟩
    obtain ⟨z, tk2, h1, h2⟩ := hv
    have h1 : x.cps.toList[i]? = some z := by simpa using h1
    refine ⟨.str ⟨#[z]⟩, ?_, tk2, h2⟩
    rw [hs]
    unfold signsV
    rw [List.getElem?_map, h1]
    rfl
theorem Src.inj (I : Inv X pins σ H s) : ∀ {c : Src} {xs ys : List V}, c.Has X.K H xs → c.Has X.K H ys → xs = ys
  | .l a, _, _, h, k => I.list_inj h k
  | .t a, _, _, h, k => I.tuple_inj h k
  | .s x, _, _, h, k => by
    exact (show _ = signsV x from h).trans (show _ = signsV x from k).symm
theorem Src.begins (I : Inv X pins σ H s) {c : Src} {xs : List V} {u : Value} (r : RelV c.val u) (hs : c.Has X.K H xs) : ∃ Hh : Heap → Prop, Begins u (c.ob u) Hh ∧ Hh s.heap := by
  cases c with
  | l a =>
    obtain ⟨its, rv, p, _⟩ := I.list hs
    cases (show u = Value.ref a from r)
    exact ⟨_, begins_list a its.toArray, p.isList⟩
  | t a =>
    obtain ⟨its, rv, p, _⟩ := I.tuple hs
    cases (show u = Value.ref a from r)
    exact ⟨_, begins_tuple a its.toArray, p⟩
  | s x =>
    obtain ⟨tk, e⟩ := (show ∃ t, u = Value.str x t from r)
    subst e
    exact ⟨_, begins_text x tk, trivial⟩
end
def ItE (K : PySem.W.Frag) (c : Src) : It :=
  ⟨fun i H => ∃ xs, c.Has K H xs ∧ i < xs.length, fun i H v H' => ∃ T x, v = .ref T ∧ H T = none ∧ H' = upd H T (.tup [.int (i : Nat), x]) ∧ ∀ xs, c.Has K H xs → xs[i]? = some x, fun i H => ∃ xs : List V, c.Has K H xs ∧ xs.length = i⟩
theorem turnE {P : Program} {w : World} {K : PySem.W.Frag} {elts : List Expr} {kk : Nat} {tpos : Pos} {c : Src} {u : Value} (r : RelV c.val u) (e it : Addr) :
    Turn P w K (.Tuple elts kk tpos) (ItE K c) [e, it] e (fun i h => (∃ old, IsEnum h e it ((i : Nat) : Int) old) ∧ c.Itr u h it i ∧ e ≠ it) where
  mem := by simp
  obj := fun i h ⟨⟨old, he⟩, hi, _⟩ b hb => by
    rcases (by simpa using hb : b = e ∨ b = it) with rfl | rfl
    · exact ⟨_, he, fun v q => nomatch q⟩
    · exact Src.it_obj hi
  keep := fun i h h' ⟨⟨old, he⟩, hi, hne⟩ k => ⟨⟨old, k e (by simp) _ he⟩, Src.it_at hi fun o q => k it (by simp) o q, hne⟩
  item := by
    intro X hP hw hK hc i pins s σ H E I hf ⟨⟨old, he⟩, hit, hne⟩ ⟨xs, hs, hi⟩
    subst hP hw hK
    obtain ⟨fp, St, D, st, toIt, hm, hfp⟩ := Src.draws I r hc hs it hit (hf it (by simp)).1
    have hef : e ∉ fp := fun z => by
      rcases hfp e z with q | ⟨_, o, n, e1, _, e2⟩
      · exact hne q
      · rw [show s.heap.get? e = some _ from he] at e1
        cases e1
        rcases e2 with e2 | e2 <;> exact absurd e2 (by simp)
    have hel : e < s.heap.objs.size := Heap.lt_size he
    have hil : it < s.heap.objs.size := by
      obtain ⟨_, q, _⟩ := Src.it_obj hit
      exact Heap.lt_size q
    refine wpAny_pyNext_enum_itemD D he st hi hne hef fun y h' tk ⟨x, hx, ru⟩ ho st' hT hsz hk => ?_
    refine ⟨_, rfl, wpAny_letOwnedTupleGo_enum (s := { s with heap := h', toks := tk + 1 }) ho fun h2 he2 sb => ?_⟩
    have hT2 : h2.get? s.heap.objs.size = some { cls := .type "tuple", data := .seq #[.int i tk, y] } := (sb.2 _ (Nat.ne_of_gt hel)).trans hT
    have new : ObjOk X.prog X.w (upd H s.heap.objs.size (.tup [.int (i : Nat), x])) h2 s.heap.objs.size (.tup [.int (i : Nat), x]) := ⟨le_line (by show 2 ≤ 1000; omega), [.int i tk, y], .cons ⟨_, rfl⟩ (.cons ru .nil), ⟨_, hT2, rfl, _, rfl⟩⟩
    have I1 : Inv X pins σ (upd H s.heap.objs.size (.tup [.int (i : Nat), x])) { s with heap := h2, toks := tk + 1 } :=
      I.turnedNew (ch := [e, it]) (fun b ob hb q => by
        simp only [List.mem_cons, List.not_mem_nil, or_false, not_or] at hb
        exact (sb.2 b hb.1).trans (hk b ob hb.1 hb.2 q)) hf (Nat.le_refl _) new
    refine ⟨.ref s.heap.objs.size, _, I1, rfl, ⟨_, x, rfl, I.hok.fresh (Nat.le_refl _), rfl, fun ys hy => by rw [Src.inj I hy hs]; exact hx⟩, ⟨⟨y, by rw [Int.natCast_succ]; exact he2⟩, Src.it_at (toIt _ _ st') fun o q => (sb.2 it (Ne.symm hne)).trans q, hne⟩, fun b hb => ?_⟩
    have hlt : b < s.heap.objs.size := by
      rcases (by simpa using hb : b = e ∨ b = it) with q | q
      · rw [q]; exact hel
      · rw [q]; exact hil
    rw [upd_ne (Nat.ne_of_lt hlt)]
    exact (hf b hb).1
  done := by
    intro X hP hw hK hc i pins s σ H E I hf ⟨⟨old, he⟩, hit, hne⟩ ⟨xs, hs, hl⟩
    subst hP hw hK
    obtain ⟨fp, St, D, st, toIt, hm, hfp⟩ := Src.draws I r hc hs it hit (hf it (by simp)).1
    obtain ⟨f0, f1, f2, f3, f4, f5⟩ := hf it (by simp)
    exact wpAny_pyNext_enum_endD D he (by rw [hl]; exact st) fun h' eb => ⟨rfl, I.turned (t' := s.toks) (fun b o hb q => eb b o hb q) f0 f1 f3 f4 f5⟩
  self := fun A i s Q E ⟨⟨_, he⟩, _⟩ h => wpAny_pyIter_enum he h
theorem meets_enum1 {v : Value} {o : Obj} {H : Heap → Prop} (B : Begins v o H) :
    Meets (Builtin.«enumerate.__new__» ⟨[.type "enumerate", v], []⟩) (fun _ R s => H s.heap ∧ R (.ok (.ret (.ref (s.heap.push o).objs.size))) { s with heap := (s.heap.push o).push { cls := .type "enumerate", data := .fields #[.none, .bool false, .ref s.heap.objs.size, rawInt 0, .none, .none] } }) :=
  .of_wp fun prog w A R s h => by
    obtain ⟨hp, g, d, tk, os⟩ := s
    obtain ⟨h1, h⟩ := h
    have hsub := sub_enumerate
    have q1 : ∀ {A' : Around} {E Q : Value → Shared → Prop}, Q (.ref hp.objs.size) ⟨hp.push o, g, d, tk, os⟩ → wpAny (model prog w) A' (pyIter v) Q E ⟨hp, g, d, tk, os⟩ := fun q => B.iter prog w _ _ ⟨hp, g, d, tk, os⟩ _ h1 q
    wp_walk using q1
    refine wpAny_stack_any fun st => wpAny_pure ?_
    split
    · rename_i c _ _ _ _ _
      cases (c == Value.type "enumerate")
      · wp_walk using q1
        exact ⟨_, rfl, h⟩
      · wp_walk using q1
        exact ⟨_, rfl, h⟩
    · wp_walk using q1
      exact ⟨_, rfl, h⟩
end DL
namespace DL
open PySem PySem.Spec PyProof.Rows L2
section
variable {X : Cx}
def ItS (K : PySem.W.Frag) : Src → It
  | .l a => Itl K a
  | .t a => Itt K a
  | .s x => Its x
def iSrc (K : PySem.W.Frag) (te : TE) : TI := fun σ H R => te σ H fun v H1 => ∃ (c : Src) (xs : List V), v = c.val ∧ c.Has K H1 xs ∧ R (ItS K c) H1
theorem pi_src {tg e : Expr} {te : TE} (he : PE X e te) : PI X tg e (iSrc X.K te) := by
  refine ⟨fun pins s σ H R I h => thn (he.run pins s σ H _ I h) fun u s1 ⟨v, H1, I1, r, c, xs, ev, hs, q⟩ => ?_⟩
  subst ev
  cases c with
  | l a =>
    obtain ⟨its, rv, p, _⟩ := I1.list hs
    cases (show u = Value.ref a from r)
    exact wpAny_pyIter_list p.isList (pi_one (tk := s1.toks) I1 _ (turn_list a _) ⟨_, Heap.get?_push_size _ rfl, rfl, rfl⟩ q)
  | t a =>
    obtain ⟨its, rv, p, _⟩ := I1.tuple hs
    cases (show u = Value.ref a from r)
    exact wpAny_pyIter_tuple p (pi_one (tk := s1.toks) I1 _ (turn_tuple a _) ⟨_, Heap.get?_push_size _ rfl, rfl, rfl⟩ q)
  | s x =>
    obtain ⟨t, e⟩ := (show ∃ t, u = Value.str x t from r)
    subst e
    refine wpAny_pyIter_strU (pi_one (tk := s1.toks) I1 _ (turn_str _ x t (strIterType x) ?_) ⟨_, Heap.get?_push_size _ rfl, rfl, rfl⟩ q)
    unfold strIterType
    split
    · exact .inl rfl
    · exact .inr rfl
/-- enumerate(e) -/
def iEnumS (K : PySem.W.Frag) (ta : TA) : TI := fun σ H R => ta σ H fun vs H1 => ∃ (c : Src) (xs : List V), vs = [c.val] ∧ c.Has K H1 xs ∧ R (ItE K c) H1
theorem pi_enumS {e : Expr} {ta : TA} {p pos tpos : Pos} {elts : List Expr} {kk : Nat} (hg : Gl X "enumerate") (hm : X.mg "enumerate" = none) (ha : PA X [e] ta) (hs : starEach [e] X.env = [(false, eval e X.env)]) :
    PI X (.Tuple elts kk tpos) (.Call (.Name "enumerate" p) [e] [] pos) (iEnumS X.K ta) := by
  refine ⟨fun pins s σ H R I h => Call_ (ld_blt I hg hm boot_enumerate (PyProof.Rows.callWith_type1 (thn (ha.run pos pins s σ H _ I h) fun us s1 ⟨vs, H1, I1, r1, c, xs, ex, hq, q⟩ => ?_) hs rfl))⟩
  subst ex
  cases r1 with
  | @cons _ u _ _ r rr =>
    cases rr
    obtain ⟨Hh, B, b0⟩ := Src.begins I1 r hq
    refine callType_new F.called_enumerate (by decide) (F.typeCall_enumerate_1 _) (F.newCall_enumerate_1 _) (fun obj => F.args_object_init_2 obj _) F.entry_enumerate_new (meets_enum1 B) ⟨b0, ?_⟩
    have hz : (s1.heap.push (c.ob u)).objs.size = s1.heap.objs.size + 1 := Heap.size_push ..
    have he := Heap.get?_push_size (s1.heap.push (c.ob u)) (o := { cls := .type "enumerate", data := .fields #[.none, .bool false, .ref s1.heap.objs.size, rawInt 0, .none, .none] }) rfl
    have hi : ((s1.heap.push (c.ob u)).push { cls := .type "enumerate", data := .fields #[.none, .bool false, .ref s1.heap.objs.size, rawInt 0, .none, .none] }).get? s1.heap.objs.size = some (c.ob u) := Heap.get?_push_of_some _ (Heap.get?_push_size _ B.free)
    rw [hz] at he
    show _ ∧ _
    rw [hz]
    refine ⟨⟨_, he, rfl⟩, wpAny_pyIter_enum (s := { s1 with heap := (s1.heap.push (c.ob u)).push { cls := .type "enumerate", data := .fields #[.none, .bool false, .ref s1.heap.objs.size, rawInt 0, .none, .none] } }) (old := .none) (i := 0) (it := s1.heap.objs.size) he ?_⟩
    refine ⟨s1.heap.objs.size + 1, [s1.heap.objs.size + 1, s1.heap.objs.size], _, _, H1, rfl, I1.kept (t' := s1.toks) fun b o q => Heap.get?_push_of_some _ (Heap.get?_push_of_some _ q), turnE r (s1.heap.objs.size + 1) s1.heap.objs.size, ⟨⟨.none, he⟩, Src.it_new r hi, Nat.succ_ne_self _⟩, fun b hb => ?_, q⟩
    have hle : s1.heap.objs.size ≤ b := by
      rcases (by simpa using hb : b = s1.heap.objs.size + 1 ∨ b = s1.heap.objs.size) with z | z
      · rw [z]; exact Nat.le_add_right _ _
      · rw [z]; exact Nat.le_refl _
    exact I1.fpOk hle (I1.hok.fresh hle)
theorem Src.lt {pins : List (Addr × Obj)} {σ : L2.St} {H : Hp} {s : Shared} (I : Inv X pins σ H s) {c : Src} {xs : List V} (hs : c.Has X.K H xs) {a : Addr} (e : c.val = .ref a) : a < s.heap.objs.size := by
  cases c with
  | l b =>
    cases e
    obtain ⟨its, rv, p, _⟩ := I.list hs
    exact p.lt
  | t b =>
    cases e
    obtain ⟨its, rv, p, _⟩ := I.tuple hs
    obtain ⟨o, eo, _⟩ := (show s.heap.IsTuple a its.toArray from p)
    exact Heap.lt_size eo
  | s x => cases e
end
def signsD (x : Str) : List D := x.cps.toList.map fun c => .str ⟨#[c]⟩
def srcOf : D → Option (List D)
  | .lst l => some l
  | .tup l => some l
  | .ctp l => some l
  | .str x => some (signsD x)
  | _ => none
theorem Src.mono {K : PySem.W.Frag} {H H' : Hp} (e : Ex H H') : ∀ {c : Src} {xs : List L2.V}, c.Has K H xs → c.Has K H' xs
  | .l _, _, h => ex_l e h
  | .t _, _, h => ex_t e h
  | .s _, _, h => h
theorem rp_signs {M : Mo} {F : Hp} (x : Str) : RpL M F (signsD x) (signsV x) := by
  unfold signsD signsV
  generalize x.cps.toList = l
  induction l with
  | nil => exact .nil
  | cons c r ih => exact .cons (.str _) ih
theorem Rp.src {M : Mo} {F : Hp} {d : D} {v : L2.V} {l : List D} (h : Rp M F d v) (e : srcOf d = some l) : ∃ (c : Src) (xs : List L2.V), v = c.val ∧ c.Has M.K F xs ∧ RpL M F l xs := by
  cases h with
  | lst h q => cases e; exact ⟨.l _, _, rfl, h, q⟩
  | tup h q => cases e; exact ⟨.t _, _, rfl, SqT.of h, q⟩
  | ctp h q => cases e; exact ⟨.t _, _, rfl, h _, q⟩
  | str x => cases e; exact ⟨.s x, _, rfl, rfl, rp_signs x⟩
  | _ => cases e
def itS (da : List D → R D) : List D → R (List D) := fun env => bindR (da env) fun d env1 => match srcOf d with
  | some l => .ok l env1
  | none => .bad
def enumL (k : Nat) : List D → List D
  | [] => []
  | d :: r => .tup [.int k, d] :: enumL (k + 1) r
def enumD (da : List D → R D) : List D → R (List D) := fun env => bindR (da env) fun d env1 => match srcOf d with
  | some l => .ok (enumL 0 l) env1
  | none => .bad
def rangeL (lo : Int) : Nat → List D
  | 0 => []
  | n + 1 => .int lo :: rangeL (lo + 1) n
def range1D (da : List D → R D) : List D → R (List D) := fun env => bindR (da env) fun d env1 => match d with
  | .int j => if -(2 ^ 62) ≤ j ∧ j < 2 ^ 62 then .ok (rangeL 0 j.toNat) env1 else .bad
  | _ => .bad
theorem enumL_len : ∀ (k : Nat) (l : List D), (enumL k l).length = l.length
  | _, [] => rfl
  | k, _ :: r => congrArg (· + 1) (enumL_len (k + 1) r)
theorem enumL_get : ∀ {k : Nat} {l : List D} {i : Nat} {d : D}, l[i]? = some d → (enumL k l)[i]? = some (.tup [.int (k + i : Nat), d])
  | _, [], _, _, h => by simp at h
  | k, x :: r, 0, d, h => by
    simp at h
    subst h
    rfl
  | k, x :: r, i + 1, d, h => by
    have := enumL_get (k := k + 1) (l := r) (i := i) (by simpa using h)
    unfold enumL
    rw [List.getElem?_cons_succ, this]
    congr 3
    congr 1
    omega
theorem rangeL_len : ∀ (lo : Int) (n : Nat), (rangeL lo n).length = n
  | _, 0 => rfl
  | lo, n + 1 => congrArg (· + 1) (rangeL_len (lo + 1) n)
theorem rangeL_get : ∀ {lo : Int} {n i : Nat}, i < n → (rangeL lo n)[i]? = some (.int (lo + i))
  | _, 0, _, h => by omega
  | lo, n + 1, 0, _ => by
    unfold rangeL
    simp
  | lo, n + 1, i + 1, h => by
    unfold rangeL
    rw [List.getElem?_cons_succ, rangeL_get (by omega)]
    congr 2
    omega
section
variable {X : Cx} {j : J} {tg e e2 : Expr} {da db : List D → R D} {p pos tpos : Pos} {elts : List Expr} {kk : Nat}
theorem its_ok {M : Mo} {F : Hp} {c : Src} {xs : List L2.V} {ds : List D} (h : c.Has M.K F xs) (p : RpL M F ds xs) : ItOk M (ItS M.K c) F ds := by
  cases c with
  | l a => exact itl_ok h p
  | t a =>
    intro i F1 H x1 x2
    have hl := p.length
    have hS : SqT M.K H a xs := ex_t x2 (ex_t x1 h)
    refine ⟨fun hi => ?_, fun hi => ⟨xs, hS, by omega⟩⟩
    have h1 : i < xs.length := by omega
    refine ⟨⟨xs, xs[i], hS, List.getElem?_eq_getElem h1⟩, fun x H' ⟨e, y⟩ => ?_⟩
    obtain ⟨v, h2, h3⟩ := p.get (List.getElem?_eq_getElem hi)
    have h4 := y xs hS
    rw [h2] at h4
    cases h4
    exact ⟨F1, ds[i], List.getElem?_eq_getElem hi, by rw [e]; exact Grow.refl x2, h3.mono x1⟩
  | s x =>
    intro i F1 H x1 x2
    have hx : xs = signsV x := h
    have hl := p.length
    have hz : xs.length = x.cps.size := by rw [hx]; unfold signsV; simp
    refine ⟨fun hi => ⟨by show i < x.cps.size; omega, fun y H' ⟨e, c, h1, h2⟩ => ?_⟩, fun hi => by show x.cps.size ≤ i; omega⟩
    obtain ⟨v, h3, h4⟩ := p.get (List.getElem?_eq_getElem hi)
    have h5 : xs[i]? = some (.str ⟨#[c]⟩) := by
      rw [hx]
      unfold signsV
      rw [List.getElem?_map]
      have h1 : x.cps.toList[i]? = some c := by simpa using h1
      rw [h1]
      rfl
    rw [h5] at h3
    cases h3
    exact ⟨F1, ds[i], List.getElem?_eq_getElem hi, by rw [e]; exact Grow.refl x2, by rw [h2]; exact h4.mono x1⟩
theorem i_src (h : DE X j e da) : DI X j tg e (itS da) :=
  PI.mono (pi_src h) fun σ H Rr ⟨W, F, env, rel, q⟩ => ⟨W, F, env, rel, At.bind q fun d env1 W1 F1 H1 v _ r1 x1 p1 q1 => by
    cases o : srcOf d with
    | none => rw [o] at q1; exact q1.elim
    | some l =>
      rw [o] at q1
      obtain ⟨c, xs, e1, e2, e3⟩ := p1.src o
      exact ⟨c, xs, e1, Src.mono r1.exF e2, q1 W1 F1 H1 _ r1 (Ex.refl F1) (its_ok e2 e3)⟩⟩
theorem ite_ok {M : Mo} {F : Hp} {c : Src} {xs : List L2.V} {ds : List D} (h : c.Has M.K F xs) (p : RpL M F ds xs) : ItOk M (ItE M.K c) F (enumL 0 ds) := fun i F1 H x1 x2 => by
  have hl := p.length
  have hS := Src.mono x2 (Src.mono x1 h)
  rw [enumL_len]
  refine ⟨fun hi => ⟨⟨xs, hS, by omega⟩, fun x H' ⟨T, y, ex, hT, eH, hy⟩ => ?_⟩, fun hi => ⟨xs, hS, by omega⟩⟩
  · obtain ⟨v, h2, h3⟩ := p.get (List.getElem?_eq_getElem hi)
    have h4 := hy xs hS
    rw [h2] at h4
    cases h4
    subst ex eH
    have g := Grow.one (o := .tup [.int (i : Nat), y]) x2 hT
    exact ⟨_, _, enumL_get (List.getElem?_eq_getElem hi), g, .tup upd_same (.cons (by rw [Nat.zero_add]; exact .int _) (.cons ((h3.mono x1).mono g.exF) .nil))⟩
theorem i_enum (hg : Gl X "enumerate") (hm : X.mg "enumerate" = none) (h : DE X j e da) (hs : starEach [e] X.env = [(false, eval e X.env)] := by rfl) : DI X j (.Tuple elts kk tpos) (.Call (.Name "enumerate" p) [e] [] pos) (enumD da) :=
  PI.mono (pi_enumS hg hm (pa_cons h pa_nil hs) hs) fun σ H Rr ⟨W, F, env, rel, q⟩ => ⟨W, F, env, rel, At.bind q fun d env1 W1 F1 H1 v _ r1 x1 p1 q1 => by
    cases o : srcOf d with
    | none => rw [o] at q1; exact q1.elim
    | some l =>
      rw [o] at q1
      obtain ⟨c, xs, e1, e2, e3⟩ := p1.src o
      exact ⟨c, xs, by rw [e1], Src.mono r1.exF e2, q1 W1 F1 H1 _ r1 (Ex.refl F1) (ite_ok e2 e3)⟩⟩
theorem itr_ok {M : Mo} {F : Hp} (lo : Int) (n : Nat) : ItOk M (Itr lo n) F (rangeL lo n) := fun i F1 H x1 x2 => by
  rw [rangeL_len]
  refine ⟨fun hi => ⟨hi, fun x H' ⟨e, y⟩ => ⟨F1, _, rangeL_get hi, by rw [e]; exact Grow.refl x2, by rw [y]; exact .int _⟩⟩, fun hi => by show n ≤ i; omega⟩
theorem i_range1 (hg : Gl X "range") (hm : X.mg "range" = none) (h : DE X j e da) (hs : starEach [e] X.env = [(false, eval e X.env)] := by rfl) : DI X j tg (.Call (.Name "range" p) [e] [] pos) (range1D da) :=
  PI.mono (pi_range1 hg hm (pa_cons h pa_nil hs) hs) fun σ H Rr ⟨W, F, env, rel, q⟩ => ⟨W, F, env, rel, At.bind q fun d env1 W1 F1 H1 v _ r1 x1 p1 q1 => by
    cases p1 with
    | int i =>
      simp only at q1
      split at q1
      · rename_i hc
        exact ⟨i, rfl, hc.1, hc.2, q1 W1 F1 H1 _ r1 (Ex.refl F1) (itr_ok 0 _)⟩
      · exact q1.elim
    | _ => exact q1.elim⟩
end
end DL
namespace DL
open PySem PySem.Spec PyProof.Rows L2
def varF (i : Nat) : List D → R D := fun env => match env.getD i .unb with
  | .unb => .bad
  | d => .ok (frz d) (env.set i (frz d))
theorem getD_get {env : List D} {i : Nat} (h : env.getD i .unb ≠ .unb) : env[i]? = some (env.getD i .unb) := by
  rw [List.getD_eq_getElem?_getD] at h ⊢
  cases q : env[i]? with
  | none => rw [q] at h; exact absurd rfl h
  | some d => rfl
section
variable {X : Cx} {j : J} {a b c e : Expr} {es : List Expr} {pos : Pos} {da db dc : List D → R D}
theorem e_varF (i : Nat) {x : Str} (h : PE X (.Name x pos) (tVar i)) (hp : j.e.P i = none) : DE X j (.Name x pos) (varF i) :=
  PE.mono h fun σ H Q ⟨W, F, env, rel, q⟩ => by
    have q : At (mo X) j.e j.wx (Rp (mo X)) F σ (varF i env) Q := q
    have key : env.getD i .unb ≠ .unb → At (mo X) j.e j.wx (Rp (mo X)) F σ (.ok (frz (env.getD i .unb)) (env.set i (frz (env.getD i .unb)))) Q → tVar i σ H Q := fun hd q => by
      obtain ⟨v, h3, h4, h5⟩ := rel.freezeAt (getD_get hd) hd hp
      exact ⟨v, h3, q _ _ H v h5 (frzF_ex rel.toRelB (i + 1)) h4⟩
    unfold varF at q
    split at q
    · exact q.elim
    · rename_i h1
      exact key h1 q
def chainD (f g : D → D → Option D) (da db dc : List D → R D) : List D → R D := fun env => bindR (da env) fun x env1 => bindR (db env1) fun y env2 => match f x y with
  | some (.bl true) => bindR (dc env2) fun z env3 => opR (g y z) env3
  | some (.bl false) => .ok (.bl false) env2
  | _ => .bad
theorem chain_at {f g : D → D → Option D} {op1 op2 : Value → Value → Sem Value} {σ : L2.St} {H : Hp} {Q : VK} (h : tE (mo X) j (chainD f g da db dc) σ H Q) : tChain (rOpD X f) (rOpD X g) (tE (mo X) j da) (tE (mo X) j db) (tE (mo X) j dc) σ H Q := by
  obtain ⟨W, F, env, rel, q⟩ := h
  refine ⟨W, F, env, rel, At.bind q fun x env1 W1 F1 H1 v _ r1 x1 p1 q1 => ⟨W1, F1, env1, r1, At.bind q1 fun y env2 W2 F2 H2 v2 _ r2 x2 p2 q2 => ?_⟩⟩
  cases o : f x y with
  | none => rw [o] at q2; exact q2.elim
  | some z =>
    rw [o] at q2
    refine ⟨F2, x, y, z, r2.exF, p1.mono x2, p2, o, fun F' H' w gr p => ?_⟩
    cases z with
    | bl k =>
      cases p
      refine ⟨k, rfl, ?_⟩
      cases k with
      | true =>
        have q3 : At (mo X) j.e j.wx (Rp (mo X)) F' σ (bindR (dc env2) fun z env3 => opR (g y z) env3) Q := At.mono q2 gr.exF
        exact ⟨W2, F', env2, r2.grow gr, At.bind q3 fun z env3 W3 F3 H3 v3 _ r3 x3 p3 q3 => by
          cases o2 : g y z with
          | none => rw [o2] at q3; exact q3.elim
          | some u =>
            rw [o2] at q3
            exact ⟨F3, y, z, u, r3.exF, (p2.mono gr.exF).mono x3, p3, o2, fun F'' H'' t gr2 p => At.grow q3 r3 gr2 p⟩⟩
      | false => exact q2 W2 F' H' _ (r2.grow gr) gr.exF (.bl false)
    | _ => exact q2.elim
theorem t_chain {o1 o2 : CmpOp} {f g : D → D → Option D} (h1 : OpD X (compareOp o1) f) (h2 : OpD X (compareOp o2) g) (ha : DE X j a da) (hb : DE X j b db) (hc : DE X j c dc) (hm : lastMarks [o1, o2] [b, c] = false := by with_unfolding_all rfl) : DT X j (.Compare a [o1, o2] [b, c] pos) (testD (chainD f g da db dc)) :=
  PT.mono (pt_chain h1.r h2.r ha hb hc hm) fun σ H Q ⟨W, F, env, rel, q⟩ => by
    refine chain_at (op1 := compareOp o1) (op2 := compareOp o2) ⟨W, F, env, rel, ?_⟩
    exact At.bind q fun x env1 W1 F1 H1 v _ r1 x1 p1 q1 => by
      cases p1 with
      | bl k => exact ⟨k, rfl, q1 W1 F1 H1 k r1 (Ex.refl F1) rfl⟩
      | _ => exact q1.elim
end
def joinD (a : Str) (e : D) : Option D := match srcL e with
  | some l => match strsOf l with
    | some ys => if (ys.map (·.length)).sum + ys.length * a.length ≤ 16777216 then some (.str (Txt.join a ys)) else none
    | none => none
  | none => none
where srcL : D → Option (List D)
  | .lst l => some l
  | .tup l => some l
  | _ => none
def splitD (a : Str) (e : D) : Option D := match e with
  | .str b => if (b.length == 0) = false ∧ a.length + 2 ≤ sizeLine then some (.lst ((Txt.split a b).map D.str)) else none
  | _ => none
def startsD (a : Str) (e : D) : Option D := match e with
  | .str b => some (.bl (Txt.startswith a b))
  | _ => none
def txtD (f : Str → D → Option D) (da db : List D → R D) : List D → R D := fun env => bindR (da env) fun d env1 => match d with
  | .str a => bindR (db env1) fun e env2 => opR (f a e) env2
  | _ => .bad
theorem rp_strs {M : Mo} {F : Hp} : ∀ ys : List Str, RpL M F (ys.map D.str) (ys.map V.str)
  | [] => .nil
  | y :: r => .cons (.str y) (rp_strs r)
section
variable {X : Cx} {j : J} {o e : Expr} {es : List Expr} {apos pos : Pos} {da db : List D → R D} {k : Nat}
/-- a method of a text with one argument -/
theorem txt_at {f : Str → D → Option D} {r : L2.V → List L2.V → Hp → VK → Prop} {σ : L2.St} {H : Hp} {Q : VK} (h : tE (mo X) j (txtD f da db) σ H Q)
    (k : ∀ a d2 v2 z F2 H2, f a d2 = some z → Ex F2 H2 → Rp (mo X) F2 d2 v2 → (∀ F' H' v, Grow F2 H2 F' H' → Rp (mo X) F' z v → Q v H') → r (.str a) [v2] H2 Q) : tM1 r (tE (mo X) j da) (tE (mo X) j db) σ H Q := by
  obtain ⟨W, F, env, rel, q⟩ := h
  refine ⟨W, F, env, rel, At.bind q fun d env1 W1 F1 H1 v _ r1 x1 p1 q1 => ?_⟩
  cases p1 with
  | str a =>
    refine ⟨⟨a, rfl⟩, W1, F1, env1, r1, At.bind q1 fun d2 env2 W2 F2 H2 v2 _ r2 x2 p2 q2 => ?_⟩
    cases o : f a d2 with
    | none => rw [o] at q2; exact q2.elim
    | some z =>
      rw [o] at q2
      exact k a d2 v2 z F2 H2 o r2.exF p2 fun F' H' v gr p => At.grow q2 r2 gr p
  | _ => exact q1.elim
theorem e_join (ho : DE X j o da) (he : DE X j e db) (hs : starEach [e] X.env = [(false, eval e X.env)] := by rfl) (hbase : attributeBase o "join" X.env (eval o X.env) = eval o X.env := by rfl) (hline : (apos.endLine == pos.line) = true := by rfl) :
    DE X j (.Call (.Attribute o "join" apos) [e] [] pos) (txtD joinD da db) :=
  PE.mono (pe_join ho he hs hbase hline) fun σ H Q h => txt_at h fun a d2 v2 z F2 H2 o x p q => by
    unfold joinD at o
    cases p with
    | lst h1 h2 =>
      simp only [joinD.srcL] at o
      cases oy : strsOf _ with
      | none => rw [oy] at o; cases o
      | some ys =>
        rw [oy] at o
        simp only at o
        split at o
        · rename_i hz
          cases o
          rw [strsOf_eq oy] at h2
          have := h2.strs_inv
          subst this
          exact ⟨a, _, ys, rfl, rfl, .inl (ex_l x h1), hz, q F2 H2 _ (Grow.refl x) (.str _)⟩
        · cases o
    | tup h1 h2 =>
      simp only [joinD.srcL] at o
      cases oy : strsOf _ with
      | none => rw [oy] at o; cases o
      | some ys =>
        rw [oy] at o
        simp only at o
        split at o
        · rename_i hz
          cases o
          rw [strsOf_eq oy] at h2
          have := h2.strs_inv
          subst this
          exact ⟨a, _, ys, rfl, rfl, .inr (SqT.of (x _ _ h1)), hz, q F2 H2 _ (Grow.refl x) (.str _)⟩
        · cases o
    | _ => cases o
theorem e_split (ho : DE X j o da) (he : DE X j e db) (hs : starEach [e] X.env = [(false, eval e X.env)] := by rfl) (hbase : attributeBase o "split" X.env (eval o X.env) = eval o X.env := by rfl) (hline : (apos.endLine == pos.line) = true := by rfl) :
    DE X j (.Call (.Attribute o "split" apos) [e] [] pos) (txtD splitD da db) :=
  PE.mono (pe_split ho he hs hbase hline) fun σ H Q h => txt_at h fun a d2 v2 z F2 H2 o x p q => by
    unfold splitD at o
    cases p with
    | str b =>
      simp only at o
      split at o
      · rename_i hz
        cases o
        exact ⟨a, b, rfl, rfl, hz.1, hz.2, fun p n => q _ _ _ (Grow.one x n) (.lst (SqL.of upd_same) (rp_strs _))⟩
      · cases o
    | _ => cases o
theorem e_starts (ho : DE X j o da) (he : DE X j e db) (hs : starEach [e] X.env = [(false, eval e X.env)] := by rfl) (hbase : attributeBase o "startswith" X.env (eval o X.env) = eval o X.env := by rfl) (hline : (apos.endLine == pos.line) = true := by rfl) :
    DE X j (.Call (.Attribute o "startswith" apos) [e] [] pos) (txtD startsD da db) :=
  PE.mono (pe_m1 F.slot_str_startswith F.type_str_startswith mt_startswith ho he hs hbase hline) fun σ H Q h => txt_at h fun a d2 v2 z F2 H2 o x p q => by
    unfold startsD at o
    cases p with
    | str b =>
      cases o
      exact ⟨a, b, rfl, rfl, q F2 H2 _ (Grow.refl x) (.bl _)⟩
    | _ => cases o
def fmtD (d : D) : Option D := match d with
  | .str y => if y.length ≤ sizeLine then some (.str y) else none
  | .int i => if i.natAbs < 2 ^ 1900 then some (.str (toString i)) else none
  | _ => none
theorem e_fmt (h : DE X j e da) : DE X j (.FormattedValue e (-1) none pos) (unD fmtD da) :=
  PE.mono (pe_fmt h) fun σ H Q ⟨W, F, env, rel, q⟩ => ⟨W, F, env, rel, At.bind q fun d env1 W1 F1 H1 v _ r1 x1 p1 q1 => by
    unfold fmtD at q1
    cases p1 with
    | str y =>
      simp only at q1
      split at q1
      · rename_i hz
        exact .inl ⟨y, rfl, hz, q1 W1 F1 H1 _ r1 (Ex.refl F1) (.str _)⟩
      · exact q1.elim
    | int i =>
      simp only at q1
      split at q1
      · rename_i hz
        exact .inr ⟨i, rfl, Nat.lt_of_lt_of_le (log2_of_lt (by omega) hz) (by omega), q1 W1 F1 H1 _ r1 (Ex.refl F1) (.str _)⟩
      · exact q1.elim
    | _ => exact q1.elim⟩
def joinedD : List (List D → R D) → Str → List D → R D
  | [], acc => fun env => .ok (.str acc) env
  | d :: ds, acc => fun env => bindR (d env) fun x env1 => match x with
    | .str y => if (acc ++ y).length ≤ sizeLine then joinedD ds (acc ++ y) env1 else .bad
    | _ => .bad
inductive DJ (X : Cx) (j : J) : List Expr → List (List D → R D) → Prop
  | nil : DJ X j [] []
  | cons {e : Expr} {d : List D → R D} {es : List Expr} {ds : List (List D → R D)} : DE X j e d → DJ X j es ds → DJ X j (e :: es) (d :: ds)
theorem dj_pj {es : List Expr} {ds : List (List D → R D)} (h : DJ X j es ds) : PJ X es (ds.map fun d => tE (mo X) j d) := by
  induction h with
  | nil => exact .nil
  | cons h _ ih => exact .cons h ih
theorem joined_at {σ : L2.St} {Q : VK} : ∀ {ds : List (List D → R D)} {acc : Str} {H : Hp}, tE (mo X) j (joinedD ds acc) σ H Q → tJs (ds.map fun d => tE (mo X) j d) acc σ H fun out H1 => Q (.str out) H1
  | [], acc, H, ⟨W, F, env, rel, q⟩ => q W F H _ rel (Ex.refl F) (.str acc)
  | d :: ds, acc, H, ⟨W, F, env, rel, q⟩ => ⟨W, F, env, rel, At.bind q fun x env1 W1 F1 H1 v _ r1 x1 p1 q1 => by
    cases p1 with
    | str y =>
      simp only at q1
      split at q1
      · rename_i hz
        exact ⟨y, rfl, hz, joined_at ⟨W1, F1, env1, r1, q1⟩⟩
      · exact q1.elim
    | _ => exact q1.elim⟩
theorem e_joined {v1 v2 : Expr} {rest : List Expr} {ds : List (List D → R D)} (h : DJ X j (v1 :: v2 :: rest) ds) : DE X j (.JoinedStr (v1 :: v2 :: rest) pos) (joinedD ds Str.empty) :=
  PE.mono (pe_joined (dj_pj h)) fun σ H Q h => joined_at h
def intXD : List D → Option D
  | [.int a] => some (.int a)
  | [.bl b] => some (.int (if b then 1 else 0))
  | [.str a] => if a.length ≤ 640 then (PySem.intText? a).map .int else none
  | _ => none
theorem cd_intX : CallD X (.type "int") intXD := fun pins s σ F H ds d xs us Q I e p r e1 q => by
  unfold intXD at e1
  split at e1
  · exact cd_int pins s σ F H _ d xs us Q I e p r e1 q
  · exact cd_int pins s σ F H _ d xs us Q I e p r e1 q
  · split at e1
    · rename_i a hz
      cases o : PySem.intText? a with
      | none => rw [o] at e1; cases e1
      | some n =>
        rw [o] at e1
        cases e1
        obtain ⟨v, rfl, h⟩ := p.one_inv
        exact call_int_str pins s σ H _ us Q I r ⟨a, n, by rw [h.str_inv], o, hz, q F H _ (Grow.refl e) (.int _)⟩
    · cases e1
  · cases e1
def mulXD : D → D → Option D
  | .int a, .int b => if fitsMul a b then some (.int (a * b)) else none
  | .str a, .int b => if 0 ≤ b ∧ b ≤ 10000 ∧ 1 ≤ a.length ∧ a.length ≤ 1000 then some (.str (Txt.mul a b)) else none
  | _, _ => none
theorem od_mulX : OpD X (binaryOp .Mult) mulXD := fun pins s σ F H dx dy d x y v u Q I e p1 p2 rx ry e1 q => by
  unfold mulXD at e1
  split at e1
  · exact od_mul pins s σ F H _ _ d x y v u Q I e p1 p2 rx ry e1 q
  · rename_i a b
    split at e1
    · rename_i hz
      cases e1
      rw [p1.str_inv] at rx
      rw [p2.int_inv] at ry
      obtain ⟨t, rfl⟩ := rx
      obtain ⟨t', rfl⟩ := ry
      refine PySem.SB.mul ?_ fun t' k => ⟨.str _, H, I.tok k, ⟨t', rfl⟩, q F H _ (Grow.refl e) (.str _)⟩
      refine ⟨?_, fun _ _ => ?_, fun _ _ => ?_⟩
      · rw [Bool.or_eq_false_iff]
        exact ⟨decide_eq_false (by omega), decide_eq_false (by omega)⟩
      · have hb : b = 0 ∨ 1 ≤ b := by omega
        rcases hb with hb | hb
        · subst hb
          omega
        · have : (1000 : Int) ≤ (2 ^ 63 - 1) / b := by
            rw [Int.le_ediv_iff_mul_le (by omega)]
            omega
          omega
      · exact decide_eq_false (Nat.not_lt.mpr (Nat.le_trans (Nat.mul_le_mul hz.2.2.2 (show b.toNat ≤ 10000 by omega)) (by decide)))
    · cases e1
  · cases e1
end
end DL
namespace DL
open PySem PySem.Spec PyProof.Rows L2
/-- where a field lies -/
def fldIx (c f : Str) : Option Nat := (flds c).findIdx? (· == f)
theorem fldIx_get {c f : Str} {k : Nat} (h : fldIx c f = some k) : (flds c)[k]? = some f := by
  unfold fldIx at h
  obtain ⟨h1, h2, _⟩ := List.findIdx?_eq_some_iff_getElem.mp h
  rw [List.getElem?_eq_getElem h1]
  exact congrArg some (eq_of_beq h2)
theorem lookup_at : ∀ {fs : List (Str × V)} {k : Nat} {f : Str} {v : V}, (fs.map (·.1)).Nodup → (fs.map (·.1))[k]? = some f → (fs.map (·.2))[k]? = some v → fs.lookup f = some v
  | [], _, _, _, _, h, _ => by simp at h
  | (g, x) :: r, 0, f, v, _, h, h2 => by
    simp at h h2
    subst h h2
    simp
  | (g, x) :: r, k + 1, f, v, nd, h, h2 => by
    obtain ⟨n1, n2⟩ := List.nodup_cons.mp (show (g :: r.map (·.1)).Nodup from nd)
    have h : (r.map (·.1))[k]? = some f := by simpa using h
    have hne : (f == g) = false := beq_eq_false_iff_ne.mpr fun e => n1 (e ▸ List.mem_of_getElem? h)
    rw [List.lookup_cons, hne]
    exact lookup_at n2 h (by simpa using h2)
theorem lookup_no {fs : List (Str × V)} {f : Str} (h : f ∉ fs.map (·.1)) : fs.lookup f = none := by
  rw [List.lookup_eq_none_iff]
  intro p hp
  exact bne_iff_ne.mpr fun e => h (List.mem_map.mpr ⟨p, hp, e.symm⟩)
theorem take_get {α : Type} {l : List α} {k n : Nat} {x : α} (h : l[k]? = some x) (hk : k < n) : (l.take n)[k]? = some x := by
  rw [List.getElem?_take, if_pos hk]
  exact h
theorem fs_lookup {c f : Str} {fs : List (Str × V)} {k : Nat} {v : V} (nd : (flds c).Nodup) (hn : fs.map (·.1) = (flds c).take fs.length) (hk : fldIx c f = some k) (hv : (fs.map (·.2))[k]? = some v) : fs.lookup f = some v := by
  have hl : k < fs.length := by
    have := (List.getElem?_eq_some_iff.mp hv).1
    rwa [List.length_map] at this
  refine lookup_at ?_ ?_ hv
  · rw [hn]
    exact nd.sublist (List.take_sublist _ _)
  · rw [hn]
    exact take_get (fldIx_get hk) hl
/-- what must hold of a class for its field f -/
structure FldOk (M : Mo) (c f : Str) (k : Nat) : Prop where
  ix : fldIx c f = some k
  nd : (flds c).Nodup
  cl : Cls M.K (He.ga M.K c)
  no : NoAttr M.K (He.ga M.K c) f
  g : M.mg c = some (.ref (He.ga M.K c))
/-- e.f of an instance of the class c -/
def fldD (c : Str) (k : Nat) (d : D) : Option D := match d with
  | .ins c' l => if c' = c then l[k]? else none
  | _ => none
section
variable {X : Cx} {j : J} {o e : Expr} {es : List Expr} {apos pos pos' px : Pos} {da db : List D → R D}
theorem e_fld {c f : Str} {k : Nat} (T : FldOk (mo X) c f k) (h : DE X j e da) (hb : attributeBase e f X.env (eval e X.env) = eval e X.env := by rfl) : DE X j (.Attribute e f pos) (unD (fldD c k) da) :=
  PE.mono (pe_fld h hb) fun σ H Q ⟨W, F, env, rel, q⟩ => ⟨W, F, env, rel, At.bind q fun d env1 W1 F1 H1 v _ r1 x1 p1 q1 => by
    unfold fldD at q1
    cases p1 with
    | @ins c' a C dx fs l g hn ha hr =>
      simp only at q1
      by_cases hc : c' = c
      · rw [if_pos hc] at q1
        subst hc
        cases o : l[k]? with
        | none => rw [o] at q1; exact q1.elim
        | some z =>
          rw [o] at q1
          obtain ⟨w, h2, h3⟩ := hr.get o
          have hC : C = He.ga X.K c' := by
            have := g.symm.trans T.g
            injection this with this
            injection this
          subst hC
          exact ⟨a, _, dx, fs, w, rfl, r1.exF _ _ ha, T.cl, T.no, fs_lookup T.nd hn T.ix h2, q1 W1 F1 H1 w r1 (Ex.refl F1) h3⟩
      · rw [if_neg hc] at q1
        exact q1.elim
    | _ => exact q1.elim⟩
/-- x.f = e, x an owned instance -/
theorem putF_at : ∀ {fs : List (Str × V)} {k : Nat} {f : Str} (v : V), (fs.map (·.1)).Nodup → (fs.map (·.1))[k]? = some f → (putF f v fs).map (·.1) = fs.map (·.1) ∧ (putF f v fs).map (·.2) = (fs.map (·.2)).set k v
  | [], _, _, _, _, h => by simp at h
  | (g, x) :: r, 0, f, v, _, h => by
    simp at h
    subst h
    simp [putF]
  | (g, x) :: r, k + 1, f, v, nd, h => by
    obtain ⟨n1, n2⟩ := List.nodup_cons.mp (show (g :: r.map (·.1)).Nodup from nd)
    have h : (r.map (·.1))[k]? = some f := by simpa using h
    have hne : ¬ g = f := fun e => n1 (e ▸ List.mem_of_getElem? h)
    obtain ⟨a, b⟩ := putF_at v n2 h
    unfold putF
    rw [if_neg hne]
    exact ⟨by rw [List.map_cons, a, List.map_cons], by rw [List.map_cons, b, List.map_cons, List.set_cons_succ]⟩
theorem putF_new : ∀ {fs : List (Str × V)} {f : Str} (v : V), f ∉ fs.map (·.1) → putF f v fs = fs ++ [(f, v)]
  | [], _, _, _ => rfl
  | (g, x) :: r, f, v, h => by
    have hne : ¬ g = f := fun e => h (by rw [← e]; exact List.mem_cons_self)
    unfold putF
    rw [if_neg hne, putF_new v fun z => h (List.mem_cons_of_mem _ z)]
    rfl
def setfD (c : Str) (k i : Nat) (da : List D → R D) : List D → O := fun env => bindS (da env) fun d env1 => match env1.getD i .unb with
  | .mi c' l => if c' = c then (if k < l.length then .nx (env1.set i (.mi c (l.set k d))) else if k = l.length then .nx (env1.set i (.mi c (l ++ [d]))) else .bad) else .bad
  | _ => .bad
theorem s_setf {c f : Str} {k : Nat} (T : FldOk (mo X) c f k) (hsm : (flds c).length < 1000) (i : Nat) {x : Str} (h : PE X (.Name x px) (tVar i)) (he : DE X j e da) (hs : swapsWith e (some (.Attribute (.Name x px) f pos')) pos.line X.env = pure false := by rfl) : DS X j (.Assign [.Attribute (.Name x px) f pos'] e pos) (setfD c k i da) :=
  PS.mono (ps_fld h he hs) fun Dn σ H ⟨W, F, env, rel, q⟩ => ⟨W, F, env, rel, AtS.bind q fun d env1 W1 F1 H1 v _ r1 x1 p1 q0 => by
    have q1 : AtS (mo X) j F1 (match env1.getD i .unb with
      | .mi c' l => if c' = c then (if k < l.length then .nx (env1.set i (.mi c (l.set k d))) else if k = l.length then .nx (env1.set i (.mi c (l ++ [d]))) else .bad) else .bad
      | _ => .bad) Dn := q0
    clear q0
    cases o : env1.getD i .unb with
    | mi c' l =>
      rw [o] at q1
      simp only at q1
      by_cases hc : c' = c
      · rw [if_pos hc] at q1
        subst hc
        have hd : env1.getD i .unb ≠ .unb := by rw [o]; intro z; cases z
        obtain ⟨u, h3, h4⟩ := r1.slot i _ (getD_get hd) hd
        rw [o] at h4
        cases h4 with
        | fz h => cases h
        | @mi _ _ a C dx fs _ w1 w2 ne hg ha hdx hl =>
          have hC : C = He.ga X.K c' := by
            have := hg.1.symm.trans T.g
            injection this with this
            injection this
          subst hC
          have hlen : l.length = fs.length := by rw [hl.length, List.length_map]
          have hfl : fs.length ≤ (flds c').length := by
            have := congrArg List.length hg.2
            rw [List.length_map, List.length_take] at this
            omega
          have ndf : (fs.map (·.1)).Nodup := by
            rw [hg.2]
            exact T.nd.sublist (List.take_sublist _ _)
          refine ⟨.ref a, h3, a, _, dx, fs, rfl, ha, T.cl, T.no, by omega, ?_⟩
          have ne2 : L2.upd H1 a (.ins (He.ga X.K c') dx (putF f v fs)) dx = some (.own a) := by
            rw [upd_ne ne]
            exact hdx
          by_cases hk : k < l.length
          · rw [if_pos hk] at q1
            have hfk : (fs.map (·.1))[k]? = some f := by
              rw [hg.2]
              exact take_get (fldIx_get T.ix) (by omega)
            obtain ⟨e1, e2⟩ := putF_at v ndf hfk
            refine q1 W1 F1 _ σ (r1.write w1 h3 (.mi w1 w2 ne ⟨hg.1, ?_⟩ upd_same ne2 ?_)) (Ex.refl F1)
            · rw [e1, hg.2]
              congr 1
              have := congrArg List.length e1
              rw [List.length_map, List.length_map] at this
              exact this.symm
            · rw [e2]
              exact (hl.upd w1 (Nat.le_refl _)).set p1 k
          · rw [if_neg hk] at q1
            by_cases hk2 : k = l.length
            · rw [if_pos hk2] at q1
              have hfn : f ∉ fs.map (·.1) := fun hm => by
                rw [hg.2] at hm
                obtain ⟨m, hm1, hm2⟩ := List.mem_iff_getElem.mp hm
                rw [List.getElem_take] at hm2
                rw [List.length_take] at hm1
                have h5 := fldIx_get T.ix
                have h6 : (flds c')[m]? = some f := by rw [List.getElem?_eq_getElem (by omega), hm2]
                have := (List.getElem?_inj (by omega) T.nd).mp (h6.trans h5.symm)
                omega
              have e1 := putF_new v hfn
              refine q1 W1 F1 _ σ (r1.write w1 h3 (.mi w1 w2 ne ⟨hg.1, ?_⟩ upd_same ne2 ?_)) (Ex.refl F1)
              · rw [e1, List.map_append, hg.2, List.length_append]
                have h5 := fldIx_get T.ix
                rw [hk2, hlen] at h5
                show List.take fs.length (flds c') ++ [f] = List.take (fs.length + 1) (flds c')
                rw [List.take_succ, h5]
                rfl
              · rw [e1, List.map_append]
                exact (hl.upd w1 (Nat.le_refl _)).snoc p1
            · rw [if_neg hk2] at q1
              exact q1.elim
      · rw [if_neg hc] at q1
        exact q1.elim
    | _ => rw [o] at q1; exact q1.elim⟩
end
section
variable {X : Cx} {CX : CXT} {k : Nat} {f C : Addr} {fd : FuncData} {ps : List Str} {sp : Sp} {E : L2.St → XK} {m : Str} {pos apos : Pos} {e o : Expr} {es : List Expr} {ta : TE} {t : TA}
def tMethP (C : Addr) (m : Str) (sp : Sp) (E : L2.St → XK) (ta : TE) (t : TA) : TE := fun σ H Q => ta σ H fun x H1 => ∃ a dx fs, x = .ref a ∧ H1 a = some (.ins C dx fs) ∧ fs.lookup m = none ∧ t σ H1 fun vs H2 => sp (x :: vs) H2 Q (E σ)
theorem pe_methP {pl : Sem Bool} (he : PE X o ta) (c : Cls X.K C) (hm : Meth X.K C m f) (F : FnOk X.prog X.w X.K X.mg X.base CX k f fd ps sp) (hr : Room k X.A) (hb : Binds X.K fd ps []) (hx : ∀ σ, PassesAt CX X σ (E σ)) (ha : PA X (e :: es) t)
    (hst : starEach (e :: es) X.env = (false, eval e X.env) :: starEach es X.env) (hpl : (backTo pos (starEach es X.env)).any (·.1) = false)
    (ht : eval (.Call (.Attribute o m apos) (e :: es) [] pos) X.env = (do
      let ov ← eval o X.env
      standAt apos.atName
      let (f, first) ← holding [ov] (getMethod ov m pl)
      callWith pos f first (backTo pos (starEach (e :: es) X.env)) (backToKw pos (keywordEach [] X.env)))) :
    PE X (.Call (.Attribute o m apos) (e :: es) [] pos) (tMethP C m sp E ta t) := ⟨fun pins s σ H Q I h => by
  refine PySem.W.methodCall_KW (pl := pl) (thn (he.run pins s σ H _ I h) fun u s1 ⟨x, H1, I1, rx, a, dx, fs, ex, ea, l, q⟩ => ?_) ht
  subst ex
  obtain rfl : u = Value.ref a := rx
  exact getmeth_ok I1 ea c hm l (PySem.W.callWith_K (first := [.ref a]) (h₀ := X.base) I.ok.mod.kin hm.kp (thn (ha.run pos pins s1 σ H1 _ I1 q) fun us s2 ⟨vs, H2, I2, r, q2⟩ => ⟨I2.kIn, run_fnS (us := .ref a :: us) (vs := .ref a :: vs) F hr hb (hx σ) I2 (.cons rfl r) q2⟩) hst hpl)⟩
theorem pe_methP0 {pl : Sem Bool} (he : PE X o ta) (c : Cls X.K C) (hm : Meth X.K C m f) (F : FnOk X.prog X.w X.K X.mg X.base CX k f fd ps sp) (hr : Room k X.A) (hb : Binds X.K fd ps []) (hx : ∀ σ, PassesAt CX X σ (E σ))
    (ht : eval (.Call (.Attribute o m apos) [] [] pos) X.env = (do
      let ov ← eval o X.env
      standAt apos.atName
      let (f, first) ← holding [ov] (getMethod ov m pl)
      callWith pos f first (backTo pos (starEach [] X.env)) (backToKw pos (keywordEach [] X.env)))) :
    PE X (.Call (.Attribute o m apos) [] [] pos) (tMethP C m sp E ta tNil) := ⟨fun pins s σ H Q I h => by
  refine PySem.W.methodCall_KW (pl := pl) (thn (he.run pins s σ H _ I h) fun u s1 ⟨x, H1, I1, rx, a, dx, fs, ex, ea, l, q⟩ => ?_) ht
  subst ex
  obtain rfl : u = Value.ref a := rx
  exact getmeth_ok I1 ea c hm l (PySem.W.callWith_K0 (first := [.ref a]) I1.kIn hm.kp (run_fnS (us := [.ref a]) (vs := [.ref a]) F hr hb (hx σ) I1 (.cons rfl .nil) q))⟩
end
/-- a class and one of its methods -/
structure MethOk (M : Mo) (c m : Str) : Prop where
  cl : Cls M.K (He.ga M.K c)
  me : Meth M.K (He.ga M.K c) m (He.ma M.K (He.ga M.K c) m)
  no : m ∉ flds c
  g : M.mg c = some (.ref (He.ga M.K c))
def selfD (c : Str) (x : D) : Bool := match x with
  | .ins c' _ => decide (c' = c)
  | _ => false
/-- o.m(..), o no owned thing -/
def methO (c : Str) (n : Nat) (io : List Nat) (g : List D → FR) (do_ : List D → R D) (da : List D → R (List Ar)) : List D → R D := fun env => bindR (do_ env) fun x env1 => if selfD c x = true then callO n io g (fun env => bindR (da env) fun as env2 => .ok (.v x :: as) env2) env1 else .bad
section
variable {X : Cx} {j : J} {d : He.DefD} {fd : FuncData} {ps : List Str} {io : List Nat} {G : List D → FR} {k m n i : Nat} {c meth x : Str} {apos pos px : Pos} {e o : Expr} {es : List Expr} {do_ : List D → R D} {da : List D → R (List Ar)}
theorem Rp.self {M : Mo} {F H : Hp} {x : D} {v : V} {meth c : Str} (T : MethOk M c meth) (p : Rp M F x v) (h : selfD c x = true) (ex : Ex F H) : ∃ a dx fs, v = .ref a ∧ H a = some (.ins (He.ga M.K c) dx fs) ∧ fs.lookup meth = none := by
  unfold selfD at h
  cases p with
  | @ins c' a C dx fs l g hn ha hr =>
    have hc := of_decide_eq_true h
    subst hc
    have hC : C = He.ga M.K c' := by
      have := g.symm.trans T.g
      injection this with this
      injection this
    subst hC
    exact ⟨a, dx, fs, rfl, ex _ _ ha, lookup_no fun hm => T.no (List.mem_of_mem_take (hn ▸ hm))⟩
  | _ => cases h
theorem meth_at {σ : L2.St} {H : Hp} {Q : VK} (lo : OutLen io G) (T : MethOk (mo X) c meth) (h : tO (mo X) j (methO c n io G do_ da) σ H Q) :
    tMethP (He.ga X.K c) meth (spD (mo X) n io G) (WE j.wx) (tE (mo X) j do_) (fun σ H Q => tR (mo X) j.e j.wx (RaL (mo X) σ) da σ H Q) σ H Q := by
  obtain ⟨W, F, env, rel, q⟩ := h
  refine ⟨W, F, env, rel, AtO.bind q fun x env1 W1 F1 H1 v _ r1 x1 p1 q1 => ?_⟩
  by_cases hs : selfD c x = true
  · rw [if_pos hs] at q1
    obtain ⟨a, dx, fs, e1, e2, e3⟩ := p1.self T hs r1.exF
    refine ⟨a, dx, fs, e1, e2, e3, W1, F1, env1, r1, ?_⟩
    have q2 : AtO (mo X) j F1 σ (bindR (da env1) fun as env2 => callO n io G (fun env => .ok (.v x :: as) env) env2) Q := by
      have e : callO n io G (fun env => bindR (da env) fun as env2 => .ok (.v x :: as) env2) env1 = (bindR (da env1) fun as env2 => callO n io G (fun env => .ok (.v x :: as) env) env2) := by
        unfold callO
        dsimp only
        cases da env1 <;> rfl
      rw [← e]
      exact q1
    exact AtO.bind q2 fun as env2 W2 F2 H2 vs _ r2 x2 p2 q3 => call_at (as := .v x :: as) (vs := v :: vs) lo r2 ⟨v, vs, rfl, p1.mono x2, p2⟩ q3
  · rw [if_neg hs] at q1
    exact q1.elim
theorem o_meth {pl : Sem Bool} (F : Df X.prog X.w X.K X.mg X.base d fd ps io G k) (hb : Binds X.K fd ps []) (hat : He.fAd X.K d.at_ = He.ma X.K (He.ga X.K c) meth) (T : MethOk (mo X) c meth) (hr : Room m X.A) (tk : Takes X j.wx) (ho : DE X j o do_) (ha : DAr X j (e :: es) da) (hn : ps.length = n := by rfl) (hk : k ≤ m := by decide)
    (he : starEach (e :: es) X.env = (false, eval e X.env) :: starEach es X.env := by rfl) (hpl : (backTo pos (starEach es X.env)).any (·.1) = false := by rfl)
    (ht : eval (.Call (.Attribute o meth apos) (e :: es) [] pos) X.env = (do
      let ov ← eval o X.env
      standAt apos.atName
      let (f, first) ← holding [ov] (getMethod ov meth pl)
      callWith pos f first (backTo pos (starEach (e :: es) X.env)) (backToKw pos (keywordEach [] X.env))) := by rfl) : DO X j (.Call (.Attribute o meth apos) (e :: es) [] pos) (methO c n io G do_ da) := by
  subst hn
  have ok := F.ok
  rw [hat] at ok
  exact PE.mono (pe_methP ho T.cl T.me ok (hr.mono hk) hb (fun σ => passAt tk σ) ha he hpl ht) fun σ H Q h => meth_at F.lo T h
theorem o_meth0 {pl : Sem Bool} (F : Df X.prog X.w X.K X.mg X.base d fd ps io G k) (hb : Binds X.K fd ps []) (hat : He.fAd X.K d.at_ = He.ma X.K (He.ga X.K c) meth) (T : MethOk (mo X) c meth) (hr : Room m X.A) (tk : Takes X j.wx) (ho : DE X j o do_) (hn : ps.length = n := by rfl) (hk : k ≤ m := by decide)
    (ht : eval (.Call (.Attribute o meth apos) [] [] pos) X.env = (do
      let ov ← eval o X.env
      standAt apos.atName
      let (f, first) ← holding [ov] (getMethod ov meth pl)
      callWith pos f first (backTo pos (starEach [] X.env)) (backToKw pos (keywordEach [] X.env))) := by rfl) : DO X j (.Call (.Attribute o meth apos) [] [] pos) (methO c n io G do_ nilA) := by
  subst hn
  have ok := F.ok
  rw [hat] at ok
  exact PE.mono (pe_methP0 ho T.cl T.me ok (hr.mono hk) hb (fun σ => passAt tk σ) ht) fun σ H Q h => by
    have := meth_at F.lo T h
    obtain ⟨W, F', env, rel, q⟩ := this
    refine ⟨W, F', env, rel, ?_⟩
    revert q
    cases do_ env with
    | ok x env1 =>
      intro q W1 F1 H1 v r1 x1 p1
      obtain ⟨a, dx, fs, e1, e2, e3, W2, F2, env2, r2, q2⟩ := q W1 F1 H1 v r1 x1 p1
      exact ⟨a, dx, fs, e1, e2, e3, q2 W2 F2 H1 [] r2 (Ex.refl F2) rfl⟩
    | ex c fs env1 => exact fun q => q
    | bad => exact fun q => q
end
end DL
namespace DL
open PySem PySem.Spec PyProof.Rows L2
section
variable {X : Cx} {CX : CXT} {k : Nat} {f C : Addr} {fd : FuncData} {ps : List Str} {sp : Sp} {E : L2.St → XK} {x : Str} {p pos : Pos} {e : Expr} {es : List Expr} {t : TA}
theorem run_makeP {pins : List (Addr × Obj)} {σ : L2.St} {H : Hp} {s : Shared} {Q : VK} {us : List Value} {vs : List V} (M : Mk X.K C f) (F : FnOk X.prog X.w X.K X.mg X.base CX k f fd ps sp) (hr : Room (k + 1) X.A) (hb : Binds X.K fd ps [])
    (hx : PassesAt CX X σ (E σ)) (I : Inv X pins σ H s) (r : Vals vs us) (h : ∀ x dx, H x = none → H dx = none → dx ≠ x → sp (.ref x :: vs) (upd (upd H dx (.own x)) x (.ins C dx [])) (fun v H2 => v = .non ∧ Q (.ref x) H2) (E σ)) :
    wpAny (model X.prog X.w) X.A (call (.ref C) us) (EP X pins σ Q) X.xe s := by
  have n := s.heap.objs.size
  have hq := h (s.heap.objs.size + 1) s.heap.objs.size (I.hok.fresh (Nat.le_succ _)) (I.hok.fresh (Nat.le_refl _)) (Nat.ne_of_lt (Nat.lt_succ_self _))
  have I2 := Inv.made (C := C) I
  have r2 : Vals (V.ref (s.heap.objs.size + 1) :: vs) (Value.ref (s.heap.objs.size + 1) :: us) := .cons rfl r
  have hl : (Value.ref (s.heap.objs.size + 1) :: us ++ []).length = ps.length := by
    rw [List.append_nil, ← r2.length]
    exact F.len _ _ _ _ hq
  have b := hb _ (Value.ref (s.heap.objs.size + 1) :: us) I2.kIn hl
  rw [List.append_nil] at b
  refine wpAny_call (make_map (f := f) I.kIn M.makes M.init (beq_iff_eq.mp M.fn) (codeAny_mono (F.run _ X.stack _ _ ⟨Value.ref (s.heap.objs.size + 1) :: us, []⟩ (Value.ref (s.heap.objs.size + 1) :: us) _ _ (E σ) (hr.make C us []) (I2.env0.make C us []) b r2 hq) fun z s1 hz => ?_))
  cases z with
  | error u => exact hx pins _ _ u s1 I2 hz
  | ok fl =>
    cases fl with
    | ret u =>
      obtain ⟨v, H', I3, rv, ev, q3⟩ := I2.after hz
      subst ev
      exact ⟨rv, ⟨V.ref (s.heap.objs.size + 1), H', I3, rfl, q3⟩⟩
    | next => exact hz.elim
    | brk => exact hz.elim
    | cont => exact hz.elim
def tMakeP (C : Addr) (sp : Sp) (E : L2.St → XK) (t : TA) : TE := fun σ H Q => t σ H fun vs H1 => ∀ x dx, H1 x = none → H1 dx = none → dx ≠ x →
  sp (.ref x :: vs) (upd (upd H1 dx (.own x)) x (.ins C dx [])) (fun v H2 => v = .non ∧ Q (.ref x) H2) (E σ)
theorem pe_makeP (M : Mk X.K C f) (F : FnOk X.prog X.w X.K X.mg X.base CX k f fd ps sp) (hr : Room (k + 1) X.A) (hg : Gl X x) (hm : X.mg x = some (.ref C)) (hb : Binds X.K fd ps []) (hx : ∀ σ, PassesAt CX X σ (E σ))
    (ha : PA X (e :: es) t) (hdb : (x == ("__debug__" : Str)) = false) (he : starEach (e :: es) X.env = (false, eval e X.env) :: starEach es X.env) (hpl : (backTo pos (starEach es X.env)).any (·.1) = false) :
    PE X (.Call (.Name x p) (e :: es) [] pos) (tMakeP C sp E t) := ⟨fun pins s σ H Q I h => by
  refine wpAny_Call_Name_kw (ld_glob I hg hm (PySem.W.callWith_K (h₀ := X.base) I.ok.mod.kin M.kp (thn (ha.run pos pins s σ H _ I h) fun us s1 ⟨vs, H1, I1, r, q⟩ => ⟨I1.kIn, ?_⟩) he hpl) hdb)
  exact run_makeP M F hr hb (hx σ) I1 r q⟩
end
/-- the new instance of the class c, as __init__ leaves it -/
def makeO (c : Str) (n : Nat) (G : List D → FR) (dl : List D → R (List D)) : List D → R D := fun env => bindR (dl env) fun ds env1 => if ds.length + 1 = n then match G (.mi c [] :: ds) with
  | .ret .non [d] => if ownd d = true then .ok d env1 else .bad
  | .exc x fs _ => .ex x fs env1
  | _ => .bad
else .bad
/-- what is new behind a making -/
def newI (W W' : Own) : Own := fun a => match W a with
  | some p => some p
  | none => match W' a with
    | some (1 :: q) => some (0 :: q)
    | _ => none
theorem make_at {X : Cx} {j : J} {σ : L2.St} {W : Own} {F H : Hp} {env : List D} {ds : List D} {vs : List V} {Q : VK} {c : Str} {n : Nat} {G : List D → FR} {C x dx : Addr} (hC : X.mg c = some (.ref C)) (rel : Rel (mo X) j.e W F H env σ) (p : RpL (mo X) F ds vs) (hn : ds.length + 1 = n)
    (nx : H x = none) (nd : H dx = none) (ne : dx ≠ x)
    (q : AtO (mo X) j F σ (match G (.mi c [] :: ds) with
      | .ret .non [d] => if ownd d = true then .ok d env else .bad
      | .exc x fs _ => .ex x fs env
      | _ => .bad) Q) : spD (mo X) n [0] G (.ref x :: vs) (upd (upd H dx (.own x)) x (.ins C dx [])) (fun v H2 => v = .non ∧ Q (.ref x) H2) (WE j.wx σ) := by
  have hW : ∀ a, W a ≠ none → a ≠ x ∧ a ≠ dx := fun a h => ⟨fun e => (rel.sep a h).2.2 (e ▸ nx), fun e => (rel.sep a h).2.2 (e ▸ nd)⟩
  have Fx : F x = none := rel.exF.none nx
  have Fd : F dx = none := rel.exF.none nd
  let Wc : Own := fun a => if a = x ∨ a = dx then some [1] else none
  have wx : Wc x = some [1] := if_pos (.inl rfl)
  have wd : Wc dx = some [1] := if_pos (.inr rfl)
  have wo : ∀ a, Wc a ≠ none → a = x ∨ a = dx := fun a h => Classical.byContradiction fun z => h (if_neg z)
  let H2 : Hp := upd (upd H dx (.own x)) x (.ins C dx [])
  have h2x : H2 x = some (.ins C dx []) := upd_same
  have h2d : H2 dx = some (.own x) := by
    show upd (upd H dx (.own x)) x (.ins C dx []) dx = _
    rw [upd_ne ne, upd_same]
  have h2o : ∀ a, a ≠ x → a ≠ dx → H2 a = H a := fun a h1 h3 => by
    show upd (upd H dx (.own x)) x (.ins C dx []) a = _
    rw [upd_ne h1, upd_ne h3]
  have hEx : Ex H H2 := fun a o h => by
    have h1 : a ≠ x := fun e => by rw [e, nx] at h; cases h
    have h3 : a ≠ dx := fun e => by rw [e, nd] at h; cases h
    rw [h2o a h1 h3]
    exact h
  have eF : Ex F H2 := rel.exF.trans hEx
  have rb : RelB ⟨H2, F, Wc, pinOf [0] (.ref x :: vs)⟩ Wc F H2 := ⟨fun b o _ h => h, Ex.refl F, eF, fun a h => by
    rcases wo a h with rfl | rfl
    · exact ⟨Fx, .inl h, by rw [h2x]; simp⟩
    · exact ⟨Fd, .inl h, by rw [h2d]; simp⟩, fun a r q h => by
    have hh : Wc a = some [1] := by
      rcases wo a (by rw [h]; simp) with rfl | rfl
      · exact wx
      · exact wd
    rw [hh] at h
    injection h with h
    injection h with h1 h3
    exact .inr ⟨0, .ref x, [], h1.symm, rfl, by rw [← h1]; exact hh⟩, fun b h => .inl h, fun b h => h, fun _ _ _ h => h, fun _ _ _ h _ => h, fun a h => by
    rcases wo a h with rfl | rfl
    · exact FlatT.not h2x flat_ins
    · exact FlatT.not h2d flat_own⟩
  refine ⟨Wc, F, .mi c [] :: ds, by rw [List.length_cons, ← p.length]; exact hn, by rw [List.length_cons]; exact hn, rb, fun i d h => ?_, ?_⟩
  · cases i with
    | zero =>
      cases h
      exact ⟨(by intro z; cases z), .ref x, rfl, .mi wx wd ne ⟨hC, rfl⟩ h2x h2d .nil⟩
    | succ i =>
      obtain ⟨v, h1, h3⟩ := p.get (show ds[i]? = some d by simpa using h)
      refine ⟨(by intro z; subst z; cases h3), v, by simpa using h1, .fz h3⟩
  -- back in the caller
  have back : ∀ {W' F' H' W2}, RelB ⟨H2, F, Wc, pinOf [0] (.ref x :: vs)⟩ W' F' H' → (∀ a, W2 a ≠ none → W a ≠ none ∨ (W' a ≠ none)) → (∀ a p, W a = some p → W2 a = some p) → (∀ a, W a = none → W2 a ≠ none → H a = none) → (∀ a r q, W a = none → W2 a = some (r :: q) → True) → Rel (mo X) j.e W2 F' H' env σ := by
    intro W' F' H' W2 rb' hw1 hw2 hw3 _
    have keep : ∀ b o, H b = some o → H' b = some o := fun b o h => by
      have h1 : b ≠ x := fun e => by rw [e, nx] at h; cases h
      have h3 : b ≠ dx := fun e => by rw [e, nd] at h; cases h
      refine rb'.pres b o (if_neg fun z => z.elim h1 h3) ?_
      rw [show (⟨H2, F, Wc, pinOf [0] (.ref x :: vs)⟩ : Ent).H0 b = H2 b from rfl, h2o b h1 h3]
      exact h
    refine ⟨⟨fun b o h1 h3 => keep b o (rel.pres b o h1 h3), rel.exF0.trans rb'.exF0, rb'.exF, fun a h => ?_, fun a r q h => ?_, fun b h => ?_, fun b h => ?_, fun b o hf h => keep b _ (rel.tups b o hf h), fun b o hf h z => rel.tupr b o hf (by
      cases y : H b with
      | none => exact absurd y (rel.stay b z)
      | some u => rw [← h, keep b u y]) z, fun a h => ?_⟩, rel.len, fun i d h1 h3 => ?_, rel.pin⟩
    · cases z : W a with
      | some p =>
        have s1 := rel.sep a (by rw [z]; simp)
        refine ⟨?_, s1.2.1, ?_⟩
        · cases y : F' a with
          | none => rfl
          | some o =>
            obtain ⟨h5, h6⟩ := hW a (by rw [z]; simp)
            rcases rb'.new a (by rw [y]; simp) with h4 | h4 | ⟨o2, h4, hf⟩
            · exact absurd s1.1 h4
            · rw [show (⟨H2, F, Wc, pinOf [0] (.ref x :: vs)⟩ : Ent).H0 a = H2 a from rfl, h2o a h5 h6] at h4
              exact absurd h4 s1.2.2
            · rw [show (⟨H2, F, Wc, pinOf [0] (.ref x :: vs)⟩ : Ent).H0 a = H2 a from rfl, h2o a h5 h6] at h4
              exact absurd ⟨o2, h4, hf⟩ (rel.nof a (by rw [z]; simp))
        · cases y : H a with
          | none => exact absurd y s1.2.2
          | some o => rw [keep a o y]; simp
      | none =>
        rcases hw1 a h with h4 | h4
        · exact absurd z h4
        · have s2 := rb'.sep a h4
          refine ⟨s2.1, .inr ?_, s2.2.2⟩
          have h5 := hw3 a z h
          cases y : j.e.H0 a with
          | none => rfl
          | some o => exact absurd h5 (rel.stay a (by rw [y]; simp))
    · cases z : W a with
      | some p =>
        rw [hw2 a p z] at h
        cases h
        exact rel.fresh a r q z
      | none =>
        refine .inl ?_
        have h5 := hw3 a z (by rw [h]; simp)
        cases y : j.e.H0 a with
        | none => rfl
        | some o => exact absurd h5 (rel.stay a (by rw [y]; simp))
    · rcases rb'.new b h with h4 | h4 | ⟨o2, h4, hf⟩
      · exact rel.new b h4
      rotate_left
      · cases y : j.e.H0 b with
        | none => exact .inr (.inl rfl)
        | some o =>
          have h6 : H b ≠ none := rel.stay b (by rw [y]; simp)
          have h7 : b ≠ x := fun e => h6 (e ▸ nx)
          have h8 : b ≠ dx := fun e => h6 (e ▸ nd)
          rw [show (⟨H2, F, Wc, pinOf [0] (.ref x :: vs)⟩ : Ent).H0 b = H2 b from rfl, h2o b h7 h8] at h4
          exact .inr (.inr ⟨o2, rel.tupr b o2 hf h4 (by rw [y]; simp), hf⟩)
      · refine .inr (.inl ?_)
        cases y : j.e.H0 b with
        | none => rfl
        | some o =>
          have h6 : H b ≠ none := rel.stay b (by rw [y]; simp)
          have h7 : b ≠ x := fun e => h6 (e ▸ nx)
          have h8 : b ≠ dx := fun e => h6 (e ▸ nd)
          rw [show (⟨H2, F, Wc, pinOf [0] (.ref x :: vs)⟩ : Ent).H0 b = H2 b from rfl, h2o b h7 h8] at h4
          exact absurd h4 h6
    · have h6 : H b ≠ none := rel.stay b h
      cases y : H b with
      | none => exact absurd y h6
      | some o => rw [keep b o y]; simp
    · cases z : W a with
      | some p =>
        rintro ⟨o2, h4, hf⟩
        cases y : H a with
        | none => exact (rel.sep a (by rw [z]; simp)).2.2 y
        | some o =>
          rw [keep a o y] at h4
          cases h4
          exact rel.nof a (by rw [z]; simp) ⟨_, y, hf⟩
      | none =>
        rcases hw1 a h with h4 | h4
        · exact absurd z h4
        · exact rb'.nof a h4
    · obtain ⟨v, h4, h5⟩ := rel.slot i d h1 h3
      exact ⟨v, h4, h5.tr rb'.exF0 fun a q z => ⟨hw2 a _ z, keep a⟩⟩
  cases o : G (.mi c [] :: ds) with
  | bad => rw [o] at q; exact q.elim
  | exc cn fs outs =>
    rw [o] at q
    intro W' F' H' cls dd rb' xr _
    exact q W F' H' cls dd (back rb' (fun a h => .inl h) (fun a p h => h) (fun a h1 h3 => absurd h1 h3) fun _ _ _ _ _ => trivial) rb'.exF0 xr
  | ret d outs =>
    rw [o] at q
    intro W' F' H' v rb' pv oo
    have hd : d = .non := by
      cases d with
      | non => rfl
      | _ => exact q.elim
    subst hd
    have hv : v = .non := by
      cases pv with
      | fz h => cases h; rfl
    refine ⟨hv, ?_⟩
    match outs, q with
    | [d], q =>
      have q : AtO (mo X) j F σ (if ownd d = true then .ok d env else .bad) Q := q
      by_cases hw : ownd d = true
      case neg =>
        rw [if_neg hw] at q
        exact q.elim
      rw [if_pos hw] at q
      have hd : d ≠ .unb := fun e => by rw [e] at hw; cases hw
      obtain ⟨v', e1, e2⟩ := oo 0 0 d rfl rfl hd
      cases e1
      have nw : ∀ a q, W' a = some (1 :: q) → W a = none := fun a q h => by
        cases z : W a with
        | none => rfl
        | some p =>
          have s1 := (rb'.sep a (by rw [h]; simp)).2.1
          obtain ⟨h5, h6⟩ := hW a (by rw [z]; simp)
          rcases s1 with s1 | s1
          · exact absurd (if_neg fun y => y.elim h5 h6) s1
          · rw [show (⟨H2, F, Wc, pinOf [0] (.ref x :: vs)⟩ : Ent).H0 a = H2 a from rfl, h2o a h5 h6] at s1
            exact absurd s1 (rel.sep a (by rw [z]; simp)).2.2
      refine q (newI W W') F' H' (.ref x) (back rb' (fun a h => ?_) (fun a p h => ?_) (fun a h1 h3 => ?_) fun _ _ _ _ _ => trivial) rb'.exF0 (e2.tr (Ex.refl F') fun a r z => ⟨?_, fun o h => h⟩)
      · unfold newI at h
        cases z : W a with
        | some p => exact .inl (by simp)
        | none =>
          rw [z] at h
          refine .inr fun y => ?_
          rw [y] at h
          exact h rfl
      · unfold newI
        rw [h]
      · unfold newI at h3
        rw [h1] at h3
        simp only at h3
        have h4 : W' a ≠ none := fun y => by
          rw [y] at h3
          exact h3 rfl
        rcases (rb'.sep a h4).2.1 with s1 | s1
        · rcases wo a s1 with rfl | rfl
          · exact nx
          · exact nd
        · have s1 : H2 a = none := s1
          cases y : H a with
          | none => rfl
          | some o => rw [hEx a o y] at s1; cases s1
      · have z : W' a = some (1 :: r) := z
        unfold newI
        rw [nw a r z, z]
        rfl
/-- a class that is made -/
structure MakeOk (M : Mo) (c : Str) : Prop where
  mkr : Mk M.K (He.ga M.K c) (He.ma M.K (He.ga M.K c) "__init__")
  g : M.mg c = some (.ref (He.ga M.K c))
section
variable {X : Cx} {j : J} {d : He.DefD} {fd : FuncData} {ps : List Str} {G : List D → FR} {k m n : Nat} {c : Str} {pos p : Pos} {e : Expr} {es : List Expr} {dl : List D → R (List D)}
theorem o_make (F : Df X.prog X.w X.K X.mg X.base d fd ps [0] G k) (hb : Binds X.K fd ps []) (hat : He.fAd X.K d.at_ = He.ma X.K (He.ga X.K c) "__init__") (T : MakeOk (mo X) c) (hr : Room m X.A) (tk : Takes X j.wx) (ha : DL X j (e :: es) dl) (hn : ps.length = n := by rfl) (hk : k + 1 ≤ m := by decide)
    (hg : Gl X c := by rfl) (hdb : (c == ("__debug__" : Str)) = false := by decide) (he : starEach (e :: es) X.env = (false, eval e X.env) :: starEach es X.env := by rfl) (hpl : (backTo pos (starEach es X.env)).any (·.1) = false := by rfl) :
    DO X j (.Call (.Name c p) (e :: es) [] pos) (makeO c n G dl) := by
  subst hn
  have ok := F.ok
  rw [hat] at ok
  exact PE.mono (pe_makeP T.mkr ok (hr.mono hk) hg T.g hb (fun σ => passAt tk σ) ha hdb he hpl) fun σ H Q ⟨W, F', env, rel, q⟩ => ⟨W, F', env, rel, AtO.bind q fun ds env1 W1 F1 H1 vs _ r1 x1 p1 q1 => fun x dx nx nd ne => by
    by_cases hn : ds.length + 1 = ps.length
    · rw [if_pos hn] at q1
      exact make_at T.g r1 p1 hn nx nd ne q1
    · rw [if_neg hn] at q1
      exact q1.elim⟩
end
end DL
namespace DL
open PySem PySem.Spec PyProof.Rows L2
def keyD : D → Option Key
  | .int i => some (.inl i)
  | .str s => some (.inr s)
  | _ => none
theorem Rp.key {M : Mo} {F : Hp} {d : D} {v : V} {k : Key} (h : Rp M F d v) (e : keyD d = some k) : v = kV k := by
  cases h <;> first | (cases e; rfl) | cases e
def dictAt (env : List D) (i : Nat) : Option (List Key × List D) := match env.getD i .unb with
  | .md ks l => some (ks, l)
  | _ => none
theorem dictAt_some {env : List D} {i : Nat} {ks : List Key} {l : List D} (h : dictAt env i = some (ks, l)) : env[i]? = some (.md ks l) ∧ env.getD i .unb = .md ks l := by
  have e : env.getD i .unb = .md ks l := by
    unfold dictAt at h
    split at h
    · rename_i ks' l' hl
      cases h
      exact hl
    · cases h
  exact ⟨by rw [getD_get (by rw [e]; intro z; cases z), e], e⟩
theorem Rel.dict {M : Mo} {e : Ent} {W : Own} {F H : Hp} {env : List D} {σ : L2.St} {i : Nat} {ks : List Key} {l : List D} (r : Rel M e W F H env σ) (h : dictAt env i = some (ks, l)) :
    ∃ a kvs, σ[i]? = some (some (.ref a)) ∧ W a = some [i + 1] ∧ H a = some (.dK kvs) ∧ kvs.map (·.1) = ks ∧ OwL M W F H [i + 1] 0 l (kvs.map (·.2)) := by
  obtain ⟨v, h1, h2⟩ := r.slot i _ (dictAt_some h).1 (by intro z; cases z)
  cases h2 with
  | fz p => cases p
  | md w1 w2 w3 w4 => exact ⟨_, _, h1, w1, w2, w3, w4⟩
def putVs : List Key → List D → Key → D → List D
  | x :: ks, d :: l, k, e => (if x = k then e else d) :: putVs ks l k e
  | _, l, _, _ => l
def hasK (k : Key) (ks : List Key) : Bool := ks.any fun x => decide (x = k)
def putKs (ks : List Key) (k : Key) : List Key := if hasK k ks = true then ks else ks ++ [k]
def putDs (ks : List Key) (l : List D) (k : Key) (e : D) : List D := if hasK k ks = true then putVs ks l k e else l ++ [e]
theorem putVs_ow {M : Mo} {W : Own} {F H : Hp} {d : D} {v : V} (p : Rp M F d v) (k : Key) : ∀ {q : List Nat} {m : Nat} {kvs : List (Key × V)} {l : List D}, OwL M W F H q m l (kvs.map (·.2)) →
    OwL M W F H q m (putVs (kvs.map (·.1)) l k d) ((kvs.map fun kv => if kv.1 = k then (kv.1, v) else kv).map (·.2))
  | _, _, [], _, .nil => .nil
  | _, _, (x, u) :: r, _, .cons h t => by
    simp only [List.map_cons]
    unfold putVs
    by_cases e : x = k
    · rw [if_pos e, if_pos e]
      exact .cons (.fz p) (putVs_ow p k t)
    · rw [if_neg e, if_neg e]
      exact .cons h (putVs_ow p k t)
theorem any_mem {k : Key} : ∀ kvs : List (Key × V), (kvs.any fun kv => decide (kv.1 = k)) = hasK k (kvs.map (·.1)) := fun kvs => by
  unfold hasK
  rw [List.any_map]
  rfl
theorem put_ow {M : Mo} {W : Own} {F H : Hp} {d : D} {v : V} (p : Rp M F d v) (k : Key) {q : List Nat} {kvs : List (Key × V)} {l : List D} (h : OwL M W F H q 0 l (kvs.map (·.2))) :
    (putK kvs k v).map (·.1) = putKs (kvs.map (·.1)) k ∧ OwL M W F H q 0 (putDs (kvs.map (·.1)) l k d) ((putK kvs k v).map (·.2)) := by
  unfold putK putKs putDs
  rw [any_mem]
  by_cases e : hasK k (kvs.map (·.1)) = true
  · rw [if_pos e, if_pos e, if_pos e]
    refine ⟨?_, putVs_ow p k h⟩
    rw [List.map_map]
    refine List.map_congr_left fun kv _ => ?_
    show (if kv.1 = k then (kv.1, v) else kv).1 = kv.1
    split <;> rfl
  · rw [if_neg e, if_neg e, if_neg e]
    refine ⟨by rw [List.map_append]; rfl, ?_⟩
    rw [List.map_append]
    exact h.snoc p
theorem valV_key {k : Key} (kvs : List (Key × V)) : (valV kvs k).isSome = hasK k (kvs.map (·.1)) := by rw [← valV_any, any_mem]
def dict0 : List D → R D := fun env => .ok (.md [] []) env
def dputD (i : Nat) (da dk : List D → R D) : List D → O := fun env => bindS (da env) fun d env1 => if (dictAt env1 i).isSome = true then bindS (dk env1) fun k env2 => match keyD k, dictAt env2 i with
  | some k, some (ks, l) => if l.length < sizeLine then .nx (env2.set i (.md (putKs ks k) (putDs ks l k d))) else .bad
  | _, _ => .bad
else .bad
def dinD (i : Nat) (dk : List D → R D) : List D → R D := fun env => bindR (dk env) fun k env1 => match keyD k, dictAt env1 i with
  | some k, some (ks, _) => .ok (.bl (hasK k ks)) env1
  | _, _ => .bad
section
variable {X : Cx} {j : J} {e b : Expr} {x : Str} {pos pos' px : Pos} {da dk : List D → R D} {k : Nat}
theorem o_dict0 : DO X j (.Dict [] [] pos) dict0 := PE.mono pe_dnewK fun σ H Q ⟨W, F, env, rel, q⟩ p n => q _ F _ _ (rel.newH n) (Ex.refl F) (.md newW_self upd_same rfl .nil)
theorem s_dput (i : Nat) (hu : X.A.units + 1 < cLine) (h : PE X (.Name x px) (tVar i)) (hk : DE X j b dk) (he : DE X j e da) (hs : swapsWith e (some (.Subscript (.Name x px) b pos')) pos.line X.env = pure false := by rfl) : DS X j (.Assign [.Subscript (.Name x px) b pos'] e pos) (dputD i da dk) :=
  PS.mono (ps_dput hu h hk he hs) fun Dn σ H ⟨W, F, env, rel, q⟩ => ⟨W, F, env, rel, AtS.bind q fun d env1 W1 F1 H1 v _ r1 x1 p1 q1 => by
    by_cases o : (dictAt env1 i).isSome = true
    · rw [if_pos o] at q1
      obtain ⟨⟨ks0, l0⟩, e0⟩ := Option.isSome_iff_exists.mp o
      obtain ⟨a0, kvs0, s0, _⟩ := r1.dict e0
      refine ⟨_, s0, W1, F1, env1, r1, AtS.bind q1 fun kd env2 W2 F2 H2 v2 _ r2 x2 p2 q2 => ?_⟩
      cases ok : keyD kd with
      | none => rw [ok] at q2; exact q2.elim
      | some k =>
        cases o2 : dictAt env2 i with
        | none => rw [ok, o2] at q2; exact q2.elim
        | some p =>
          obtain ⟨ks, l⟩ := p
          rw [ok, o2] at q2
          simp only at q2
          obtain ⟨a, kvs, s1, w1, h1, h2, ol⟩ := r2.dict o2
          rw [s0] at s1
          cases s1
          by_cases hz : l.length < sizeLine
          · rw [if_pos hz] at q2
            have ek := p2.key ok
            subst ek
            have hl : l.length = kvs.length := by rw [ol.length, List.length_map]
            refine ⟨_, _, rfl, .k h1 (by rw [← hl]; exact hz), q2 W2 F2 _ σ (r2.write w1 s0 ?_) (Ex.refl F2)⟩
            obtain ⟨e1, e2⟩ := put_ow (p1.mono x2) k (ol.upd (o := .dK (putK kvs k v)) w1 (Nat.le_refl _))
            rw [h2] at e1 e2
            exact .md w1 upd_same e1 e2
          · rw [if_neg hz] at q2
            exact q2.elim
    · rw [if_neg o] at q1
      exact q1.elim⟩
theorem din_at {σ : L2.St} {H : Hp} {Q : VK} {i : Nat} (h : tE (mo X) j (dinD i dk) σ H Q) : tDIn (tE (mo X) j dk) (tVar i) σ H Q := by
  obtain ⟨W, F, env, rel, q⟩ := h
  refine ⟨W, F, env, rel, At.bind q fun kd env1 W1 F1 H1 v _ r1 x1 p1 q1 => ?_⟩
  cases ok : keyD kd with
  | none => rw [ok] at q1; exact q1.elim
  | some k =>
    cases o2 : dictAt env1 i with
    | none => rw [ok, o2] at q1; exact q1.elim
    | some p =>
      obtain ⟨ks, l⟩ := p
      rw [ok, o2] at q1
      obtain ⟨a, kvs, s1, w1, h1, h2, ol⟩ := r1.dict o2
      have ek := p1.key ok
      subst ek
      refine ⟨_, s1, a, _, rfl, .k h1, ?_⟩
      rw [valV_key, h2]
      exact q1 W1 F1 H1 _ r1 (Ex.refl F1) (.bl _)
theorem t_din (i : Nat) (hu : X.A.units + 1 < cLine) (hk : DE X j b dk) (h : PE X (.Name x px) (tVar i)) : DT X j (.Compare b [.In] [.Name x px] pos) (testD (dinD i dk)) := t_of (pt_cmp (pc_din hu hk h)) fun σ H Q h => din_at h
end
end DL
namespace DL
open PySem PySem.Spec PyProof.Rows L2
section
variable {fa : List He.Fa} {fn : List He.DefD} {ex : PySem.W.Frag → Bool} {K : PySem.W.Frag} {mg : Str → Option Value}
theorem Ctx.fld (c : Ctx fa fn ex K mg) (i k n : Nat) {x f : Str} {m : Nat} (e : fa[i]? = some (.glo x) := by rfl) (e2 : fa[k]? = some (.cls x) := by rfl) (e3 : fa[n]? = some (.noat x f) := by rfl) (ix : fldIx x f = some m := by rfl) (nd : (flds x).Nodup := by decide) : FldOk ⟨K, mg⟩ x f m :=
  ⟨ix, nd, He.cls_ok (c.d.fact k e2), He.noat_ok (c.d.fact n e3), c.glo i e⟩
theorem Ctx.meth (c : Ctx fa fn ex K mg) (i k n : Nat) {x f : Str} (e : fa[i]? = some (.glo x) := by rfl) (e2 : fa[k]? = some (.cls x) := by rfl) (e3 : fa[n]? = some (.meth x f) := by rfl) (no : f ∉ flds x := by decide) : MethOk ⟨K, mg⟩ x f :=
  ⟨He.cls_ok (c.d.fact k e2), He.meth_ok (c.d.fact n e3), no, c.glo i e⟩
theorem Ctx.make (c : Ctx fa fn ex K mg) (i k : Nat) {x : Str} (e : fa[i]? = some (.glo x) := by rfl) (e2 : fa[k]? = some (.mkr x) := by rfl) : MakeOk ⟨K, mg⟩ x := ⟨He.mkr_ok (c.d.fact k e2), c.glo i e⟩
end
theorem oexB_ok {K : PySem.W.Frag} {C : Addr} (q : oexB K C = true) : ∃ nm q' N bs bm sn sub ab col dd k0 k1 k2 k3 k5, K.lookup C = some (excClassObj nm q' C N bs bm true sn sub ab col dd k0 k1 k2 k3 k5 "ValueError.__new__") ∧ PySem.HandSPX.refsVE bm = true := by
  unfold oexB at q
  split at q
  · rename_i dd cd sl ho
    split at q
    · rename_i C' bm k0 k1 k2 k3 n k5 hm hs
      obtain ⟨h1, q⟩ := He.ba q
      obtain ⟨h2, q⟩ := He.ba q
      obtain ⟨h3, q⟩ := He.ba q
      obtain ⟨h4, h5⟩ := He.ba q
      have h1 := eq_of_beq h1
      have h2 := eq_of_beq h2
      obtain ⟨nm, bs, mro, ns, qn, hd, sn, sub, ab, col, del⟩ := cd
      dsimp only at hm h3 h4
      have h3 : del = false := by simpa using h3
      subst h1 h2 h3 h4 hm
      have hsl : sl = #[k0, k1, k2, k3, some (.builtin "ValueError.__new__"), k5] := by
        obtain ⟨l⟩ := sl
        simp only at hs
        rw [hs]
      subst hsl
      exact ⟨nm, qn, ns, bs, bm, sn, sub, ab, col, dd, k0, k1, k2, k3, k5, ho, h5⟩
    · cases q
  · cases q
theorem xkfB_ok {c : Str} {K : PySem.W.Frag} {mg : Str → Option Value} (h : xkfB c K = true) (g : mg c = some (.ref (He.ga K c))) : XKf ⟨K, mg⟩ c (He.ga K c) (He.ma K (He.ga K c) "__init__") := by
  obtain ⟨h1, h⟩ := He.ba h
  obtain ⟨h2, h⟩ := He.ba h
  obtain ⟨h3, h⟩ := He.ba h
  obtain ⟨h4, h⟩ := He.ba h
  obtain ⟨h5, h⟩ := He.ba h
  obtain ⟨h6, h⟩ := He.ba h
  obtain ⟨h7, h8⟩ := He.ba h
  exact ⟨g, ⟨oexB_ok h1, He.eqO_ok h2, of_decide_eq_true h3, of_decide_eq_true h4, h5⟩, He.eqO_ok h6, of_decide_eq_true h7, fun f hf => He.eqO_ok (List.all_eq_true.mp h8 f hf)⟩
section
variable {P : Program} {w : World} {K : PySem.W.Frag} {mg : Str → Option Value} {base : Heap}
/-- __init__ of an exception as the head tells of it -/
theorem initD1 {qual f x : Str} {params : Arguments} {body : List Stmt} {scope : Scope} {fI C : Addr} {fd : FuncData} {p1 p2 p3 p4 : Pos} (F : FunD K "__init__" qual params body scope [] [] fI fd) (S : FnScope ["self", x] ["self", x] scope)
    (hb : body = [.Assign [.Attribute (.Name "self" p1) f p2] (.Name x p3) p4]) (h1 : Vis scope "self") (h2 : Vis scope x) (hx : (x == ("__debug__" : Str)) = false) (hx2 : (x == ("__classdict__" : Str)) = false) : FnOk P w K mg base CX0 1 fI fd ["self", x] (spX K C [f]) := by
  subst hb
  refine F.ok S (fun vs H Q E h => ?_) (fun cdv A outer s H vs Q E hr h => ?_)
  · obtain ⟨a, ws, rfl, hl, _⟩ := h
    simpa using hl
  · obtain ⟨a, ws, rfl, hl, T, no, ha, q⟩ := h
    match ws, hl with
    | [v], _ => exact ⟨_, pss_one (ps_ost (pe_var (i := 0) rfl h1) (pe_var (i := 1) rfl h2 hx hx2)), v, rfl, .ref a, rfl, a, C, rfl, T, no f List.mem_cons_self, .inl ⟨ha, fun d nd hd => q d nd hd⟩⟩
theorem initD2 {qual f g x y : Str} {params : Arguments} {body : List Stmt} {scope : Scope} {fI C : Addr} {fd : FuncData} {p1 p2 p3 p4 q1 q2 q3 q4 : Pos} (F : FunD K "__init__" qual params body scope [] [] fI fd) (S : FnScope ["self", x, y] ["self", x, y] scope)
    (hb : body = [.Assign [.Attribute (.Name "self" p1) f p2] (.Name x p3) p4, .Assign [.Attribute (.Name "self" q1) g q2] (.Name y q3) q4]) (h1 : Vis scope "self") (h2 : Vis scope x) (h3 : Vis scope y) (hx : (x == ("__debug__" : Str)) = false) (hx2 : (x == ("__classdict__" : Str)) = false)
    (hy : (y == ("__debug__" : Str)) = false) (hy2 : (y == ("__classdict__" : Str)) = false) : FnOk P w K mg base CX0 1 fI fd ["self", x, y] (spX K C [f, g]) := by
  subst hb
  refine F.ok S (fun vs H Q E h => ?_) (fun cdv A outer s H vs Q E hr h => ?_)
  · obtain ⟨a, ws, rfl, hl, _⟩ := h
    simpa using hl
  · obtain ⟨a, ws, rfl, hl, T, no, ha, q⟩ := h
    match ws, hl with
    | [v, w'], _ =>
      refine ⟨_, pss_cons (ps_ost (pe_var (i := 0) rfl h1) (pe_var (i := 1) rfl h2 hx hx2)) (pss_one (ps_ost (pe_var (i := 0) rfl h1) (pe_var (i := 2) rfl h3 hy hy2))), v, rfl, .ref a, rfl, a, C, rfl, T, no f List.mem_cons_self, .inl ⟨ha, fun d nd hd => ?_⟩⟩
      refine ⟨w', rfl, .ref a, rfl, a, C, rfl, T, no g (List.mem_cons_of_mem _ List.mem_cons_self), .inr ⟨d, [(f, v)], upd_same, ?_, by show 1 ≤ 900; decide, ?_⟩⟩
      · rw [upd_ne hd, upd_same]
      · have e : upd (upd (upd H d (exd d [(f, v)])) a (exo a C (some d))) d (exd d ((g, w') :: [(f, v)])) = upd (upd H d (exd d [(g, w'), (f, v)])) a (exo a C (some d)) := by
          funext b
          unfold upd
          by_cases hb : b = d
          · subst hb
            rw [if_pos rfl, if_neg hd, if_pos rfl]
          · rw [if_neg hb, if_neg hb]
            by_cases hba : b = a
            · rw [if_pos hba, if_pos hba]
            · rw [if_neg hba, if_neg hba, if_neg hb]
        rw [e]
        exact q d nd hd
end
def xfldD (fs : List D) (k : Nat) : List D → R D := fun env => match fs[k]? with
  | some d => .ok d env
  | none => .bad
theorem rev_get {α : Type} {l : List α} {k : Nat} {x : α} (h : l[k]? = some x) : l.reverse[l.length - 1 - k]? = some x := by
  have hk := (List.getElem?_eq_some_iff.mp h).1
  rw [List.getElem?_reverse (by omega)]
  rw [show l.length - 1 - (l.length - 1 - k) = k by omega]
  exact h
section
variable {X : Cx}
theorem e_xfld (i : Nat) {x n : Str} {a C : Addr} {oe : Obj} {cn : Str} {fs : List D} {es : Ent} {pn : List (Addr × Obj)} {wx : WX} {d : Option Addr} {px pos : Pos} {k : Nat} (hc : Caught X es i a oe cn fs (.ref C) d) (T : XfC X.K C) (hno : PySem.W.findIn X.K (.ref C) n = some none)
    (hx : PE (X.suite a ((a, oe) :: pn)) (.Name x px) (tVar i)) (hk : (eflds cn)[k]? = some n := by rfl) (nd : (eflds cn).reverse.Nodup := by decide) (hb : attributeBase (.Name x px) n X.env (eval (.Name x px) X.env) = eval (.Name x px) X.env := by rfl) :
    DE (X.suite a ((a, oe) :: pn)) ⟨es, wx⟩ (.Attribute (.Name x px) n pos) (xfldD fs k) :=
  PE.mono (pe_xf T hno hc.zc hc.fl hx hb) fun σ H Q ⟨W, F, env, rel, q⟩ => by
    have q : At (mo X) es wx (Rp (mo X)) F σ (xfldD fs k env) Q := q
    unfold xfldD at q
    cases o : fs[k]? with
    | none => rw [o] at q; exact q.elim
    | some z =>
      rw [o] at q
      obtain ⟨C', h1, h2, h3⟩ := hc.xr
      rcases h3 with ⟨h3, h4, _⟩ | ⟨dx, gs, h0, h3, h4, h5, h6⟩
      · rw [h4] at hk
        cases hk
      · have hl : fs.length = gs.length := by
          have := h6.length
          rwa [List.length_reverse, List.length_map] at this
        have hle : (eflds cn).length = gs.length := by
          have := congrArg List.length h5
          rw [List.length_map, List.length_reverse] at this
          exact this.symm
        have g1 := rev_get o
        obtain ⟨v, g2, g3⟩ := h6.get g1
        have g4 := rev_get hk
        rw [← h5, hle, ← hl] at g4
        have g5 : gs.lookup n = some v := lookup_at (by rw [h5]; exact nd) g4 g2
        exact ⟨.ref a, rel.pin i _ hc.pin, rfl, rfl, dx, gs, v, h3, rel.exF _ _ (rel.exF0 _ _ h4), g5, q W F H v rel (Ex.refl F) (g3.mono rel.exF0)⟩
end
end DL
namespace DL
open PySem PySem.Spec PyProof.Rows L2
section
variable {fa : List He.Fa} {fn : List He.DefD} {ex : PySem.W.Frag → Bool} {X : Cx} {j : J} {x : Str} {pos : Pos}
theorem g_int (c : Ctx fa fn ex X.K X.mg) (i : Nat) {n : Int} (hg : Gl X x := by rfl) (e : fa[i]? = some (.int x n) := by rfl) (hd : (x == ("__debug__" : Str)) = false := by decide) : DE X j (.Name x pos) (constD (.int n)) := by
  obtain ⟨t, h⟩ := c.int i e
  exact e_glob (v := .int n) hg h ⟨t, rfl⟩ (fun F => .int n) hd
theorem g_str (c : Ctx fa fn ex X.K X.mg) (i : Nat) {n : Str} (hg : Gl X x := by rfl) (e : fa[i]? = some (.str x n) := by rfl) (hd : (x == ("__debug__" : Str)) = false := by decide) : DE X j (.Name x pos) (constD (.str n)) := by
  obtain ⟨t, h⟩ := c.str i e
  exact e_glob (v := .str n) hg h ⟨t, rfl⟩ (fun F => .str n) hd
def dvD : He.Dv → D
  | .bl b => .bl b
  | .int i => .int i
  | .str s => .str s
  | _ => .non
def dvOk : He.Dv → Bool
  | .non => true
  | .bl _ => true
  | .int _ => true
  | .str _ => true
  | _ => false
theorem rp_dv {M : Mo} {F : Hp} : ∀ {vs : List He.Dv}, vs.all dvOk = true → RpL M F (vs.map dvD) (vs.map (He.Dv.v M.K))
  | [], _ => .nil
  | v :: r, h => by
    obtain ⟨h1, h2⟩ := Bool.and_eq_true_iff.mp (show (dvOk v && r.all dvOk) = true from h)
    refine .cons ?_ (rp_dv h2)
    cases v <;> first | cases h1 | skip
    · exact .non
    · exact .bl _
    · exact .int _
    · exact .str _
theorem g_tupC (c : Ctx fa fn ex X.K X.mg) (i : Nat) {vs : List He.Dv} (hb : He.tupB X.K x vs = true) (hv : vs.all dvOk = true := by rfl) (hg : Gl X x := by rfl) (e : fa[i]? = some (.glo x) := by rfl) (hd : (x == ("__debug__" : Str)) = false := by decide) : DE X j (.Name x pos) (constD (.ctp (vs.map dvD))) :=
  e_glob (v := .ref (He.ga X.K x)) hg (c.glo i e) rfl (fun F => .ctp (fun F' => He.tupB_ok hb F') (rp_dv hv)) hd
end
theorem nilD_len {env l env1 : List D} (e : nilD env = .ok l env1) : l.length = 0 := by
  cases e
  rfl
theorem consD_len {n : Nat} {da : List D → R D} {dl : List D → R (List D)} (h : ∀ env l env1, dl env = .ok l env1 → l.length = n) (env l env1 : List D) (e : consD da dl env = .ok l env1) : l.length = n + 1 := by
  unfold consD at e
  cases o : da env with
  | ok x e1 =>
    rw [o] at e
    simp only [bindR_ok] at e
    cases o2 : dl e1 with
    | ok xs e2 =>
      rw [o2] at e
      cases e
      exact congrArg (· + 1) (h _ _ _ o2)
    | ex c fs e2 => rw [o2] at e; cases e
    | bad => rw [o2] at e; cases e
  | ex c fs e1 => rw [o] at e; cases e
  | bad => rw [o] at e; cases e
/-- the suites of a clause, by the class that came -/
def pickD (l : List (Str × (List D → List D → O))) (cn : Str) (fs : List D) : List D → O := match l.lookup cn with
  | some d => d fs
  | none => fun _ => .bad
theorem caughtC {X : Cx} {es : Ent} {i : Nat} {a : Addr} {oe : Obj} {cn : Str} {fs : List D} {cls : Value} {d : Option Addr} {C : Addr} (h : Caught X es i a oe cn fs cls d) (g : X.mg cn = some (.ref C)) : cls = .ref C := by
  obtain ⟨C', h1, h2, h3⟩ := h.xr
  rw [show (mo X).mg cn = some (.ref C) from g] at h2
  cases h2
  exact h1
/-- a class in an except clause of the class x -/
theorem Room.units65 {k : Nat} {A : Around} (r : Room k A) : A.units + 65 < cLine := by
  have := r.un
  omega
theorem Room.units1 {k : Nat} {A : Around} (r : Room k A) : A.units + 1 < cLine := by
  have := r.un
  omega
theorem xfsB_ok {c : Str} {K : PySem.W.Frag} (h : xfsB c K = true) : XfC K (He.ga K c) ∧ ∀ f ∈ eflds c, PySem.W.findIn K (.ref (He.ga K c)) f = some none := by
  obtain ⟨h1, h2⟩ := He.ba h
  exact ⟨xfB_ok h1, fun f hf => He.eqO_ok (List.all_eq_true.mp h2 f hf)⟩
def notUnb : D → Bool
  | .unb => false
  | _ => true
theorem notUnb_some {env : List D} {i : Nat} (h : notUnb (env.getD i .unb) = true) : env[i]? = some (env.getD i .unb) ∧ env.getD i .unb ≠ .unb := by
  have h2 : env.getD i .unb ≠ .unb := fun e => by
    rw [e] at h
    cases h
  exact ⟨getD_get h2, h2⟩
/-- an answer that is no object -/
def flatR (env : List D) : Option D → R D
  | some (.bl b) => .ok (.bl b) env
  | some (.int b) => .ok (.int b) env
  | _ => .bad
theorem flatR_at {M : Mo} {j : J} {σ : L2.St} {F H : Hp} {env : List D} {Q : VK} {W : Own} {o : Option D} (h : At M j.e j.wx (Rp M) F σ (flatR env o) Q) (r : Rel M j.e W F H env σ) : ∃ z, o = some z ∧ ∀ F' H' w, Grow H H F' H' → Rp M F' z w → Q w H' := by
  match o, h with
  | some (.bl b), h => exact ⟨_, rfl, fun F' H' w g p => by
      cases p
      exact h W F H' _ (r.grow ⟨Ex.refl F, g.exH, r.exF.trans g.exH, fun b h => .inl h⟩) (Ex.refl F) (.bl b)⟩
  | some (.int b), h => exact ⟨_, rfl, fun F' H' w g p => by
      cases p
      exact h W F H' _ (r.grow ⟨Ex.refl F, g.exH, r.exF.trans g.exH, fun b h => .inl h⟩) (Ex.refl F) (.int b)⟩
theorem Ow.rpH {M : Mo} {W : Own} {F H : Hp} (e : Ex F H) {p : List Nat} {d : D} {v : V} (h : Ow M W F H p d v) : Rp M H (DL.frz d) v := h.frz e fun a q o _ y => y
def cmpL (f : D → D → Option D) (i : Nat) (db : List D → R D) : List D → R D := fun env => if notUnb (env.getD i .unb) = true then bindR (db env) fun y env1 => if notUnb (env1.getD i .unb) = true then flatR env1 (f (frz (env1.getD i .unb)) y) else .bad else .bad
def cmpR (f : D → D → Option D) (i : Nat) (da : List D → R D) : List D → R D := fun env => bindR (da env) fun x env1 => if notUnb (env1.getD i .unb) = true then flatR env1 (f x (frz (env1.getD i .unb))) else .bad
section
variable {X : Cx} {j : J} {a b : Expr} {x : Str} {px pos p q : Pos} {da db : List D → R D}
theorem cmpL_at {f : D → D → Option D} {σ : L2.St} {H : Hp} {Q : VK} {i : Nat} (h : tE (mo X) j (cmpL f i db) σ H Q) : tOp (rOpD X f) (tVar i) (tE (mo X) j db) σ H Q := by
  obtain ⟨W, F, env, rel, q⟩ := h
  have q : At (mo X) j.e j.wx (Rp (mo X)) F σ (cmpL f i db env) Q := q
  unfold cmpL at q
  by_cases ho : notUnb (env.getD i .unb) = true
  · rw [if_pos ho] at q
    obtain ⟨h1, h2⟩ := notUnb_some ho
    obtain ⟨v, h3, _⟩ := rel.slot i _ h1 h2
    refine ⟨v, h3, W, F, env, rel, At.bind q fun y env1 W1 F1 H1 v1 _ r1 x1 p1 q1 => ?_⟩
    by_cases hw : notUnb (env1.getD i .unb) = true
    · rw [if_pos hw] at q1
      obtain ⟨h5, h6⟩ := notUnb_some hw
      obtain ⟨v', h7, h8⟩ := r1.slot i _ h5 h6
      rw [h3] at h7
      cases h7
      obtain ⟨z, e, k⟩ := flatR_at q1 r1
      exact ⟨H1, _, y, z, Ex.refl H1, h8.rpH r1.exF, p1.mono r1.exF, e, k⟩
    · rw [if_neg hw] at q1
      exact q1.elim
  · rw [if_neg ho] at q
    exact q.elim
theorem cmpR_at {f : D → D → Option D} {σ : L2.St} {H : Hp} {Q : VK} {i : Nat} (h : tE (mo X) j (cmpR f i da) σ H Q) : tOp (rOpD X f) (tE (mo X) j da) (tVar i) σ H Q := by
  obtain ⟨W, F, env, rel, q⟩ := h
  refine ⟨W, F, env, rel, At.bind q fun y env1 W1 F1 H1 v1 _ r1 x1 p1 q1 => ?_⟩
  by_cases hw : notUnb (env1.getD i .unb) = true
  · rw [if_pos hw] at q1
    obtain ⟨h5, h6⟩ := notUnb_some hw
    obtain ⟨v', h7, h8⟩ := r1.slot i _ h5 h6
    obtain ⟨z, e, k⟩ := flatR_at q1 r1
    exact ⟨v', h7, H1, y, _, z, Ex.refl H1, p1.mono r1.exF, h8.rpH r1.exF, e, k⟩
  · rw [if_neg hw] at q1
    exact q1.elim
theorem tst_at {d : List D → R D} {σ : L2.St} {H : Hp} {Q : Bool → Hp → Prop} {t : TE} (h : tT (mo X) j (testD d) σ H Q) (k : ∀ Q, tE (mo X) j d σ H Q → t σ H Q) : t σ H fun v H1 => ∃ b, v = .bl b ∧ Q b H1 := by
  obtain ⟨W, F, env, rel, q⟩ := h
  exact k _ ⟨W, F, env, rel, At.bind q fun x env1 W1 F1 H1 v _ r1 x1 p1 q1 => by
    cases p1 with
    | bl b => exact ⟨b, rfl, q1 W1 F1 H1 b r1 (Ex.refl F1) rfl⟩
    | _ => exact q1.elim⟩
theorem t_cmpL {op : CmpOp} {f : D → D → Option D} (ho : OpD X (compareOp op) f) (i : Nat) (h : PE X (.Name x px) (tVar i)) (hb : DE X j b db) (hm : behindInMarks op b = false) : DT X j (.Compare (.Name x px) [op] [b] pos) (testD (cmpL f i db)) := PT.mono (pt_cmpR ho.r h hb hm) fun σ H Q h => tst_at h fun _ h => cmpL_at h
theorem t_cmpR {op : CmpOp} {f : D → D → Option D} (ho : OpD X (compareOp op) f) (i : Nat) (ha : DE X j a da) (h : PE X (.Name x px) (tVar i)) (hm : behindInMarks op (.Name x px) = false) : DT X j (.Compare a [op] [.Name x px] pos) (testD (cmpR f i da)) := PT.mono (pt_cmpR ho.r ha h hm) fun σ H Q h => tst_at h fun _ h => cmpR_at h
end
end DL
namespace DL
open PySem PySem.Spec PyProof.Rows L2
section
variable (env : List D) (i k n : Nat) (f g : D → D → Option D) (da db dc : List D → R D) (d : D)
@[simp] theorem mulXD_int (a b : Int) : mulXD (.int a) (.int b) = if fitsMul a b then some (.int (a * b)) else none := rfl
@[simp] theorem mulXD_str (a : Str) (b : Int) : mulXD (.str a) (.int b) = if 0 ≤ b ∧ b ≤ 10000 ∧ 1 ≤ a.length ∧ a.length ≤ 1000 then some (.str (Txt.mul a b)) else none := rfl
@[simp] theorem intXD_int (a : Int) : intXD [.int a] = some (.int a) := rfl
@[simp] theorem intXD_bl (b : Bool) : intXD [.bl b] = some (.int (if b = true then 1 else 0)) := rfl
@[simp] theorem intXD_str (a : Str) : intXD [.str a] = if a.length ≤ 640 then (PySem.intText? a).map .int else none := rfl
@[simp] theorem strD_int (a : Int) : strD [.int a] = if a.natAbs < 2 ^ 1900 then some (.str (toString a)) else none := rfl
@[simp] theorem listD_lst (l : List D) : listD [.lst l] = some (.lst l) := rfl
@[simp] theorem listD_tup (l : List D) : listD [.tup l] = some (.lst l) := rfl
@[simp] theorem tupleD_lst (l : List D) : tupleD [.lst l] = some (.tup l) := rfl
@[simp] theorem tupleD_tup (l : List D) : tupleD [.tup l] = some (.tup l) := rfl
@[simp] theorem lenD_str (a : Str) : lenD [.str a] = if a.length ≤ sizeLine then some (.int a.length) else none := rfl
@[simp] theorem chainD_ap : chainD f g da db dc env = bindR (da env) fun x env1 => bindR (db env1) fun y env2 => match f x y with
  | some (.bl true) => bindR (dc env2) fun z env3 => opR (g y z) env3
  | some (.bl false) => .ok (.bl false) env2
  | _ => .bad := rfl
@[simp] theorem txtD_ap (h : Str → D → Option D) : txtD h da db env = bindR (da env) fun d env1 => match d with
  | .str a => bindR (db env1) fun e env2 => opR (h a e) env2
  | _ => .bad := rfl
@[simp] theorem splitD_str (a b : Str) : splitD a (.str b) = if (b.length == 0) = false ∧ a.length + 2 ≤ sizeLine then some (.lst ((Txt.split a b).map D.str)) else none := rfl
@[simp] theorem startsD_str (a b : Str) : startsD a (.str b) = some (.bl (Txt.startswith a b)) := rfl
@[simp] theorem joinD_lst (a : Str) (ys : List Str) : joinD a (.lst (ys.map D.str)) = if (ys.map (·.length)).sum + ys.length * a.length ≤ 16777216 then some (.str (Txt.join a ys)) else none := by
  unfold joinD joinD.srcL
  simp only [strsOf_map]
@[simp] theorem addD_str (a b : Str) : addD (.str a) (.str b) = if a.length + b.length ≤ sizeLine then some (.str (a ++ b)) else none := rfl
@[simp] theorem addD_lst (a b : List D) : addD (.lst a) (.lst b) = if a.length + b.length ≤ sizeLine then some (.lst (a ++ b)) else none := rfl
@[simp] theorem fmtD_str (a : Str) : fmtD (.str a) = if a.length ≤ sizeLine then some (.str a) else none := rfl
@[simp] theorem fmtD_int (a : Int) : fmtD (.int a) = if a.natAbs < 2 ^ 1900 then some (.str (toString a)) else none := rfl
@[simp] theorem joinedD_nil (acc : Str) : joinedD [] acc env = .ok (.str acc) env := rfl
@[simp] theorem joinedD_cons (ds : List (List D → R D)) (acc : Str) : joinedD (da :: ds) acc env = bindR (da env) fun x env1 => match x with
  | .str y => if (acc ++ y).length ≤ sizeLine then joinedD ds (acc ++ y) env1 else .bad
  | _ => .bad := rfl
@[simp] theorem srcOf_lst (l : List D) : srcOf (.lst l) = some l := rfl
@[simp] theorem srcOf_tup (l : List D) : srcOf (.tup l) = some l := rfl
@[simp] theorem srcOf_str (x : Str) : srcOf (.str x) = some (signsD x) := rfl
@[simp] theorem itS_ap : itS da env = bindR (da env) fun d env1 => match srcOf d with
  | some l => .ok l env1
  | none => .bad := rfl
@[simp] theorem enumD_ap : enumD da env = bindR (da env) fun d env1 => match srcOf d with
  | some l => .ok (enumL 0 l) env1
  | none => .bad := rfl
@[simp] theorem range1D_ap : range1D da env = bindR (da env) fun d env1 => match d with
  | .int j => if -(2 ^ 62) ≤ j ∧ j < 2 ^ 62 then .ok (rangeL 0 j.toNat) env1 else .bad
  | _ => .bad := rfl
@[simp] theorem yesD_ap : yesD env = .ok true env := rfl
@[simp] theorem varF_ap : varF i env = match env.getD i .unb with
  | .unb => .bad
  | d => .ok (frz d) (env.set i (frz d)) := rfl
@[simp] theorem notUnb_ml (l : List D) : notUnb (.ml l) = true := rfl
@[simp] theorem notUnb_lst (l : List D) : notUnb (.lst l) = true := rfl
@[simp] theorem notUnb_tup (l : List D) : notUnb (.tup l) = true := rfl
@[simp] theorem notUnb_int (a : Int) : notUnb (.int a) = true := rfl
@[simp] theorem flatR_bl (b : Bool) : flatR env (some (.bl b)) = .ok (.bl b) env := rfl
@[simp] theorem flatR_int (b : Int) : flatR env (some (.int b)) = .ok (.int b) env := rfl
@[simp] theorem cmpL_ap : cmpL f i db env = if notUnb (env.getD i .unb) = true then bindR (db env) fun y env1 => if notUnb (env1.getD i .unb) = true then flatR env1 (f (frz (env1.getD i .unb)) y) else .bad else .bad := rfl
@[simp] theorem cmpR_ap : cmpR f i da env = bindR (da env) fun x env1 => if notUnb (env1.getD i .unb) = true then flatR env1 (f x (frz (env1.getD i .unb))) else .bad := rfl
@[simp] theorem appO_ap : appO i da env = if (listAt env i).isSome = true then bindS (da env) fun d env1 => match listAt env1 i with
  | some l => if l.length < sizeLine then .nx (env1.set i (.ml (l ++ [d]))) else .bad
  | none => .bad
else .bad := rfl
@[simp] theorem retV_ap : retV i env = match env.getD i .unb with
  | .unb => .bad
  | d => .rt d (env.set i .unb) := rfl
@[simp] theorem sliceD_ap (dl dh : List D → R (Option Int)) : sliceD da dl dh env = bindR (da env) fun d env1 => bindR (dl env1) fun lo env2 => bindR (dh env2) fun hi env3 => opR (cutD d lo hi) env3 := rfl
@[simp] theorem noPartD_ap : noPartD env = .ok none env := rfl
@[simp] theorem partD_ap : partD da env = bindR (da env) fun d env1 => match d with
  | .int i => .ok (some i) env1
  | _ => .bad := rfl
@[simp] theorem cutD_lst (l : List D) (lo hi : Option Int) : cutD (.lst l) lo hi = some (.lst (cutL l lo hi)) := rfl
@[simp] theorem forD_ap (di : List D → R (List D)) (gg : D → List D → Option (List D)) (sb : List D → O) : forD di gg sb env = bindS (di env) fun ds env1 => forGo gg sb ds env1 := rfl
@[simp] theorem wipeD_nil : wipeD env [] = env := rfl
@[simp] theorem wipeD_cons (vs : List Nat) : wipeD env (i :: vs) = (wipeD env vs).set i .unb := rfl
@[simp] theorem backD_nil (env0 : List D) : backD env0 env [] = env := rfl
@[simp] theorem backD_cons (env0 : List D) (vs : List Nat) : backD env0 env (i :: vs) = (backD env0 env vs).set i (if isOwn (env0.getD i .unb) = true then .unb else env0.getD i .unb) := rfl
@[simp] theorem isOwn_unb : isOwn .unb = true := rfl
@[simp] theorem xfldD_ap (fs : List D) : xfldD fs k env = match fs[k]? with
  | some d => .ok d env
  | none => .bad := rfl
@[simp] theorem dict0_ap : dict0 env = .ok (.md [] []) env := rfl
end
/-- one that draws: what holds of the state, what is made -/
theorem lcGo_inv {g : D → List D → Option (List D)} {de : List D → R D} {vs : List Nat} (I : List D → Prop) (Rr : D → Prop) : ∀ (ds : List D) (acc E : List D), I E → (∀ d ∈ ds, ∀ E, I E → ∃ E1 y E3, g d E = some E1 ∧ de E1 = .ok y E3 ∧ Rr y ∧ I (wipeD E3 vs)) →
    ∃ ys E', lcGo g yesD de vs ds acc E = .ok (acc ++ ys) E' ∧ ys.length = ds.length ∧ (∀ y ∈ ys, Rr y) ∧ I E'
  | [], acc, E, hI, _ => ⟨[], E, by unfold lcGo; simp, rfl, fun _ h => (by cases h), hI⟩
  | d :: ds, acc, E, hI, h => by
    obtain ⟨E1, y, E3, h1, h2, h3, h4⟩ := h d List.mem_cons_self E hI
    obtain ⟨ys, E', e1, e2, e3, e4⟩ := lcGo_inv I Rr ds (acc ++ [y]) _ h4 fun x hx => h x (List.mem_cons_of_mem _ hx)
    refine ⟨y :: ys, E', ?_, congrArg (· + 1) e2, fun z hz => ?_, e4⟩
    · unfold lcGo
      rw [h1]
      simp only [yesD_ap, bindB_ok, if_pos, h2]
      rw [e1]
      simp
    · rcases List.mem_cons.mp hz with rfl | hz
      · exact h3
      · exact e3 z hz
theorem lcD_inv {di : List D → R (List D)} {g : D → List D → Option (List D)} {de : List D → R D} {vs : List Nat} {env env1 ds : List D} (I : List D → Prop) (Rr : D → Prop) (hd : di env = .ok ds env1) (hn : ds.length ≤ 1000000) (h0 : I (wipeD env1 vs))
    (h : ∀ d ∈ ds, ∀ E, I E → ∃ E1 y E3, g d E = some E1 ∧ de E1 = .ok y E3 ∧ Rr y ∧ I (wipeD E3 vs)) : ∃ ys E', lcD di g yesD de vs env = .ok (.ml ys) (backD env1 E' vs) ∧ ys.length = ds.length ∧ (∀ y ∈ ys, Rr y) ∧ I E' := by
  obtain ⟨ys, E', e1, e2, e3, e4⟩ := lcGo_inv I Rr ds [] _ h0 h
  refine ⟨ys, E', ?_, e2, e3, e4⟩
  unfold lcD
  rw [hd, bindR_ok, if_pos hn, e1]
  show R.ok _ _ = _
  rw [List.nil_append]
/-- a loop by what holds at each turn -/
theorem forGo_inv {g : D → List D → Option (List D)} {db : List D → O} (I : Nat → List D → Prop) : ∀ (ds : List D) (k : Nat) (E : List D), I k E → (∀ i d, ds[i]? = some d → ∀ E, I (k + i) E → ∃ E1 E2, g d E = some E1 ∧ (db E1 = .nx E2 ∨ db E1 = .ct E2) ∧ I (k + i + 1) E2) → ∃ E', forGo g db ds E = .nx E' ∧ I (k + ds.length) E'
  | [], k, E, hI, _ => ⟨E, rfl, hI⟩
  | d :: ds, k, E, hI, h => by
    obtain ⟨E1, E2, h1, h2, h3⟩ := h 0 d rfl E hI
    obtain ⟨E', e1, e2⟩ := forGo_inv I ds (k + 1) E2 h3 fun i x hx E hE => by
      have := h (i + 1) x (by simpa using hx) E (by rw [show k + (i + 1) = k + 1 + i by omega]; exact hE)
      rw [show k + (i + 1) + 1 = k + 1 + i + 1 by omega] at this
      exact this
    refine ⟨E', ?_, by rw [List.length_cons, show k + (ds.length + 1) = k + 1 + ds.length by omega]; exact e2⟩
    unfold forGo
    rw [h1]
    rcases h2 with h2 | h2
    · simp only [h2]
      exact e1
    · simp only [h2]
      exact e1
theorem lcGo_A {α : Type} {g : D → List D → Option (List D)} {dt : List D → R Bool} {de : List D → R D} {vs : List Nat} {E0 : List D} (u : α → D) (E : α → List D) (p : α → Bool) (f : α → D) : ∀ (xs : List α) (acc : List D), (∀ x ∈ xs, g (u x) E0 = some (E x) ∧ dt (E x) = .ok (p x) (E x) ∧ (p x = true → de (E x) = .ok (f x) (E x)) ∧ wipeD (E x) vs = E0) →
    lcGo g dt de vs (xs.map u) acc E0 = .ok (acc ++ (xs.filter p).map f) E0
  | [], acc, _ => by
    unfold lcGo
    simp
  | x :: xs, acc, h => by
    obtain ⟨h1, h2, h3, h4⟩ := h x List.mem_cons_self
    have ht : ∀ y ∈ xs, _ := fun y hy => h y (List.mem_cons_of_mem _ hy)
    rw [List.map_cons]
    unfold lcGo
    rw [h1]
    simp only [h2, bindB_ok]
    cases hp : p x with
    | true =>
      rw [if_pos rfl, h3 hp, bindB_ok, h4, lcGo_A u E p f xs _ ht, List.filter_cons_of_pos hp]
      simp
    | false =>
      rw [if_neg (by simp), h4, lcGo_A u E p f xs _ ht, List.filter_cons_of_neg (by simp [hp])]
theorem lcD_filterA {α : Type} {xs : List α} {di : List D → R (List D)} {g : D → List D → Option (List D)} {dt : List D → R Bool} {de : List D → R D} {vs : List Nat} {env env1 : List D} (u : α → D) (E : α → List D) (p : α → Bool) (f : α → D) (hd : di env = .ok (xs.map u) env1) (hn : xs.length ≤ 1000000)
    (h : ∀ x ∈ xs, g (u x) (wipeD env1 vs) = some (E x) ∧ dt (E x) = .ok (p x) (E x) ∧ (p x = true → de (E x) = .ok (f x) (E x)) ∧ wipeD (E x) vs = wipeD env1 vs) (hb : backD env1 (wipeD env1 vs) vs = env1) : lcD di g dt de vs env = .ok (.ml ((xs.filter p).map f)) env1 := by
  unfold lcD
  rw [hd, bindR_ok, if_pos (by rw [List.length_map]; exact hn), lcGo_A u E p f xs [] h]
  show R.ok _ _ = _
  rw [hb, List.nil_append]
theorem lcD_mapA {α : Type} {xs : List α} {di : List D → R (List D)} {g : D → List D → Option (List D)} {de : List D → R D} {vs : List Nat} {env env1 : List D} (u : α → D) (E : α → List D) (f : α → D) (hd : di env = .ok (xs.map u) env1) (hn : xs.length ≤ 1000000)
    (h : ∀ x ∈ xs, g (u x) (wipeD env1 vs) = some (E x) ∧ de (E x) = .ok (f x) (E x) ∧ wipeD (E x) vs = wipeD env1 vs) (hb : backD env1 (wipeD env1 vs) vs = env1) : lcD di g yesD de vs env = .ok (.ml (xs.map f)) env1 := by
  have := lcD_filterA (dt := yesD) u E (fun _ => true) f hd hn (fun x hx => ⟨(h x hx).1, rfl, fun _ => (h x hx).2.1, (h x hx).2.2⟩) hb
  rw [this, List.filter_eq_self.mpr fun _ _ => rfl]
theorem allD_map {α : Type} (p : α → Bool) (xs : List α) : allD [.lst (xs.map fun x => D.bl (p x))] = some (.bl (xs.all p)) := by
  have e : (xs.map fun x => D.bl (p x)) = (xs.map p).map D.bl := by rw [List.map_map]; rfl
  rw [e]
  show (blsOf ((xs.map p).map D.bl)).map (fun ns => D.bl (ns.all id)) = _
  rw [blsOf_map]
  simp [List.all_map]
theorem signsD_map (l : List Nat) : signsD ⟨l.toArray⟩ = l.map fun c => D.str ⟨#[c]⟩ := rfl
@[simp] theorem frzL_id {α : Type} {f : α → D} (h : ∀ x, frz (f x) = f x) : ∀ xs : List α, frzL (xs.map f) = xs.map f
  | [] => by simp
  | x :: xs => by simp [h x, frzL_id h xs]
end DL
namespace DL
open PySem PySem.Spec PyProof.Rows L2
mutual
/-- ints, texts, None, tuples and lists of them, n deep at most -/
def pd (n : Nat) : D → Bool
  | .int _ => true
  | .non => true
  | .bl _ => true
  | .str x => x.cps.all (· < 0x110000)
  | .tup l => match n with
    | 0 => false
    | m + 1 => pdL m l
  | .lst l => match n with
    | 0 => false
    | m + 1 => pdL m l
  | _ => false
def pdL (n : Nat) : List D → Bool
  | [] => true
  | d :: l => pd n d && pdL n l
end
mutual
/-- no bool in it -/
def ib : D → Bool
  | .int _ => true
  | .non => true
  | .str _ => true
  | .tup l => ibL l
  | .lst l => ibL l
  | _ => false
def ibL : List D → Bool
  | [] => true
  | d :: l => ib d && ibL l
end
mutual
theorem pd_py : ∀ {n : Nat} {d : D}, pd n d = true → ∃ p, d.py = some p ∧ p.canLay0 = true ∧ p.depth ≤ n ∧ PyData.eqv p p = true
  | n, .int i, _ => ⟨.int i, rfl, by simp [PyData.canLay0], by simp [PyData.depth], by simp [PyData.eqv]⟩
  | n, .non, _ => ⟨.none, rfl, by simp [PyData.canLay0], by simp [PyData.depth], by simp [PyData.eqv]⟩
  | n, .bl b, _ => ⟨.bool b, rfl, by simp [PyData.canLay0], by simp [PyData.depth], by simp [PyData.eqv]⟩
  | n, .str x, h => ⟨.str x, rfl, by unfold PyData.canLay0 PyData.strOk; unfold pd at h; exact h, by simp [PyData.depth], by simp [PyData.eqv]⟩
  | 0, .tup l, h => by
    unfold pd at h
    cases h
  | n + 1, .tup l, h => by
    unfold pd at h
    obtain ⟨ps, e, h1, h2, h3⟩ := pdL_py (n := n) (l := l) h
    exact ⟨.tuple ps, by unfold D.py; rw [e], by unfold PyData.canLay0; exact h1, by unfold PyData.depth; omega, by unfold PyData.eqv; exact h3⟩
  | 0, .lst l, h => by
    unfold pd at h
    cases h
  | n + 1, .lst l, h => by
    unfold pd at h
    obtain ⟨ps, e, h1, h2, h3⟩ := pdL_py (n := n) (l := l) h
    exact ⟨.list ps, by unfold D.py; rw [e], by unfold PyData.canLay0; exact h1, by unfold PyData.depth; omega, by unfold PyData.eqv; exact h3⟩
  | n, .unb, h => by unfold pd at h; cases h
  | n, .ins _ _, h => by unfold pd at h; cases h
  | n, .ml _, h => by unfold pd at h; cases h
  | n, .mi _ _, h => by unfold pd at h; cases h
  | n, .dic _ _, h => by unfold pd at h; cases h
  | n, .md _ _, h => by unfold pd at h; cases h
  | n, .mt _, h => by unfold pd at h; cases h
theorem pdL_py : ∀ {n : Nat} {l : List D}, pdL n l = true → ∃ ps, pyL l = some ps ∧ PyData.canLayAll0 ps = true ∧ PyData.depthAll ps ≤ n ∧ PyData.eqvAll ps ps = true
  | n, [], _ => ⟨[], by unfold pyL; rfl, by simp [PyData.canLayAll0], by simp [PyData.depthAll], by simp [PyData.eqvAll]⟩
  | n, d :: l, h => by
    unfold pdL at h
    obtain ⟨h1, h2⟩ := Bool.and_eq_true_iff.mp h
    obtain ⟨p, e, a1, a2, a3⟩ := pd_py (n := n) (d := d) h1
    obtain ⟨ps, e', b1, b2, b3⟩ := pdL_py (n := n) (l := l) h2
    refine ⟨p :: ps, by unfold pyL; rw [e, e'], ?_, ?_, ?_⟩
    · unfold PyData.canLayAll0
      rw [a1, b1]
      rfl
    · unfold PyData.depthAll
      omega
    · unfold PyData.eqvAll
      rw [a3, b3]
      rfl
end
theorem fine_pd {n : Nat} {d : D} (h : pd n d = true) (hn : n ≤ 64 := by decide) : fine d = true := by
  obtain ⟨p, e, h1, h2, _⟩ := pd_py h
  unfold fine
  rw [e]
  show SeqAt.shaped p = true
  unfold SeqAt.shaped
  rw [h1, decide_eq_true (by omega)]
  rfl
theorem eqb_self {n : Nat} {d : D} (h : pd n d = true) : d.eqb d = true := by
  obtain ⟨p, e, _, _, h3⟩ := pd_py h
  unfold D.eqb
  rw [e]
  exact h3
mutual
theorem eqv_iff : ∀ {x y : D} {p q : PyData}, ib x = true → ib y = true → x.py = some p → y.py = some q → (PyData.eqv p q = true ↔ x = y)
  | .int a, y, p, q, _, hy, e1, e2 => by
    cases e1
    cases y with
    | int b => cases e2; unfold PyData.eqv; simp
    | non => cases e2; unfold PyData.eqv; simp
    | str b => cases e2; unfold PyData.eqv; simp
    | tup b =>
      unfold D.py at e2
      split at e2
      · cases e2; unfold PyData.eqv; simp
      · cases e2
    | lst b =>
      unfold D.py at e2
      split at e2
      · cases e2; unfold PyData.eqv; simp
      · cases e2
    | _ => unfold ib at hy; cases hy
  | .non, y, p, q, _, hy, e1, e2 => by
    cases e1
    cases y with
    | int b => cases e2; unfold PyData.eqv; simp
    | non => cases e2; unfold PyData.eqv; simp
    | str b => cases e2; unfold PyData.eqv; simp
    | tup b =>
      unfold D.py at e2
      split at e2
      · cases e2; unfold PyData.eqv; simp
      · cases e2
    | lst b =>
      unfold D.py at e2
      split at e2
      · cases e2; unfold PyData.eqv; simp
      · cases e2
    | _ => unfold ib at hy; cases hy
  | .str a, y, p, q, _, hy, e1, e2 => by
    cases e1
    cases y with
    | int b => cases e2; unfold PyData.eqv; simp
    | non => cases e2; unfold PyData.eqv; simp
    | str b => cases e2; unfold PyData.eqv; simp
    | tup b =>
      unfold D.py at e2
      split at e2
      · cases e2; unfold PyData.eqv; simp
      · cases e2
    | lst b =>
      unfold D.py at e2
      split at e2
      · cases e2; unfold PyData.eqv; simp
      · cases e2
    | _ => unfold ib at hy; cases hy
  | .tup a, y, p, q, hx, hy, e1, e2 => by
    unfold D.py at e1
    split at e1
    · rename_i ds hd
      cases e1
      cases y with
      | int b => cases e2; unfold PyData.eqv; simp
      | non => cases e2; unfold PyData.eqv; simp
      | str b => cases e2; unfold PyData.eqv; simp
      | tup b =>
        unfold D.py at e2
        split at e2
        · rename_i es he
          cases e2
          unfold ib at hx hy
          unfold PyData.eqv
          rw [eqvL_iff hx hy hd he]
          simp
        · cases e2
      | lst b =>
        unfold D.py at e2
        split at e2
        · cases e2; unfold PyData.eqv; simp
        · cases e2
      | _ => unfold ib at hy; cases hy
    · cases e1
  | .lst a, y, p, q, hx, hy, e1, e2 => by
    unfold D.py at e1
    split at e1
    · rename_i ds hd
      cases e1
      cases y with
      | int b => cases e2; unfold PyData.eqv; simp
      | non => cases e2; unfold PyData.eqv; simp
      | str b => cases e2; unfold PyData.eqv; simp
      | lst b =>
        unfold D.py at e2
        split at e2
        · rename_i es he
          cases e2
          unfold ib at hx hy
          unfold PyData.eqv
          rw [eqvL_iff hx hy hd he]
          simp
        · cases e2
      | tup b =>
        unfold D.py at e2
        split at e2
        · cases e2; unfold PyData.eqv; simp
        · cases e2
      | _ => unfold ib at hy; cases hy
    · cases e1
  | .bl _, y, p, q, h, _, _, _ => by unfold ib at h; cases h
  | .unb, y, p, q, h, _, _, _ => by unfold ib at h; cases h
  | .ins _ _, y, p, q, h, _, _, _ => by unfold ib at h; cases h
  | .ml _, y, p, q, h, _, _, _ => by unfold ib at h; cases h
  | .mi _ _, y, p, q, h, _, _, _ => by unfold ib at h; cases h
  | .dic _ _, y, p, q, h, _, _, _ => by unfold ib at h; cases h
  | .md _ _, y, p, q, h, _, _, _ => by unfold ib at h; cases h
  | .mt _, y, p, q, h, _, _, _ => by unfold ib at h; cases h
theorem eqvL_iff : ∀ {x y : List D} {p q : List PyData}, ibL x = true → ibL y = true → pyL x = some p → pyL y = some q → (PyData.eqvAll p q = true ↔ x = y)
  | [], [], _, _, _, _, e1, e2 => by
    unfold pyL at e1 e2
    cases e1; cases e2
    simp [PyData.eqvAll]
  | [], d :: l, _, _, _, _, e1, e2 => by
    unfold pyL at e1 e2
    cases e1
    split at e2
    · split at e2
      · cases e2; simp [PyData.eqvAll]
      · cases e2
    · cases e2
  | d :: l, [], _, _, _, _, e1, e2 => by
    unfold pyL at e1 e2
    cases e2
    split at e1
    · split at e1
      · cases e1; simp [PyData.eqvAll]
      · cases e1
    · cases e1
  | d :: l, d' :: l', _, _, hx, hy, e1, e2 => by
    unfold pyL at e1 e2
    unfold ibL at hx hy
    obtain ⟨x1, x2⟩ := Bool.and_eq_true_iff.mp hx
    obtain ⟨y1, y2⟩ := Bool.and_eq_true_iff.mp hy
    split at e1
    · rename_i a ha
      split at e1
      · rename_i as has
        split at e2
        · rename_i b hb
          split at e2
          · rename_i bs hbs
            cases e1; cases e2
            unfold PyData.eqvAll
            rw [Bool.and_eq_true_iff, eqv_iff x1 y1 ha hb, eqvL_iff x2 y2 has hbs, List.cons.injEq]
          · cases e2
        · cases e2
      · cases e1
    · cases e1
end
theorem eqb_iff {n m : Nat} {x y : D} (hx : pd n x = true) (hy : pd m y = true) (bx : ib x = true) (by_ : ib y = true) : x.eqb y = true ↔ x = y := by
  obtain ⟨p, e1, _⟩ := pd_py hx
  obtain ⟨q, e2, _⟩ := pd_py hy
  rw [eqb_of e1 e2]
  exact eqv_iff bx by_ e1 e2
/-- x == x -/
theorem eqD_self {n : Nat} {d : D} (h : pd n d = true) (hn : n ≤ 64 := by decide) : eqD d d = some (.bl true) := by
  unfold eqD
  rw [fine_pd h hn, eqb_self h]
  rfl
theorem neD_self {n : Nat} {d : D} (h : pd n d = true) (hn : n ≤ 64 := by decide) : neD d d = some (.bl false) := by
  unfold neD
  rw [fine_pd h hn, eqb_self h]
  rfl
theorem pdL_map {α : Type} {n : Nat} {f : α → D} : ∀ {l : List α}, (∀ x ∈ l, pd n (f x) = true) → pdL n (l.map f) = true
  | [], _ => by unfold pdL; rfl
  | x :: l, h => by
    show pdL n (f x :: l.map f) = true
    unfold pdL
    rw [h x List.mem_cons_self, pdL_map fun y hy => h y (List.mem_cons_of_mem _ hy)]
    rfl
theorem ibL_map {α : Type} {f : α → D} : ∀ {l : List α}, (∀ x ∈ l, ib (f x) = true) → ibL (l.map f) = true
  | [], _ => by unfold ibL; rfl
  | x :: l, h => by
    show ibL (f x :: l.map f) = true
    unfold ibL
    rw [h x List.mem_cons_self, ibL_map fun y hy => h y (List.mem_cons_of_mem _ hy)]
    rfl
end DL
namespace DL
open PySem PySem.Spec PyProof.Rows L2 SX
theorem cutL_to {l : List D} {a : Int} (h : 0 ≤ a) : cutL l none (some a) = l.take a.toNat := by
  show (l.drop 0).take ((if a < 0 then (a + (l.length : Int)).toNat else min a.toNat l.length) - 0) = _
  rw [if_neg (by omega), List.drop_zero, Nat.sub_zero]
  rcases Nat.le_total a.toNat l.length with h1 | h1
  · rw [Nat.min_eq_left h1]
  · rw [Nat.min_eq_right h1, List.take_of_length_le (Nat.le_refl _), List.take_of_length_le h1]
theorem cutL_from {l : List D} {a : Int} (h : 0 ≤ a) : cutL l (some a) none = l.drop a.toNat := by
  show (l.drop (if a < 0 then (a + (l.length : Int)).toNat else min a.toNat l.length)).take (l.length - (if a < 0 then (a + (l.length : Int)).toNat else min a.toNat l.length)) = _
  rw [if_neg (by omega)]
  rcases Nat.le_total a.toNat l.length with h1 | h1
  · rw [Nat.min_eq_left h1, List.take_of_length_le (by rw [List.length_drop]; omega)]
  · rw [Nat.min_eq_right h1, List.drop_of_length_le (Nat.le_refl _), List.drop_of_length_le h1, List.take_nil]
theorem cutD_strS (z : Str) (lo hi : Option Int) : cutD (.str z) lo hi = if z.length ≤ sizeLine then some (.str (Txt.slice z lo hi)) else none := by
  show (if z.length ≤ sizeLine then some (D.str (cutS z lo hi)) else none) = _
  rw [C8.cutS_slice]
theorem cutD_from {a : List Nat} {i : Int} (h : 0 ≤ i) (hl : a.length ≤ sizeLine) : cutD (.str (S a)) (some i) none = some (.str (S (a.drop i.toNat))) := by
  rw [cutD_strS, S_len, if_pos hl, slice_from h]
theorem addS {a b : List Nat} (h : a.length + b.length ≤ sizeLine) : addD (.str (S a)) (.str (S b)) = some (.str (S (a ++ b))) := by
  rw [addD_str, S_len, S_len, if_pos h, S_cat]
theorem addL {α : Type} {u : α → D} {a b : List α} (h : a.length + b.length ≤ sizeLine) : addD (.lst (a.map u)) (.lst (b.map u)) = some (.lst ((a ++ b).map u)) := by
  rw [addD_lst, List.length_map, List.length_map, if_pos h, List.map_append]
abbrev dS (l : List Nat) : D := .str (S l)
/-- the parts of a text -/
abbrev cutP (s : Nat) (l : List Nat) : List (List Nat) := TL.spl [s] 0 [] l
theorem splitS {s : Nat} (hs : s < 256) {l : List Nat} (h : l.length + 2 ≤ sizeLine) : splitD (S l) (.str (S [s])) = some (.lst ((cutP s l).map dS)) := by
  rw [splitD_str, S_len, S_len, if_pos ⟨rfl, h⟩, split_S (by simp) (by simp [hs]), List.map_map]
  rfl
theorem joinL_len (s : Nat) : ∀ ps : List (List Nat), (TL.joinL [s] ps).length ≤ (ps.map List.length).sum + ps.length
  | [] => by simp [TL.joinL]
  | [p] => by simp [TL.joinL]
  | p :: q :: r => by
    have := joinL_len s (q :: r)
    simp only [TL.joinL, List.length_append, List.map_cons, List.sum_cons, List.length_cons, List.length_nil] at this ⊢
    omega
theorem joinL_mem (s : Nat) : ∀ (ps : List (List Nat)) (c : Nat), c ∈ TL.joinL [s] ps → c = s ∨ ∃ p ∈ ps, c ∈ p
  | [], c, h => by simp [TL.joinL] at h
  | [p], c, h => by simp [TL.joinL] at h; exact .inr ⟨p, by simp, h⟩
  | p :: q :: r, c, h => by
    simp only [TL.joinL] at h
    rcases List.mem_append.mp h with h | h
    · exact .inr ⟨p, by simp, h⟩
    · rcases List.mem_append.mp h with h | h
      · exact .inl (List.mem_singleton.mp h)
      · rcases joinL_mem s (q :: r) c h with h | ⟨x, hx, h⟩
        · exact .inl h
        · exact .inr ⟨x, List.mem_cons_of_mem _ hx, h⟩
theorem joinS {s : List Nat} {ps : List (List Nat)} (h : (ps.map List.length).sum + ps.length * s.length ≤ 16777216) : joinD (S s) (.lst (ps.map dS)) = some (.str (S (TL.joinL s ps))) := by
  have e : ps.map dS = (ps.map S).map D.str := by rw [List.map_map]; rfl
  have e2 : ((ps.map S).map (·.length)) = ps.map List.length := lens ps
  rw [e, joinD_lst, e2, List.length_map, S_len, if_pos h, join_S]
/-- texts of signs that there are -/
def okS (l : List Nat) : Prop := ∀ c ∈ l, c < 1114112
theorem pdS {l : List Nat} (h : okS l) (n : Nat) : pd n (dS l) = true := by
  unfold pd
  rw [← Array.all_toList]
  exact List.all_eq_true.mpr fun c hc => decide_eq_true (h c hc)
theorem fineS {l : List Nat} (h : okS l) : fine (dS l) = true := fine_pd (pdS h 0)
theorem eqbS (a b : List Nat) : (dS a).eqb (dS b) = decide (a = b) := by
  rw [eqb_of (p := .str (S a)) (q := .str (S b)) rfl rfl]
  unfold PyData.eqv
  rw [S_beq_eq]
theorem len_line {n : Nat} (h : n ≤ 1000000) : n ≤ sizeLine := Nat.le_trans h (by decide)
theorem lenS {l : List Nat} (h : l.length ≤ 1000000) : lenD [dS l] = some (.int l.length) := by rw [lenD_str, S_len, if_pos (len_line h)]
theorem ix0 {l : List Nat} (h : l.length ≤ 1000000) {c : Nat} {r : List Nat} (e : l = c :: r) : ixD (.str (S l)) (.int 0) = some (.str (S [c])) := by
  subst e
  show (if (S (c :: r)).length ≤ sizeLine then (atI (S (c :: r)).cps.toList 0).map fun c => D.str ⟨#[c]⟩ else none) = _
  rw [S_len, if_pos (len_line h)]
  show (atI (c :: r) 0).map _ = _
  rw [atI_0]
  rfl
theorem inS (c : Nat) (l : List Nat) : inD (dS [c]) (dS l) = some (.bl (decide (c ∈ l))) := by
  show some (D.bl (!(Builtin.Str.occurrences (S l) (S [c]) 0 (S l).length 1).isEmpty)) = _
  rw [in_one]
theorem notInS (c : Nat) (l : List Nat) : notInD (dS [c]) (dS l) = some (.bl (!decide (c ∈ l))) := by
  show some (D.bl (!(!(Builtin.Str.occurrences (S l) (S [c]) 0 (S l).length 1).isEmpty))) = _
  rw [in_one]
theorem join_okS {ps : List (List Nat)} {s : Nat} (hs : s < 1114112) (h : ∀ p ∈ ps, okS p) : okS (TL.joinL [s] ps) := fun c hc => by
  rcases joinL_mem s ps c hc with q | ⟨p, hp, q⟩
  · omega
  · exact h p hp c q
theorem strS (n : Nat) (h : n < 2 ^ 1900) : strD [.int (n : Int)] = some (dS (TL.numL n)) := by
  rw [strD_int, if_pos (by simpa using h)]
  exact congrArg (fun z => some (D.str z)) (num_S n)
end DL
namespace DL
open PySem PySem.Spec PyProof.Rows L2 SX
section
variable (env : List D) (i k : Nat) (c : Str) (fs : List D) (d : D)
@[simp] theorem goneO_nx : goneO i (.nx env) = .nx (env.set i .unb) := rfl
@[simp] theorem goneO_bk : goneO i (.bk env) = .bk (env.set i .unb) := rfl
@[simp] theorem goneO_ct : goneO i (.ct env) = .ct (env.set i .unb) := rfl
@[simp] theorem goneO_rt : goneO i (.rt d env) = .rt d env := rfl
@[simp] theorem noEx_nx : noEx (.nx env) = .nx env := rfl
@[simp] theorem noEx_bk : noEx (.bk env) = .bk env := rfl
@[simp] theorem noEx_ct : noEx (.ct env) = .ct env := rfl
@[simp] theorem noEx_rt : noEx (.rt d env) = .rt d env := rfl
@[simp] theorem tryAsD_ap (mt : Str → Option Bool) (as : List Nat) (db : List D → O) (ds : Str → List D → List D → O) : tryAsD i mt as db ds env = match db env with
  | .ex c fs env1 => match mt c with
    | some true => if (as.all (fun i => !ownd (env1.getD i .unb)) && decide (i < env1.length)) = true then goneO i (noEx (ds c fs (env1.set i .unb))) else .bad
    | some false => .ex c fs env1
    | none => .bad
  | r => r := rfl
theorem lookup_hit {β : Type} (x : Str) (b : β) (l : List (Str × β)) : List.lookup x ((x, b) :: l) = some b := by
  rw [List.lookup_cons, beq_self_eq_true]
@[simp] theorem mtOf_hit (x : Str) (b : Bool) (l : List (Str × Bool)) : mtOf ((x, b) :: l) x = some b := lookup_hit x b l
@[simp] theorem pickD_hit (x : Str) (f : List D → List D → O) (l : List (Str × (List D → List D → O))) : pickD ((x, f) :: l) x fs = f fs := by
  unfold pickD
  rw [lookup_hit]
end
theorem eqb_no {n m : Nat} {x y : D} (hx : pd n x = true) (hy : pd m y = true) (bx : ib x = true) (by_ : ib y = true) (h : x ≠ y) : x.eqb y = false := by
  cases e : x.eqb y with
  | false => rfl
  | true => exact absurd ((eqb_iff hx hy bx by_).mp e) h
end DL
namespace DL
open PySem PySem.Spec PyProof.Rows L2 SX
theorem eqS {a b : List Nat} (ha : okS a) (hb : okS b) : eqD (dS a) (dS b) = some (.bl (decide (a = b))) := by
  rw [eqD_ap, fineS ha, fineS hb, eqbS]
  rfl
theorem neS {a b : List Nat} (ha : okS a) (hb : okS b) : neD (dS a) (dS b) = some (.bl (!decide (a = b))) := by
  rw [neD_ap, fineS ha, fineS hb, eqbS]
  rfl
end DL
namespace DL
open PySem PySem.Spec PyProof.Rows L2 SX
def intL (a : Int) : List Nat := if a < 0 then 45 :: TL.numL a.natAbs else TL.numL a.natAbs
theorem num_I (a : Int) : Str.ofString (toString a) = S (intL a) := by
  cases a with
  | ofNat n => 
    have h : ¬ ((n : Int) < 0) := by omega
    unfold intL
    show Str.ofString (toString ((n : Nat) : Int)) = S (if (n : Int) < 0 then _ else TL.numL (n : Int).natAbs)
    rw [if_neg h, Int.natAbs_natCast]
    exact num_S n
  | negSucc m =>
    unfold intL
    rw [if_pos (by omega)]
    have e : toString (Int.negSucc m) = "-" ++ toString ((m + 1 : Nat) : Int) := rfl
    have e2 := num_S (m + 1)
    apply TL.ext_tl
    rw [e, TL.tl_ofString, String.toList_append, List.map_append, ← TL.tl_ofString (toString ((m + 1 : Nat) : Int)), e2]
    rfl
theorem intL_len {k : Nat} {a : Int} (hk : 0 < k) (h : a.natAbs < 10 ^ k) : (intL a).length ≤ k + 1 := by
  have := TL.numL_len hk h
  unfold intL
  split
  · simp; omega
  · omega
theorem intL_ok (a : Int) : okS (intL a) := fun c hc => by
  unfold intL at hc
  have key : ∀ c ∈ TL.numL a.natAbs, c < 1114112 := fun c hc => by
    have := TL.numL_digits a.natAbs c hc
    omega
  split at hc
  · rcases List.mem_cons.mp hc with h | h
    · omega
    · exact key c h
  · exact key c hc
theorem intL_nb (a : Int) : 32 ∉ intL a := fun hc => by
  unfold intL at hc
  have key : 32 ∉ TL.numL a.natAbs := TL.numL_free (by omega)
  split at hc
  · rcases List.mem_cons.mp hc with h | h
    · omega
    · exact key h
  · exact key hc
theorem strI {a : Int} (h : a.natAbs < 2 ^ 1900) : strD [.int a] = some (dS (intL a)) := by
  rw [strD_int, if_pos h]
  exact congrArg (fun z => some (D.str z)) (num_I a)
end DL
namespace DL
open PySem PySem.Spec PyProof.Rows L2 SX
theorem sum_le {B : Nat} : ∀ {ps : List (List Nat)}, (∀ p ∈ ps, p.length ≤ B) → (ps.map List.length).sum ≤ ps.length * B
  | [], _ => by simp
  | p :: r, h => by
    have h1 := h p (by simp)
    have h2 := sum_le (ps := r) fun x hx => h x (List.mem_cons_of_mem _ hx)
    simp only [List.map_cons, List.sum_cons, List.length_cons, Nat.succ_mul]
    omega
end DL
namespace DL
open PySem PySem.Spec PyProof.Rows L2 SX
theorem rangeL_eq : ∀ (n : Nat) (lo : Int), rangeL lo n = (List.range n).map fun i => D.int (lo + (i : Nat))
  | 0, lo => rfl
  | n + 1, lo => by
    show D.int lo :: rangeL (lo + 1) n = _
    rw [rangeL_eq n (lo + 1), List.range_succ_eq_map, List.map_cons, List.map_map]
    congr 1
    · simp
    · refine List.map_congr_left fun i _ => ?_
      show D.int _ = D.int _
      congr 1
      simp only [Nat.succ_eq_add_one]
      omega
theorem map_of {α β : Type} {f : α → β} {P : α → Prop} : ∀ {ys : List β}, (∀ y ∈ ys, ∃ a, y = f a ∧ P a) → ∃ xs : List α, ys = xs.map f ∧ ∀ a ∈ xs, P a
  | [], _ => ⟨[], rfl, fun _ h => by cases h⟩
  | y :: ys, h => by
    obtain ⟨a, rfl, ha⟩ := h y List.mem_cons_self
    obtain ⟨xs, rfl, hx⟩ := map_of (f := f) fun y hy => h y (List.mem_cons_of_mem _ hy)
    exact ⟨a :: xs, rfl, fun b hb => (List.mem_cons.mp hb).elim (fun e => e ▸ ha) (hx b)⟩
end DL
namespace DL
open PySem PySem.Spec PyProof.Rows L2 SX
section
variable {g : D → List D → Option (List D)} {db : List D → O} {d : D} {ds env e1 e2 : List D}
theorem forGo_nx (h1 : g d env = some e1) (h2 : db e1 = .nx e2) : forGo g db (d :: ds) env = forGo g db ds e2 := by
  conv => lhs; unfold forGo
  rw [h1]
  simp only [h2]
theorem forGo_ex {c : Str} {fs : List D} (h1 : g d env = some e1) (h2 : db e1 = .ex c fs e2) : forGo g db (d :: ds) env = .ex c fs e2 := by
  conv => lhs; unfold forGo
  rw [h1]
  simp only [h2]
end
end DL
namespace DL
open PySem PySem.Spec PyProof.Rows L2 HT
section
variable {prog : Program} {w : World} {A : Around} {E : Value → Shared → Prop} {s : Shared}
end
theorem RpL.reverse {M : Mo} {F : Hp} : ∀ {l : List D} {xs : List V}, RpL M F l xs → RpL M F l.reverse xs.reverse
  | _, _, .nil => .nil
  | _, _, .cons h t => by
    rw [List.reverse_cons, List.reverse_cons]
    exact t.reverse.append (.cons h .nil)
end DL
namespace DL
open PySem PySem.Spec PyProof.Rows L2 HT
section
variable {prog : Program} {w : World} {A : Around} {E : Value → Shared → Prop} {s : Shared}
theorem min_intTup {t : Addr} {xs : Array (Int × Tok)} {Q : Value → Shared → Prop} (hh : A.handled = none) (ht : s.heap.IsTuple t (intItems xs)) (hne : 0 < xs.size)
    (h : ∀ v h' tk, (intItems xs)[argBest (fun i j => decide (numAt xs i < numAt xs j)) (xs.size - 1)]? = some v → (∀ b o, s.heap.get? b = some o → h'.get? b = some o) → Q v { s with heap := h', toks := tk }) :
    wpAny (model prog w) A (call (.builtin "min") [.ref t]) Q E s := by
  obtain ⟨o, ho, hc, n, hd⟩ := id ht
  have hne' : t ≠ s.heap.objs.size := Nat.ne_of_lt (Heap.lt_size ho)
  refine call_min_walk (wpAny_pyIter_tuple ht ?_)
  refine ⟨_, [_, t], [_], _, _, _, _, rfl, Walks.tuple (A := A.in1) hh _ t hne' (intItems xs), ⟨⟨_, Heap.get?_push_size _ rfl, rfl, rfl⟩, ht.at fun o e => Heap.get?_push_of_some _ e⟩, fun b hb => ?_, by simpa [intItems] using hne, CmpOf.ints_lt (numAt xs) (fun _ _ => intItems_at), fun v h' tk hP hk => ?_⟩
  · rcases List.mem_cons.mp hb with rfl | hb
    · exact Heap.lt_size (Heap.get?_push_size _ rfl)
    · obtain rfl := List.mem_singleton.mp hb
      exact Heap.lt_size (Heap.get?_push_of_some _ ho)
  · exact h v h' tk (by simpa [intItems] using hP) fun b o e => hk b o (fun hm => absurd (Heap.lt_size e) ((List.mem_singleton.mp hm) ▸ Nat.lt_irrefl _)) (Heap.get?_push_of_some _ e)
end
section
variable {X : L2.Cx}
theorem cr_minT (hc : X.calm = true) : CallR X (.builtin "min") (fun vs H Q => ∃ (a : Addr) (ns : List Int), vs = [V.ref a] ∧ SqT X.K H a (ns.map V.int) ∧ 0 < ns.length ∧ ∀ m, m ∈ ns → (∀ y, y ∈ ns → m ≤ y) → Q (.int m) H) := by
  intro pins s σ H vs us Q I r h
  obtain ⟨a, ns, rfl, hs, hne, q⟩ := h
  obtain ⟨its, rv, ht, _⟩ := I.tuple hs
  rw [Vals.ref1 r]
  obtain ⟨o, e, c, n, d⟩ := ht
  have hl : s.heap.IsTuple a its.toArray := ⟨o, e, c, n, d⟩
  have hi := rv.ints
  obtain ⟨xs, e⟩ := hi.allInts.items
  have hn : numsOf (intItems xs).toList = ns := by rw [← e]; exact hi.numsOf
  rw [nums_intItems] at hn
  subst hn
  rw [e] at hl
  have hsz : 0 < xs.size := by simpa using hne
  refine min_intTup (I.ok.hd hc) hl hsz fun v h' tk hv hk => ?_
  obtain ⟨t, rfl⟩ := intItems_at hv
  obtain ⟨h1, h2⟩ := argBest_lt (numAt xs) (xs.size - 1)
  refine ⟨.int _, H, I.kept hk, ⟨_, rfl⟩, q _ ?_ fun a ha => ?_⟩
  · rw [numAt_eq]; exact PySem.getD_mem (by rw [List.length_map, Array.length_toList]; omega)
  · obtain ⟨j, hj, rfl⟩ := mem_getD ha
    rw [List.length_map, Array.length_toList] at hj
    rw [← numAt_eq]; exact h2 j (by omega)
end
def mnL (l : List D) : Option D := match intsOf l with
  | some ns => if 0 < ns.length then some (.int (minI ns)) else none
  | none => none
def minX : List D → Option D
  | [.lst l] => mnL l
  | [.tup l] => mnL l
  | [.int a, .int b] => some (.int (if b < a then b else a))
  | _ => none
section
variable {X : L2.Cx}
theorem cd_minX (hc : X.calm = true) : CallD X (.builtin "min") minX := fun pins s σ F H ds d xs us Q I e p r e1 q => by
  unfold minX at e1
  split at e1
  · exact cd_min hc pins s σ F H _ d xs us Q I e p r e1 q
  · rename_i l
    unfold mnL at e1
    cases o : intsOf l with
    | none => rw [o] at e1; cases e1
    | some ns =>
      rw [o] at e1
      simp only at e1
      split at e1
      · rename_i hn
        cases e1
        obtain ⟨v, rfl, h⟩ := p.one_inv
        obtain ⟨a, ys, rfl, h1, h2⟩ := h.tup_inv
        rw [intsOf_eq o] at h2
        rw [h2.ints_inv] at h1
        exact cr_minT hc pins s σ H _ us Q I r ⟨a, ns, rfl, ex_t e h1, hn, fun m m1 m2 => by
          rw [minI_uniq m1 m2]
          exact q F H _ (Grow.refl e) (.int _)⟩
      · cases e1
  · exact cd_min hc pins s σ F H _ d xs us Q I e p r (by exact e1) q
  · cases e1
end
section
variable {X : L2.Cx} {j : J} {x y : Str} {px pos p : Pos}
end
@[simp] theorem minX_two (a b : Int) : minX [.int a, .int b] = some (.int (if b < a then b else a)) := rfl
@[simp] theorem minX_lst (l : List D) : minX [.lst l] = mnL l := rfl
@[simp] theorem minX_tup (l : List D) : minX [.tup l] = mnL l := rfl
end DL
namespace DL
open PySem PySem.Spec PyProof.Rows L2 HT
section
variable {X : Cx} {j : J} {elt tg iter tg1 iter1 : Expr} {ifs ifs1 : List Expr} {scope : Scope} {pos : Pos} {own : List (Str × Nat)} {di di1 : List D → R (List D)} {g g1 : D → List D → Option (List D)} {dt dt1 : List D → R Bool} {de : List D → R D} {ss : List Nat}
end
end DL
namespace DL
open PySem PySem.Spec PyProof.Rows L2 HT
section
variable {X : L2.Cx}
end
end DL
namespace DL
open PySem PySem.Spec PyProof.Rows L2 HT
end DL
namespace DL
open PySem PySem.Spec PyProof.Rows L2 HT
def flatL (l : List D) : Bool := l.all fun d => !isOwn d
theorem OwL.flat {M : Mo} {W : Own} {F H : Hp} : ∀ {q : List Nat} {k : Nat} {l : List D} {xs : List V}, OwL M W F H q k l xs → flatL l = true → RpL M F l xs
  | _, _, _, _, .nil, _ => .nil
  | _, _, d :: l, _, .cons h t, hf => by
    unfold flatL at hf
    rw [List.all_cons, Bool.and_eq_true] at hf
    refine .cons ?_ (OwL.flat t hf.2)
    cases h with
    | fz h => exact h
    | ml _ _ _ => simp [isOwn] at hf
    | mi _ _ _ _ _ _ _ => simp [isOwn] at hf
    | md _ _ _ _ => simp [isOwn] at hf
    | mt _ _ _ => simp [isOwn] at hf
    | mdt _ _ _ _ => simp [isOwn] at hf
/-- lists that stand by themselves, of nobody yet -/
inductive KL (M : Mo) (H0 : Hp) (W : Own) (F H : Hp) (Dl : Addr) : List (List D) → List Addr → Prop
  | nil : KL M H0 W F H Dl [] []
  | cons {l : List D} {L : List (List D)} {p : Addr} {ps : List Addr} {ys : List V} : H p = some (.lst ys) → RpL M F l ys → F p = none → W p = none → H0 p = none → p ≠ Dl → p ∉ ps → KL M H0 W F H Dl L ps → KL M H0 W F H Dl (l :: L) (p :: ps)
theorem KL.length {M : Mo} {H0 : Hp} {W : Own} {F H : Hp} {Dl : Addr} : ∀ {L : List (List D)} {ps : List Addr}, KL M H0 W F H Dl L ps → L.length = ps.length
  | _, _, .nil => rfl
  | _, _, .cons _ _ _ _ _ _ _ t => congrArg (· + 1) t.length
theorem KL.keep {M : Mo} {H0 : Hp} {W W' : Own} {F F' H H' : Hp} {Dl : Addr} (e : Ex F F') : ∀ {L : List (List D)} {ps : List Addr}, KL M H0 W F H Dl L ps → (∀ b o, H b = some (.lst o) → F b = none → W b = none → H' b = some (.lst o) ∧ F' b = none ∧ W' b = none) → KL M H0 W' F' H' Dl L ps
  | _, _, .nil, _ => .nil
  | _, _, .cons h1 h2 h3 h4 h5 h6 h7 t, k => by
    obtain ⟨a, b, c⟩ := k _ _ h1 h3 h4
    exact .cons a (h2.mono e) b c h5 h6 h7 (t.keep e k)
theorem KL.mem {M : Mo} {H0 : Hp} {W : Own} {F H : Hp} {Dl : Addr} : ∀ {L : List (List D)} {ps : List Addr}, KL M H0 W F H Dl L ps → ∀ p ∈ ps, F p = none ∧ W p = none ∧ H0 p = none ∧ p ≠ Dl ∧ ∃ ys, H p = some (.lst ys)
  | _, _, .nil, _, h => by cases h
  | _, _, .cons h1 h2 h3 h4 h5 h6 h7 t, p, h => by
    rcases List.mem_cons.mp h with rfl | h
    · exact ⟨h3, h4, h5, h6, _, h1⟩
    · exact t.mem p h
theorem KL.snoc {M : Mo} {H0 : Hp} {W : Own} {F H : Hp} {Dl : Addr} {l : List D} {p : Addr} {ys : List V} (h1 : H p = some (.lst ys)) (h2 : RpL M F l ys) (h3 : F p = none) (h4 : W p = none) (h5 : H0 p = none) (h6 : p ≠ Dl) : ∀ {L : List (List D)} {ps : List Addr}, KL M H0 W F H Dl L ps → p ∉ ps → KL M H0 W F H Dl (L ++ [l]) (ps ++ [p])
  | _, _, .nil, _ => .cons h1 h2 h3 h4 h5 h6 (by simp) .nil
  | _, _, .cons (ps := ps) (p := q) a1 a2 a3 a4 a5 a6 a7 t, hn => by
    simp only [List.mem_cons, not_or] at hn
    refine .cons a1 a2 a3 a4 a5 a6 ?_ (KL.snoc h1 h2 h3 h4 h5 h6 t hn.2)
    intro hm
    rcases List.mem_append.mp hm with hm | hm
    · exact a7 hm
    · exact hn.1 (List.mem_singleton.mp hm).symm
/-- p, no more owned -/
def offW (W : Own) (p : Addr) : Own := fun b => if b = p then none else W b
theorem offW_other {W : Own} {p b : Addr} (h : b ≠ p) : offW W p b = W b := if_neg h
theorem offW_same {W : Own} {p : Addr} : offW W p p = none := if_pos rfl
theorem offW_ne {W : Own} {p b : Addr} (h : offW W p b ≠ none) : W b ≠ none := fun z => h (by unfold offW; split; rfl; exact z)
theorem offW_some {W : Own} {p b : Addr} {q : List Nat} (h : offW W p b = some q) : W b = some q := by
  unfold offW at h
  split at h
  · cases h
  · exact h
def idx : List Addr → Addr → Nat
  | [], _ => 0
  | q :: r, b => if q = b then 0 else idx r b + 1
theorem idx_app : ∀ {pre : List Addr} {p : Addr} {r : List Addr}, p ∉ pre → idx (pre ++ p :: r) p = pre.length
  | [], p, r, _ => by simp [idx]
  | q :: pre, p, r, h => by
    simp only [List.mem_cons, not_or] at h
    rw [List.cons_append]
    unfold idx
    rw [if_neg (Ne.symm h.1), idx_app h.2]
    rfl
theorem KL.nodup {M : Mo} {H0 : Hp} {W : Own} {F H : Hp} {Dl : Addr} : ∀ {L : List (List D)} {ps : List Addr}, KL M H0 W F H Dl L ps → ps.Nodup
  | _, _, .nil => List.nodup_nil
  | _, _, .cons _ _ _ _ _ _ h t => List.nodup_cons.mpr ⟨h, t.nodup⟩
theorem KL.chg {M : Mo} {H0 : Hp} {W W' : Own} {F F' H H' : Hp} {Dl : Addr} (e : Ex F F') : ∀ {L : List (List D)} {ps : List Addr}, KL M H0 W F H Dl L ps → (∀ q ∈ ps, ∀ o, H q = some o → H' q = some o) → (∀ q ∈ ps, W' q = none) → (∀ q ∈ ps, F' q = none) → KL M H0 W' F' H' Dl L ps
  | _, _, .nil, _, _, _ => .nil
  | _, _, .cons (p := p) h1 h2 h3 h4 h5 h6 h7 t, a, b, c => .cons (a p (by simp) _ h1) (h2.mono e) (c p (by simp)) (b p (by simp)) h5 h6 h7 (t.chg e (fun q hq => a q (List.mem_cons_of_mem _ hq)) (fun q hq => b q (List.mem_cons_of_mem _ hq)) fun q hq => c q (List.mem_cons_of_mem _ hq))
theorem RpL.own {M : Mo} {W : Own} {F H : Hp} {q : List Nat} : ∀ {l : List D} {xs : List V} {k : Nat}, RpL M F l xs → OwL M W F H q k l xs
  | _, _, _, .nil => .nil
  | _, _, _, .cons h t => .cons (.fz h) t.own
/-- the list and its lists, owned -/
def keepW (W : Own) (Dl : Addr) (ps : List Addr) : Own := fun b => if b = Dl then some [0] else if b ∈ ps then some [0, idx ps b] else if rootIs (W b) 0 = true then none else W b
theorem KL.own {M : Mo} {H0 : Hp} {W W' : Own} {F H : Hp} {Dl : Addr} {ps : List Addr} (hn : ps.Nodup) (hw : ∀ q ∈ ps, W' q = some [0, idx ps q]) : ∀ {L : List (List D)} {suf pre : List Addr}, pre ++ suf = ps → KL M H0 W F H Dl L suf → OwL M W' F H [0] pre.length (L.map D.ml) (suf.map V.ref)
  | [], [], _, _, .nil => .nil
  | l :: L, p :: r, pre, e, .cons h1 h2 h3 h4 h5 h6 h7 t => by
    have hm : p ∈ ps := by rw [← e]; simp
    have hp : p ∉ pre := fun z => by
      rw [← e, List.nodup_append] at hn
      exact hn.2.2 p z p (by simp) rfl
    have hi : idx ps p = pre.length := by rw [← e]; exact idx_app hp
    refine .cons (.ml ?_ h1 h2.own) ?_
    · rw [hw p hm, hi]
      rfl
    · have := KL.own hn hw (pre := pre ++ [p]) (by rw [List.append_assoc]; exact e) t
      rw [List.length_append] at this
      exact this
theorem AtO.bindB {γ : Type} {M : Mo} {e : Ent} {F : Hp} {σ : L2.St} {r : R D} {f : D → List D → R γ} {o : R γ} {P : VK} (h : DL.bindB r f = o) (ho : o ≠ .bad)
    (k : ∀ d env1 W1 F1 H1 v, r = .ok d env1 → Rel M e W1 F1 H1 env1 σ → Ex F F1 → Ow M W1 F1 H1 [0] d v → f d env1 = o → P v H1) : AtO M ⟨e, noX⟩ F σ r P := by
  cases r with
  | ok d env' => exact fun W' F' H' v a b c => k d env' W' F' H' v rfl a b c h
  | ex c fs env' => exact absurd h.symm ho
  | bad => exact absurd h.symm ho
def lcoGo (g : D → List D → Option (List D)) (dt : List D → R Bool) (de : List D → R D) (vs : List Nat) : List D → List (List D) → List D → R (List (List D))
  | [], acc, env => .ok acc env
  | d :: ds, acc, env => match g d env with
    | none => .bad
    | some env1 => bindB (dt env1) fun b env2 => if b = true then bindB (de env2) fun y env3 => match y with
        | .ml l => if flatL l = true then lcoGo g dt de vs ds (acc ++ [l]) (wipeD env3 vs) else .bad
        | _ => .bad
      else lcoGo g dt de vs ds acc (wipeD env2 vs)
def lcoD (di : List D → R (List D)) (g : D → List D → Option (List D)) (dt : List D → R Bool) (de : List D → R D) (vs : List Nat) : List D → R D := fun env => bindR (di env) fun ds env1 =>
  if ds.length ≤ 1000000 then bindB (lcoGo g dt de vs ds [] (wipeD env1 vs)) fun acc env2 => .ok (.ml (acc.map D.ml)) (backD env1 env2 vs) else .bad
abbrev lcEo (M : Mo) (vs : List Nat) (de : List D → R D) : TE := fun σ H Q => ∃ eb : Ent, (∀ i ∈ vs, eb.P i = none) ∧ tO M ⟨eb, noX⟩ de σ H Q
section
variable {X : Cx} {j : J} {elt tg iter : Expr} {ifs : List Expr} {scope : Scope} {pos : Pos} {own : List (Str × Nat)} {di : List D → R (List D)} {g : D → List D → Option (List D)} {dt : List D → R Bool} {de : List D → R D} {ss : List Nat}
theorem lco_red {vs : List Nat} (hp : ∀ i ∈ vs, j.e.P i = none) (hss : ∀ i ∈ ss, i ∈ vs) {σ : L2.St} {H : Hp} {Q : VK} (h : tO (mo X) j (lcoD di g dt de vs) σ H Q) : tLc (tI (mo X) j di) (lcG (mo X) vs ss g) (lcT (mo X) vs dt) (lcEo (mo X) vs de) vs σ H Q := by
  obtain ⟨W, F, env, rel, q⟩ := h
  refine ⟨W, F, env, rel, AtO.bind q fun ds env1 W1 F1 H1 Ji _ r1 x1 p1 q1 => ?_⟩
  by_cases hds0 : ¬ ds.length ≤ 1000000
  · rw [if_neg hds0] at q1
    exact q1.elim
  have hds : ds.length ≤ 1000000 := by omega
  rw [if_pos hds] at q1
  cases o : lcoGo g dt de vs ds [] (wipeD env1 vs) with
  | ex c fs en => rw [o] at q1; exact q1.elim
  | bad => rw [o] at q1; exact q1.elim
  | ok acc0 env0 =>
    rw [o] at q1
    intro Dl hDl
    have wl : (wipe σ vs).length = σ.length := wipe_length σ vs
    have wg : ∀ i, i ∉ vs → (wipe σ vs)[i]? = σ[i]? := fun i h => wipe_get h
    have dW1 : W1 Dl = none := by
      cases z : W1 Dl with
      | none => rfl
      | some p => exact absurd hDl (r1.sep Dl (by rw [z]; simp)).2.2
    have dF1 : F1 Dl = none := r1.exF.none hDl
    -- the new list
    have gr : Rel (mo X) j.e W1 F1 (upd H1 Dl (.lst [])) (wipeD env1 vs) (wipe σ vs) := by
      have a := r1.wipe vs wl wg hp
      have h0 : j.e.H0 Dl = none := by
        cases z : j.e.H0 Dl with
        | none => rfl
        | some p => exact absurd hDl (r1.stay Dl (by rw [z]; simp))
      refine ⟨⟨fun b u h1 h2 => ?_, a.exF0, fun b u h => ?_, fun b h => ?_, a.fresh, a.new, fun b h => ?_, a.tupsU h0, a.tuprU h0, nofU a.nof flat_lst fun _ _ h => h⟩, a.len, fun i d h1 h2 => ?_, a.pin⟩
      · have : b ≠ Dl := fun z => by
          subst z
          rw [h0] at h2
          cases h2
        rw [upd_ne this]
        exact a.pres b u h1 h2
      · have : b ≠ Dl := fun z => by
          subst z
          rw [dF1] at h
          cases h
        rw [upd_ne this]
        exact a.exF b u h
      · have : b ≠ Dl := fun z => h (by rw [z]; exact dW1)
        rw [upd_ne this]
        exact a.sep b h
      · by_cases z : b = Dl
        · rw [z, upd_same]
          simp
        · rw [upd_ne z]
          exact a.stay b h
      · obtain ⟨v, h3, h4⟩ := a.slot i d h1 h2
        refine ⟨v, h3, h4.tr (Ex.refl F1) fun b q z => ⟨z, fun u y => ?_⟩⟩
        have : b ≠ Dl := fun w => by
          rw [w, dW1] at z
          cases z
        rw [upd_ne this]
        exact y
    refine ⟨fun i m H => m = ds.length - i ∧ i ≤ ds.length ∧ ∃ W2 F2 env2 acc xs ps, Rel (mo X) j.e W2 F2 H env2 (wipe σ vs) ∧ Ex F1 F2 ∧ H Dl = some (.lst xs) ∧ F2 Dl = none ∧ W2 Dl = none ∧ KL (mo X) j.e.H0 W2 F2 H Dl acc ps ∧ xs = ps.map V.ref ∧ acc.length ≤ i ∧ (∀ i ∈ vs, ∀ d, env2[i]? = some d → d = .unb) ∧ lcoGo g dt de vs (ds.drop i) acc env2 = .ok acc0 env0,
      ⟨_, rfl, Nat.zero_le _, W1, F1, _, [], [], [], gr, Ex.refl F1, upd_same, dF1, dW1, .nil, rfl, Nat.zero_le _, fun i hi d h => Classical.byContradiction fun hd => (wipeD_get h hd).1 hi, o⟩, fun i m H hw => ?_⟩
    obtain ⟨rfl, hi, W2, F2, env2, acc, xs, ps, r2, x2, hD, hF, hW, ra, hxs, hacc, hun, e2⟩ := hw
    by_cases hlt : i < ds.length
    · obtain ⟨go, yl⟩ := (p1 i F2 H x2 r2.exF).1 hlt
      rw [List.drop_eq_getElem_cons hlt] at e2
      unfold lcoGo at e2
      cases og : g ds[i] env2 with
      | none => rw [og] at e2; cases e2
      | some env3 =>
        rw [og] at e2
        simp only at e2
        refine .inr ⟨go, fun H' => ∃ W4 F4 env4 acc4 xs4 ps4, Rel (mo X) j.e W4 F4 H' env4 (wipe σ vs) ∧ Ex F1 F4 ∧ H' Dl = some (.lst xs4) ∧ F4 Dl = none ∧ W4 Dl = none ∧ KL (mo X) j.e.H0 W4 F4 H' Dl acc4 ps4 ∧ xs4 = ps4.map V.ref ∧ acc4.length ≤ i + 1 ∧ (∀ i ∈ vs, ∀ d, env4[i]? = some d → d = .unb) ∧ lcoGo g dt de vs (ds.drop (i + 1)) acc4 env4 = .ok acc0 env0,
          fun H' h => ⟨ds.length - (i + 1), by omega, rfl, hlt, h⟩, fun x H' hy => ?_⟩
        obtain ⟨F3, d, e1, grw, rp⟩ := yl x H' hy
        have ed : ds[i] = d := by
          rw [List.getElem?_eq_getElem hlt] at e1
          exact Option.some.inj e1
        have r3 := r2.grow grw
        have hD3 : H' Dl = some (.lst xs) := grw.exH _ _ hD
        have hF3 : F3 Dl = none := by
          cases z : F3 Dl with
          | none => rfl
          | some u =>
            rcases grw.new Dl (by rw [z]; simp) with y | y | y
            · exact absurd hF y
            · rw [y] at hD
              cases hD
            · exact absurd y (FlatT.not hD flat_lst)
        -- the block's own entry
        have hpb : ∃ pb : Nat → Option V, (∀ i ∈ vs, pb i = none) ∧ (∀ i v, pb i = some v → (wipe σ vs)[i]? = some (some v)) ∧ (∀ i v, i ∉ vs → (wipe σ vs)[i]? = some (some v) → pb i = some v) :=
          ⟨fun i => if i ∈ vs then none else match (wipe σ vs)[i]? with | some o => o | none => none, fun i h => if_pos h, fun i v h => by
            simp only at h
            by_cases z : i ∈ vs
            · rw [if_pos z] at h
              cases h
            · rw [if_neg z] at h
              cases y : (wipe σ vs)[i]? with
              | none => rw [y] at h; cases h
              | some o => rw [y] at h; exact congrArg some h, fun i v h1 h2 => by
            simp only
            rw [if_neg h1, h2]⟩
        obtain ⟨pb, pb1, pb2, pb3⟩ := hpb
        have rB := r3.inB (pb := pb) pb2 fun i d h1 h2 h3 z => by
          have hn : i ∉ vs := fun hv => h3 (hun i hv d h1)
          obtain ⟨v, h4, _⟩ := r3.slot i d h1 h3
          rw [pb3 i v hn h4] at z
          cases z
        have hpe : ∀ i v, j.e.P i = some v → pb i = some v := fun i v h => by
          have hn : i ∉ vs := fun hv => by
            rw [hp i hv] at h
            cases h
          exact pb3 i v hn (r3.pin i v h)
        refine ⟨_, pb1, blkW pb W2, F3, env2, d, rB, rp, env3, by rw [← ed]; exact og, fun W4 F4 H4 σ4 r4 x4 l4 k4 => ?_⟩
        have k4' : ∀ i, i ∉ vs → σ4[i]? = (wipe σ vs)[i]? := fun i hn => k4 i fun z => hn (hss i z)
        have wσ : wipe σ4 vs = wipe σ vs := by
          rw [wipe_eq (σ := wipe σ vs) (σ' := σ4) l4 k4']
          refine List.ext_getElem? fun i => ?_
          by_cases z : i ∈ vs
          · rw [wipe_in z, wipe_in z, wl]
          · rw [wipe_get z]
        refine ⟨wσ, _, pb1, W4, F4, env3, r4, ?_⟩
        have keepC : ∀ {W' F' H' env' σ'}, Rel (mo X) ⟨_, F3, blkW pb W2, pb⟩ W' F' H' env' σ' → ∀ b o, H b = some (.lst o) → F2 b = none → W2 b = none → H' b = some (.lst o) ∧ F' b = none ∧ W' b = none := fun {W' F' H' env' σ'} r b o hb hFb hWb => by
          have hb3 := grw.exH _ _ hb
          have hFb3 : F3 b = none := by
            cases z : F3 b with
            | none => rfl
            | some u =>
              rcases grw.new b (by rw [z]; simp) with y | y | y
              · exact absurd hFb y
              · rw [y] at hb
                cases hb
              · exact absurd y (FlatT.not hb flat_lst)
          have bn : blkW pb W2 b = none := by
            unfold blkW
            rw [hWb]
          refine ⟨r.pres b _ bn hb3, ?_, ?_⟩
          · cases z : F' b with
            | none => rfl
            | some u =>
              rcases r.new b (by rw [z]; simp) with y | y | y
              · exact absurd hFb3 y
              · cases hb3.symm.trans y
              · exact absurd y (FlatT.not hb3 flat_lst)
          · cases z : W' b with
            | none => rfl
            | some u =>
              rcases (r.sep b (by rw [z]; simp)).2.1 with y | y
              · exact absurd bn y
              · cases hb3.symm.trans y
        have keepK : ∀ {W' F' H' env' σ'}, Rel (mo X) ⟨_, F3, blkW pb W2, pb⟩ W' F' H' env' σ' → Ex F2 F' → KL (mo X) j.e.H0 W' F' H' Dl acc ps := fun {W' F' H' env' σ'} r e => ra.keep e fun b o h1 h2 h3 => keepC r b o h1 h2 h3
        have back : ∀ {W' F' H' env'}, Rel (mo X) ⟨_, F3, blkW pb W2, pb⟩ W' F' H' env' σ4 → Rel (mo X) j.e W' F' H' (wipeD env' vs) (wipe σ vs) := fun {W' F' H' env'} r =>
          (Rel.outB r3.toRelB r hpe).wipe vs (by rw [l4]) (fun i hn => (k4' i hn).symm) hp
        have unb : ∀ (env' : List D) i, i ∈ vs → ∀ d, (wipeD env' vs)[i]? = some d → d = .unb := fun env' i hv d h => Classical.byContradiction fun hd => (wipeD_get h hd).1 hv
        refine At.bindB e2 (fun z => nomatch z) fun b env5 W5 F5 H5 b' ob r5 x5 hb e5 => ?_
        subst hb
        cases b with
        | false =>
          rw [if_neg Bool.false_ne_true] at e5 ⊢
          obtain ⟨d1, d2, d3⟩ := keepC r5 Dl _ hD hF hW
          have xx : Ex F2 F5 := grw.exF.trans (x4.trans x5)
          exact ⟨W5, F5, _, acc, xs, ps, back r5, x2.trans xx, d1, d2, d3, keepK r5 xx, hxs, by omega, unb _, e5⟩
        | true =>
          rw [if_pos rfl] at e5 ⊢
          refine ⟨_, pb1, W5, F5, env5, r5, AtO.bindB e5 (fun z => nomatch z) fun y env6 W6 F6 H6 v oy r6 x6 py e6 => ?_⟩
          cases y with
          | ml l =>
            simp only at e6
            by_cases hfl : flatL l = true
            · rw [if_pos hfl] at e6
              have xx : Ex F2 F6 := grw.exF.trans (x4.trans (x5.trans x6))
              cases py with
              | fz h => cases h
              | @ml p' p ys l' w1 w2 w3 =>
                obtain ⟨d1, d2, d3⟩ := keepC r6 Dl _ hD hF hW
                have rl := w3.flat hfl
                have hp0 : H' p = none := by
                  rcases r6.fresh p 0 [] w1 with z | ⟨i, v, q0, z, _⟩
                  · exact z
                  · omega
                have hpD : p ≠ Dl := fun e => by rw [e, hD3] at hp0; cases hp0
                have hp2 : ∀ b o, H b = some o → p ≠ b := fun b o h e => by
                  have := grw.exH _ _ h
                  rw [← e, hp0] at this
                  cases this
                have hpj : j.e.H0 p = none := by
                  cases z : j.e.H0 p with
                  | none => rfl
                  | some u => exact absurd hp0 (r3.stay p (by rw [z]; simp))
                have hFp : F6 p = none := (r6.sep p (by rw [w1]; simp)).1
                have kk := keepK r6 xx
                have hlen := ra.length
                -- p is nobody's now
                have a0 := back r6
                have a : Rel (mo X) j.e (offW W6 p) F6 H6 (wipeD env6 vs) (wipe σ vs) := {
                  pres := a0.pres
                  exF0 := a0.exF0
                  exF := a0.exF
                  sep := fun b hb => a0.sep b (offW_ne hb)
                  fresh := fun b r q hb => a0.fresh b r q (offW_some hb)
                  new := a0.new
                  stay := a0.stay
                  tups := a0.tups
                  tupr := a0.tupr
                  nof := fun b hb => a0.nof b (offW_ne hb)
                  len := a0.len
                  slot := fun i d h1 h2 => by
                    obtain ⟨v, h3, h4⟩ := a0.slot i d h1 h2
                    refine ⟨v, h3, h4.tr (Ex.refl _) fun b q z => ⟨?_, fun u y => y⟩⟩
                    have : b ≠ p := fun e => by
                      rw [e, w1] at z
                      injection z with z
                      injection z with z _
                      omega
                    rw [offW_other this]
                    exact z
                  pin := a0.pin }
                have dO : offW W6 p Dl = none := by rw [offW_other (Ne.symm hpD)]; exact d3
                refine ⟨xs, d1, ?_, offW W6 p, F6, _, acc ++ [l], xs ++ [.ref p], ps ++ [p], ?_, x2.trans xx, upd_same, d2, dO, ?_, by rw [hxs, List.map_append]; rfl, by rw [List.length_append]; simp; omega, unb _, e6⟩
                · rw [hxs, List.length_map, ← hlen, sizeLine_eq]
                  omega
                · have hD0' : j.e.H0 Dl = none := by
                    cases z : j.e.H0 Dl with
                    | none => rfl
                    | some p => exact absurd hDl (r1.stay Dl (by rw [z]; simp))
                  refine ⟨⟨fun b u h1 h2 => ?_, a.exF0, fun b u h => ?_, fun b h => ?_, a.fresh, a.new, fun b h => ?_, a.tupsU hD0', a.tuprU hD0', nofU a.nof flat_lst fun _ _ h => h⟩, a.len, fun i d h1 h2 => ?_, a.pin⟩
                  · have : b ≠ Dl := fun z => by
                      subst z
                      have := r1.stay b (by rw [h2]; simp)
                      exact this hDl
                    rw [upd_ne this]
                    exact a.pres b u h1 h2
                  · have : b ≠ Dl := fun z => by
                      subst z
                      rw [d2] at h
                      cases h
                    rw [upd_ne this]
                    exact a.exF b u h
                  · have : b ≠ Dl := fun z => h (by rw [z]; exact dO)
                    rw [upd_ne this]
                    exact a.sep b h
                  · by_cases z : b = Dl
                    · rw [z, upd_same]
                      simp
                    · rw [upd_ne z]
                      exact a.stay b h
                  · obtain ⟨v, h3, h4⟩ := a.slot i d h1 h2
                    refine ⟨v, h3, h4.tr (Ex.refl _) fun b q z => ⟨z, fun u y => ?_⟩⟩
                    have : b ≠ Dl := fun w => by
                      rw [w, dO] at z
                      cases z
                    rw [upd_ne this]
                    exact y
                · have hpn : p ∉ ps := fun hm => by
                    obtain ⟨_, _, _, _, ys', hh⟩ := ra.mem p hm
                    exact hp2 p _ hh rfl
                  refine KL.snoc (by rw [upd_ne hpD]; exact w2) rl hFp offW_same hpj hpD (kk.chg (Ex.refl _) (fun q hq o ho => ?_) (fun q hq => ?_) fun q hq => (kk.mem q hq).1) hpn
                  · rw [upd_ne (kk.mem q hq).2.2.2.1]
                    exact ho
                  · unfold offW
                    split
                    · rfl
                    · exact (kk.mem q hq).2.1
            · rw [if_neg hfl] at e6
              cases e6
          | _ => simp only at e6; cases e6
    · -- the end
      refine .inl ⟨(p1 i F2 H x2 r2.exF).2 (by omega), ?_⟩
      rw [List.drop_eq_nil_of_le (by omega)] at e2
      have e2 : R.ok acc env2 = R.ok acc0 env0 := e2
      injection e2 with e3 e4
      subst e3 e4
      -- the slots as they stood
      have a : Rel (mo X) j.e W2 F2 H (backD env1 env2 vs) σ := {
        toRelB := r2.toRelB
        len := by rw [backD_len, r2.len, wl]
        slot := fun i d h1 h2 => by
          rcases backD_get h1 h2 with ⟨h3, h4⟩ | ⟨h3, h4, h5⟩
          · obtain ⟨v, h6, h7⟩ := r2.slot i d h4 h2
            exact ⟨v, by rw [← wg i h3]; exact h6, h7⟩
          · obtain ⟨v, h6, h7⟩ := r1.slot i d h4 h2
            exact ⟨v, h6, .fz ((h7.rp h5).mono x2)⟩
        pin := r1.pin }
      have hD0 : j.e.H0 Dl = none := by
        cases z : j.e.H0 Dl with
        | none => rfl
        | some p => exact absurd hDl (r1.stay Dl (by rw [z]; simp))
      have kS : keepW W2 Dl ps Dl = some [0] := by
        unfold keepW
        rw [if_pos rfl]
      have kP : ∀ q ∈ ps, keepW W2 Dl ps q = some [0, idx ps q] := fun q hq => by
        unfold keepW
        rw [if_neg (ra.mem q hq).2.2.2.1, if_pos hq]
      refine q1 (keepW W2 Dl ps) F2 H (.ref Dl) ⟨⟨a.pres, a.exF0, a.exF, fun b h => ?_, fun b c q h => ?_, a.new, a.stay, a.tups, a.tupr, fun b h => (by
        by_cases z : b = Dl
        · rw [z]; exact FlatT.not hD flat_lst
        · by_cases y : b ∈ ps
          · obtain ⟨_, _, _, _, ys, m5⟩ := ra.mem b y
            exact FlatT.not m5 flat_lst
          · refine a.nof b fun w => h ?_
            unfold keepW
            rw [if_neg z, if_neg y, w]
            rfl)⟩, a.len, fun k d' h1 h2 => ?_, a.pin⟩ x2 (.ml kS hD ?_)
      · by_cases z : b = Dl
        · subst z
          exact ⟨hF, .inr hD0, by rw [hD]; simp⟩
        · by_cases y : b ∈ ps
          · obtain ⟨m1, m2, m3, m4, ys, m5⟩ := ra.mem b y
            exact ⟨m1, .inr m3, by rw [m5]; simp⟩
          · refine a.sep b fun w => h ?_
            unfold keepW
            rw [if_neg z, if_neg y, w]
            rfl
      · unfold keepW at h
        split at h
        · rename_i z
          subst z
          exact .inl hD0
        · split at h
          · rename_i y
            exact .inl (ra.mem b y).2.2.1
          · split at h
            · cases h
            · exact a.fresh b c q h
      · obtain ⟨v', h5, h6⟩ := a.slot k d' h1 h2
        refine ⟨v', h5, h6.tr (Ex.refl F2) fun b q' z => ⟨?_, fun _ y => y⟩⟩
        have n1 : b ≠ Dl := fun w => by
          rw [w, hW] at z
          cases z
        have n2 : b ∉ ps := fun w => by
          rw [(ra.mem b w).2.1] at z
          cases z
        unfold keepW
        rw [if_neg n1, if_neg n2, if_neg]
        · exact z
        · intro w
          obtain ⟨q2, h7⟩ := rootIs_iff.mp w
          rw [z] at h7
          injection h7 with h7
          injection h7 with h8 _
          omega
      · rw [hxs]
        exact KL.own ra.nodup kP (pre := []) rfl ra
/-- x = [..], x a local, on one line -/
theorem s_setLco (i : Nat) {y : Str} {py spos : Pos} (hc : X.calm = true) (hN : X.N.Nodup) (hpi : j.e.P i = none) (hp : ∀ i ∈ own.map (·.2), j.e.P i = none) (hss : ∀ i ∈ ss, i ∈ own.map (·.2)) (hi : DI X j tg iter di) (ok : BlkOk X.N X.env.scope scope own)
    (hg : ∀ (s : Shared) (H : Hp) (C : Addr) (cl : List (Str × Addr)) (fp : List Addr) (eb : Ent), (∀ i ∈ own.map (·.2), eb.P i = none) → DGw (X.blk s H scope (compEnvC scope cl C X.env) fp) ⟨eb, noX⟩ tg ss g)
    (ht : ∀ (s : Shared) (H : Hp) (C : Addr) (cl : List (Str × Addr)) (fp : List Addr) (eb : Ent), (∀ i ∈ own.map (·.2), eb.P i = none) → DTs (X.blk s H scope (compEnvC scope cl C X.env) fp) ⟨eb, noX⟩ ifs dt)
    (he : ∀ (s : Shared) (H : Hp) (C : Addr) (cl : List (Str × Addr)) (fp : List Addr) (eb : Ent), (∀ i ∈ own.map (·.2), eb.P i = none) → DO (X.blk s H scope (compEnvC scope cl C X.env) fp) ⟨eb, noX⟩ elt de)
    (hs : ∀ x, foldedSetIterable iter X.env x = pure x := by intro _; rfl) (hy : X.N[i]? = some y := by rfl) (hyl : X.env.scope.names.lookup y = some .local := by rfl) (hsw : swapsWith (.ListComp elt [⟨tg, iter, ifs, 0⟩] scope pos) (some (.Name y py)) spos.line X.env = pure true := by rfl) :
    DS X j (.Assign [.Name y py] (.ListComp elt [⟨tg, iter, ifs, 0⟩] scope pos) spos) (asgD i (lcoD di g dt de (own.map (·.2)))) :=
  PS.mono (ps_setLc (g := lcG (mo X) (own.map (·.2)) ss g) (tt := lcT (mo X) (own.map (·.2)) dt) (te := lcEo (mo X) (own.map (·.2)) de) hc hN hy hyl hsw hi ok
    (fun s H C cl fp => ⟨fun pins s' σ H' v u Q I r ⟨eb, h1, h2⟩ => (hg s H C cl fp eb h1).run pins s' σ H' v u Q I r h2⟩)
    (fun s H C cl fp => ⟨fun pins s' σ H' Q I ⟨eb, h1, h2⟩ => (ht s H C cl fp eb h1).run pins s' σ H' Q I h2⟩)
    (fun s H C cl fp => ⟨fun pins s' σ H' Q I ⟨eb, h1, h2⟩ => (he s H C cl fp eb h1).run pins s' σ H' Q I h2⟩) hs) fun Dn σ H ⟨W, F, env, rel, q⟩ => lco_red hp hss ⟨W, F, env, rel, by
    unfold asgD at q
    cases o : lcoD di g dt de (own.map (·.2)) env with
    | ok d env1 =>
      rw [o] at q
      exact fun W' F' H' v r x p => q _ F' H' _ (r.setO p hpi) x
    | ex c fs env1 =>
      rw [o] at q
      exact fun W' F' H' cls dd r x y => q W' F' H' σ cls dd r x y
    | bad =>
      rw [o] at q
      exact q⟩
end
end DL
namespace DL
open PySem PySem.Spec PyProof.Rows L2
structure Cz where
  nm : Option Nat
  c : Value
  ts : Addr → Value → Option Addr → TS
/-- an exception that has landed -/
structure Landed (X : Cx) (pins : List (Addr × Obj)) (a : Addr) (B : Heap) (cls : Value) (d : Option Addr) (σ : L2.St) (H : Hp) (sI s : Shared) : Prop where
  inv0 : Inv X pins σ H sI
  nb : ∀ b o, sI.heap.get? b = some o → b ∉ frs X.stack → B.get? b = some o
  up : sI.heap.UpToSlots s.heap
  fl : HandSPX.FlyingZ B X.stack a (Zc cls d) s.heap
  na : H a = none
  os : s.os = sI.os
  ag : AllBare s.gens
section
variable {X : Cx} {pins : List (Addr × Obj)} {a : Addr} {B : Heap} {cls : Value} {d : Option Addr} {σ : L2.St} {H : Hp} {sI s : Shared}
theorem Landed.inv (l : Landed X pins a B cls d σ H sI s) : Inv X pins σ H s := Inv.landed l.inv0 l.nb l.fl.1 l.up l.os l.ag
theorem Landed.obj (l : Landed X pins a B cls d σ H sI s) : ∃ oe vs, s.heap.get? a = some oe ∧ Zc cls d oe ∧ oe.data = .fields vs ∧ a ∉ frs X.stack := by
  obtain ⟨_, _, ff, oe, vs, _, _, _, g, z, k, _⟩ := l.fl
  refine ⟨oe, vs, g, z, k, fun hm => ?_⟩
  obtain ⟨_, o', g', h⟩ := ff.mem hm
  cases g.symm.trans g'
  exact h vs k
/-- the suite's state -/
theorem Landed.inS (l : Landed X pins a B cls d σ H sI s) (hs : X.stack = X.env :: X.outer) (hf : X.env.frame = some X.env.locals) : ∃ oe vs, Zc cls d oe ∧ oe.data = .fields vs ∧ Inv (X.suite a ((a, oe) :: (X.pn ++ pins))) [] σ H s := by
  obtain ⟨oe, vs, g, z, k, nf⟩ := l.obj
  refine ⟨oe, vs, z, k, l.inv.suite g k l.na (fun e => nf ?_) fun hm => nf ?_⟩
  · rw [hs]
    exact List.mem_filterMap.mpr ⟨X.env, by simp, by rw [hf, e]⟩
  · obtain ⟨e, h1, h2⟩ := List.mem_filterMap.mp hm
    rw [hs]
    exact List.mem_filterMap.mpr ⟨e, List.mem_cons_of_mem _ h1, h2⟩
end
section
variable {X : Cx} {body : List Stmt} {h0 : ExceptHandler} {hds : List ExceptHandler} {l : List Cz} {pos : Pos} {tb : WX → TS}
end
end DL
namespace DL
open PySem PySem.Spec PyProof.Rows L2 HT
section
variable {M : Mo} {e : Ent} {W : Own} {F H : Hp} {env : List D} {σ : L2.St}
theorem newW_ne {a b : Addr} (hb : b ≠ a) (h : newW W a b ≠ none) : W b ≠ none := fun z => h (by
  unfold newW
  rw [if_neg hb, z]
  rfl)
/-- what is there, of nobody, is taken -/
theorem Rel.take {a : Addr} (r : Rel M e W F H env σ) (hF : F a = none) (nW : W a = none) (h0 : e.H0 a = none) (hH : H a ≠ none) (no : ¬ FlatT H a) : Rel M e (newW W a) F H env σ := by
  refine ⟨⟨r.pres, r.exF0, r.exF, fun b h => ?_, fun b c q h => ?_, r.new, r.stay, r.tups, r.tupr, fun b h => (by
    by_cases z : b = a
    · rw [z]; exact no
    · exact r.nof b (newW_ne z h))⟩, r.len, fun k d' h1 h2 => ?_, r.pin⟩
  · by_cases z : b = a
    · subst z
      exact ⟨hF, .inr h0, hH⟩
    · exact r.sep b (newW_ne z h)
  · unfold newW at h
    split at h
    · rename_i z
      subst z
      exact .inl h0
    · split at h
      · cases h
      · exact r.fresh b c q h
  · obtain ⟨v', h5, h6⟩ := r.slot k d' h1 h2
    refine ⟨v', h5, h6.tr (Ex.refl F) fun b q' z => ?_⟩
    have : b ≠ a := fun w => by
      subst w
      rw [nW] at z
      cases z
    refine ⟨?_, fun u y => y⟩
    unfold newW
    rw [if_neg this, if_neg]
    · exact z
    · intro w
      obtain ⟨q2, h7⟩ := rootIs_iff.mp w
      rw [z] at h7
      injection h7 with h7
      injection h7 with h8 _
      omega
end
def listO (dl : List D → R (List D)) : List D → R D := fun env => bindR (dl env) fun ds env1 => match ds with
  | [.lst l] => .ok (.ml l) env1
  | [.tup l] => .ok (.ml l) env1
  | _ => .bad
@[simp] theorem listO_ap (dl : List D → R (List D)) (env : List D) : listO dl env = bindR (dl env) fun ds env1 => match ds with
  | [.lst l] => .ok (.ml l) env1
  | [.tup l] => .ok (.ml l) env1
  | _ => .bad := rfl
section
variable {X : Cx} {j : J} {a : Expr} {es : List Expr} {pos : Pos}
theorem o_list {x : Str} {p : Pos} {dl : List D → R (List D)} (hg : Gl X x) (hm : X.mg x = none) (hv : bootBuiltins x = some (.type "list")) (ha : DL X j (a :: es) dl) (hn : x ≠ "__name__" := by decide) (hdb : (x == ("__debug__" : Str)) = false := by decide)
    (he : starEach (a :: es) X.env = (false, eval a X.env) :: starEach es X.env := by rfl) (hpl : (backTo pos (starEach es X.env)).any (·.1) = false := by rfl) :
    DO X j (.Call (.Name x p) (a :: es) [] pos) (listO dl) :=
  PE.mono (pe_callTy call_list_of hg hm hv ha hn hdb he hpl) fun σ H Q ⟨W, F, env, rel, q⟩ => ⟨W, F, env, rel, AtO.bind q fun d env1 W1 F1 H1 v _ r1 x1 p1 q1 => by
    have key : ∀ {l : List D} {p : Addr} {ys : List V}, RpL (mo X) F1 l ys → (SqL X.K H1 p ys ∨ SqT X.K H1 p ys) → AtO (mo X) j F1 σ (.ok (.ml l) env1) Q → ∃ p0 ys0, [V.ref p] = [V.ref p0] ∧ (SqL X.K H1 p0 ys0 ∨ SqT X.K H1 p0 ys0) ∧ ∀ S, H1 S = none → Q (.ref S) (upd H1 S (.lst ys0)) := fun {l p ys} hl hs q => by
      refine ⟨_, _, rfl, hs, fun S n => ?_⟩
      obtain ⟨h1, h2⟩ := r1.newO n hl
      exact q _ F1 _ _ h1 (Ex.refl F1) h2
    split at q1
    · obtain ⟨w, rfl, h⟩ := p1.one_inv
      obtain ⟨p, ys, rfl, h1, h2⟩ := h.lst_inv
      exact key h2 (.inl (ex_l r1.exF h1)) q1
    · obtain ⟨w, rfl, h⟩ := p1.one_inv
      obtain ⟨p, ys, rfl, h1, h2⟩ := h.tup_inv
      exact key h2 (.inr (ex_t r1.exF h1)) q1
    · exact q1.elim⟩
end
/-- an index that does nothing else -/
structure QI (X : Cx) (b : Expr) (t : TE) (q : List D → Option Int) : Prop where
  pe : PE X b t
  run : ∀ {e : Ent} {W : Own} {F H : Hp} {env : List D} {σ : L2.St} {m : Int} {Q : VK}, Rel (mo X) e W F H env σ → q env = some m → Q (.int m) H → t σ H Q
def qVar (k : Nat) (env : List D) : Option Int := match env.getD k .unb with
  | .int m => some m
  | _ => none
theorem qi_var {X : Cx} {x : Str} {p : Pos} (k : Nat) (h : PE X (.Name x p) (tVar k)) : QI X (.Name x p) (tVar k) (qVar k) := ⟨h, fun {e W F H env σ m Q} r e q => by
  unfold qVar at e
  split at e
  · rename_i m' hm
    cases e
    have hg : env[k]? = some (.int m) := by
      rw [List.getD_eq_getElem?_getD] at hm
      cases z : env[k]? with
      | none => rw [z] at hm; cases hm
      | some d => rw [z] at hm; exact congrArg some hm
    obtain ⟨v, h1, h2⟩ := r.slot k _ hg (fun z => nomatch z)
    cases h2 with
    | fz p => cases p with
      | int _ => exact ⟨_, h1, q⟩
  · cases e⟩
/-- row k of a list of lists -/
def rowI (l : List D) (k : Int) : Option (Nat × List D) := match ixN l.length k with
  | some n => (match l[n]? with
    | some (.ml r) => some (n, r)
    | _ => none)
  | none => none
theorem rowI_some {l : List D} {k : Int} {n : Nat} {r : List D} (h : rowI l k = some (n, r)) : ixN l.length k = some n ∧ l[n]? = some (.ml r) := by
  unfold rowI at h
  split at h
  · split at h
    · cases h
      exact ⟨by assumption, by assumption⟩
    · cases h
  · cases h
def setO2 (i : Nat) (dv da : List D → R D) (q : List D → Option Int) : List D → O := fun env => bindS (dv env) fun d env1 => if (listAt env1 i).isSome = true then bindS (da env1) fun k env2 => match k with
  | .int k => match listAt env2 i with
    | some l => match rowI l k with
      | some (n, r) => match q env2 with
        | some m => match ixN r.length m with
          | some c => .nx (env2.set i (.ml (l.set n (.ml (r.set c d)))))
          | none => .bad
        | none => .bad
      | none => .bad
    | none => .bad
  | _ => .bad
else .bad
/-- one of the lists is another one -/
theorem OwL.row {M : Mo} {W : Own} {F H : Hp} {p : Addr} {o : HO} {d : D} : ∀ {t : List Nat} {k n : Nat} {l : List D} {xs : List V}, OwL M W F H t k l xs → W p = some (t ++ [k + n]) → xs[n]? = some (.ref p) → Ow M W F (L2.upd H p o) (t ++ [k + n]) d (.ref p) → OwL M W F (L2.upd H p o) t k (l.set n d) xs
  | _, _, _, _, _, .nil, _, hx, _ => by simp at hx
  | t, k, 0, _, _, .cons h q, hp, hx, hd => by
    simp at hx
    subst hx
    refine .cons hd ?_
    have : ∀ {l : List D} {xs : List V} {k' : Nat}, k < k' → OwL M W F H t k' l xs → OwL M W F (L2.upd H p o) t k' l xs := by
      intro l
      induction l with
      | nil => intro xs k' _ h; cases h; exact .nil
      | cons d l ih =>
        intro xs k' hk h
        cases h with
        | cons h1 h2 =>
          refine .cons (h1.tr (Ex.refl F) fun b q z => ⟨z, fun u y => ?_⟩) (ih (Nat.lt_succ_of_lt hk) h2)
          have : b ≠ p := fun w => by
            subst w
            rw [hp] at z
            injection z with z
            rw [List.append_assoc] at z
            have := List.append_cancel_left z
            simp at this
            omega
          rw [upd_ne this]
          exact y
    exact this (Nat.lt_succ_self k) q
  | t, k, n + 1, _, _, .cons (d := d0) h q, hp, hx, hd => by
    have e1 : k + (n + 1) = k + 1 + n := by omega
    rw [e1] at hp hd
    refine .cons (h.tr (Ex.refl F) fun b q z => ⟨z, fun u y => ?_⟩) (OwL.row q hp (by simpa using hx) hd)
    have : b ≠ p := fun w => by
      subst w
      rw [hp] at z
      injection z with z
      rw [List.append_assoc] at z
      have := List.append_cancel_left z
      simp at this
      omega
    rw [upd_ne this]
    exact y
section
variable {X : Cx} {j : J} {a b e : Expr} {pos px p2 : Pos} {da dv : List D → R D} {t : TE} {qf : List D → Option Int}
theorem s_setix2 (i : Nat) {x : Str} {tpos : Pos} (he : DE X j e dv) (h : PE X (.Name x px) (tVar i)) (ha : DE X j a da) (hsx : PlainIx a) (hq : QI X b t qf)
    (hg : ∀ v, assign (.Subscript (.Subscript (.Name x px) a p2) b tpos) X.env v = (do
      let ov ← holding [v] (eval (.Subscript (.Name x px) a p2) X.env)
      let iv ← holding [v, ov] (eval b X.env)
      standAt tpos
      holding [v, ov, iv] (setItem ov iv v)
      release [v, ov, iv] []) := by intro _; rfl) (hs : swapsWithSole [.Subscript (.Subscript (.Name x px) a p2) b tpos] e pos.line X.env = pure false := by rfl) (hw : swappedStores [.Subscript (.Subscript (.Name x px) a p2) b tpos] e X.env = pure none := by rfl)
    (h1 : (assignEach [.Subscript (.Subscript (.Name x px) a p2) b tpos] X.env).map (·.2) = [assign (.Subscript (.Subscript (.Name x px) a p2) b tpos) X.env] := by rfl) : DS X j (.Assign [.Subscript (.Subscript (.Name x px) a p2) b tpos] e pos) (setO2 i dv da qf) :=
  PS.mono (ps_asg he (pg_sub (pe_ix ix_list h ha hsx) hq.pe set_list hg) hs hw h1) fun Dn σ H ⟨W, F, env, rel, q⟩ => ⟨W, F, env, rel, AtS.bind q fun d env1 W1 F1 H1 v _ r1 x1 p1 q1 => by
    by_cases o : (listAt env1 i).isSome = true
    · rw [if_pos o] at q1
      obtain ⟨l0, e0⟩ := Option.isSome_iff_exists.mp o
      obtain ⟨a0, xs0, s0, _⟩ := r1.list e0
      refine ⟨_, s0, W1, F1, env1, r1, AtS.bind q1 fun k env2 W2 F2 H2 v2 _ r2 x2 p2 q2 => ?_⟩
      cases p2 with
      | int k =>
        simp only at q2
        cases o2 : listAt env2 i with
        | none => rw [o2] at q2; exact q2.elim
        | some l =>
          rw [o2] at q2
          simp only at q2
          obtain ⟨ad, xs, s1, w1, h3, ol⟩ := r2.list o2
          rw [s0] at s1
          cases s1
          cases o3 : rowI l k with
          | none => rw [o3] at q2; exact q2.elim
          | some nr =>
            obtain ⟨n, r⟩ := nr
            rw [o3] at q2
            simp only at q2
            cases o4 : qf env2 with
            | none => rw [o4] at q2; exact q2.elim
            | some m =>
              rw [o4] at q2
              simp only at q2
              cases o5 : ixN r.length m with
              | none => rw [o5] at q2; exact q2.elim
              | some c =>
                rw [o5] at q2
                simp only at q2
                obtain ⟨i1, i2⟩ := rowI_some o3
                obtain ⟨u, u1, u2⟩ := ol.get i2
                have hk : atI xs k = some u := by
                  unfold atI
                  rw [← ol.length, i1]
                  exact u1
                refine ⟨_, xs, k, u, rfl, rfl, SqL.of h3, hk, hq.run r2 o4 ?_⟩
                cases u2 with
                | fz p => cases p
                | @ml _ p ys _ w2 h2 ol2 =>
                  refine ⟨_, ys, m, c, rfl, rfl, h2, by rw [← ol2.length]; exact o5, q2 W2 F2 _ σ (r2.write w2 s0 ?_) (Ex.refl F2)⟩
                  have hpa : a0 ≠ p := fun z => by
                    subst z
                    rw [w1] at w2
                    simp at w2
                  refine .ml w1 (by rw [upd_ne hpa]; exact h3) (OwL.row ol w2 u1 (.ml w2 upd_same ((ol2.upd w2 (Nat.le_refl _)).set (p1.mono x2) c)))
      | _ => exact q2.elim
    · rw [if_neg o] at q1
      exact q1.elim⟩
end
end DL
namespace DL
open PySem PySem.Spec PyProof.Rows L2 SX
theorem lcoGo_A {α : Type} {g : D → List D → Option (List D)} {de : List D → R D} {vs : List Nat} {E0 : List D} (u : α → D) (E : α → List D) (f : α → List D) : ∀ (xs : List α) (acc : List (List D)), (∀ x ∈ xs, g (u x) E0 = some (E x) ∧ de (E x) = .ok (.ml (f x)) (E x) ∧ flatL (f x) = true ∧ wipeD (E x) vs = E0) →
    lcoGo g yesD de vs (xs.map u) acc E0 = .ok (acc ++ xs.map f) E0
  | [], acc, _ => by
    unfold lcoGo
    simp
  | x :: xs, acc, h => by
    obtain ⟨h1, h2, h3, h4⟩ := h x List.mem_cons_self
    have ht : ∀ y ∈ xs, _ := fun y hy => h y (List.mem_cons_of_mem _ hy)
    rw [List.map_cons]
    unfold lcoGo
    rw [h1]
    simp only [yesD_ap, bindB_ok, if_pos, h2, h3]
    rw [h4, lcoGo_A u E f xs _ ht]
    simp
theorem lcoD_mapA {α : Type} {xs : List α} {di : List D → R (List D)} {g : D → List D → Option (List D)} {de : List D → R D} {vs : List Nat} {env env1 : List D} (u : α → D) (E : α → List D) (f : α → List D) (hd : di env = .ok (xs.map u) env1) (hn : xs.length ≤ 1000000)
    (h : ∀ x ∈ xs, g (u x) (wipeD env1 vs) = some (E x) ∧ de (E x) = .ok (.ml (f x)) (E x) ∧ flatL (f x) = true ∧ wipeD (E x) vs = wipeD env1 vs) (hb : backD env1 (wipeD env1 vs) vs = env1) : lcoD di g yesD de vs env = .ok (.ml (xs.map fun x => .ml (f x))) env1 := by
  unfold lcoD
  rw [hd, bindR_ok, if_pos (by rw [List.length_map]; exact hn), lcoGo_A u E f xs [] h, bindB_ok, hb, List.nil_append, List.map_map]
  rfl
theorem flatL_map {α : Type} {f : α → D} (h : ∀ x, isOwn (f x) = false) (xs : List α) : flatL (xs.map f) = true := by
  unfold flatL
  rw [List.all_map]
  exact List.all_eq_true.mpr fun x _ => by simp [h x]
theorem rowI_nat {α : Type} {f : α → List D} {xs : List α} {n : Nat} (h : n < xs.length) (z : α) : rowI (xs.map fun x => .ml (f x)) n = some (n, f (xs.getD n z)) := by
  have e : ixN (xs.map fun x => D.ml (f x)).length (n : Int) = some n := by
    rw [List.length_map]
    exact DL.ixN_nat h
  unfold rowI
  rw [e]
  simp only
  rw [List.getElem?_map, List.getElem?_eq_getElem h, List.getD_eq_getElem?_getD, List.getElem?_eq_getElem h]
  rfl
end DL
namespace DL
open PySem PySem.Spec PyProof.Rows L2
/-- a zip, whatever is told of its tuple -/
abbrev ZG (h : Heap) (z TI TO : Addr) (u : Value) (f : Bool) : Prop := h.get? z = some { cls := .type "zip", dict := none, data := .fields #[u, .bool f, .bool false, .ref TI, .ref TO], slots := #[] }
section
variable {prog : Program} {w : World} {A : Around} {E : Value → Shared → Prop} {s : Shared} {z TI TO i1 i2 l1 l2 : Addr} {u : Value} {f : Bool}
/-- the zip behind i turns -/
def ZL (h : Heap) (z TI TO i1 i2 l1 l2 : Addr) (i : Nat) : Prop := ∃ (u : Value) (f : Bool) (a b : Value), ZG h z TI TO u f ∧ (u = .none ∨ ∃ T : Addr, u = rawInt T) ∧ IsPair h TI (.ref i1) (.ref i2) ∧ IsPair h TO a b ∧ h.IsListIter i1 l1 i ∧ h.IsListIter i2 l2 i
theorem ZL.at {h h' : Heap} {i : Nat} (l : ZL h z TI TO i1 i2 l1 l2 i) (k : ∀ c ∈ [z, TI, TO, i1, i2], ∀ o, h.get? c = some o → h'.get? c = some o) : ZL h' z TI TO i1 i2 l1 l2 i := by
  obtain ⟨u, f, a, b, h1, h2, h3, h4, h5, h6⟩ := l
  exact ⟨u, f, a, b, k z (by simp) _ h1, h2, k TI (by simp) _ h3, k TO (by simp) _ h4, h5.at (k i1 (by simp)), h6.at (k i2 (by simp))⟩
end
end DL
namespace DL
open PySem PySem.Spec PyProof.Rows L2
section
variable {prog : Program} {w : World} {A : Around} {E : Value → Shared → Prop} {s : Shared} {e z TI TO i1 i2 l1 l2 : Addr}
end
section
variable {X : Cx} {pins : List (Addr × Obj)} {σ : L2.St} {H : Hp} {s : Shared}
end
section
variable {X : Cx}
end
end DL
namespace DL
open PySem PySem.Spec PyProof.Rows L2
section
variable {M : Mo} {e : Ent} {W : Own} {F H : Hp} {env : List D} {σ : L2.St}
def hideE (e : Ent) (W : Own) (H : Hp) (k : Nat) : Ent := ⟨fun a => if rootIs (W a) k = true then H a else e.H0 a, e.F0, fun a => if rootIs (W a) k = true then none else e.W0 a, e.P⟩
def unhW (W W1 : Own) (k : Nat) : Own := fun a => if rootIs (W a) k = true then W a else W1 a
/-- what holds of the hidden behind it -/
theorem hid {k : Nat} {W1 : Own} {F1 H1 : Hp} (r : RelB e W F H) (r1 : RelB (hideE e W H k) W1 F1 H1) {a : Addr} (z : rootIs (W a) k = true) : W1 a = none ∧ H1 a = H a ∧ F1 a = none := by
  obtain ⟨q, hq⟩ := rootIs_iff.mp z
  have hs := r.sep a (by rw [hq]; simp)
  have e0 : (hideE e W H k).H0 a = H a := if_pos z
  have w0 : (hideE e W H k).W0 a = none := if_pos z
  have hw : W1 a = none := by
    cases q1 : W1 a with
    | none => rfl
    | some p =>
      rcases (r1.sep a (by rw [q1]; simp)).2.1 with y | y
      · exact absurd w0 y
      · rw [e0] at y
        exact absurd y hs.2.2
  refine ⟨hw, ?_, ?_⟩
  · cases q1 : H a with
    | none => exact absurd q1 hs.2.2
    | some o => exact r1.pres a o w0 (e0.trans q1)
  · cases q1 : F1 a with
    | none => rfl
    | some o =>
      rcases r1.new a (by rw [q1]; simp) with y | y | ⟨o2, y, hf⟩
      · have y : e.F0 a ≠ none := y
        cases q2 : e.F0 a with
        | none => exact absurd q2 y
        | some u =>
          have := r.exF0 a u q2
          rw [hs.1] at this
          cases this
      · rw [e0] at y
        exact absurd y hs.2.2
      · rw [e0] at y
        exact absurd ⟨o2, y, hf⟩ (r.nof a (by rw [hq]; simp))
/-- behind it: the others -/
theorem Ow.other {k c : Nat} {W1 : Own} {F1 H1 : Hp} {q : List Nat} {d : D} {v : V} (r : RelB e W F H) (r1 : RelB (hideE e W H k) W1 F1 H1) (h : Ow M W1 F1 H1 (c :: q) d v) : Ow M (unhW W W1 k) F1 H1 (c :: q) d v :=
  h.tr (Ex.refl F1) fun a p z => ⟨(by
    unfold unhW
    rw [if_neg]
    · exact z
    · intro y
      rw [(hid r r1 y).1] at z
      exact (by cases z)), fun _ w => w⟩
end
theorem Wf.ent {X : Cx} {j : J} {io : List Nat} (W : Wf X j io) {e' : Ent} (h : e'.P = j.e.P) : Wf X ⟨e', j.wx⟩ io := ⟨W.nd, W.calm, W.take, W.pass, fun i hi => by show e'.P i = none; rw [h]; exact W.pin i hi⟩
section
variable {X : Cx} {j : J} {a b e : Expr} {pos px p2 : Pos} {da dv : List D → R D} {t : TE} {qf : List D → Option Int}
end
end DL
namespace DL
open PySem PySem.Spec PyProof.Rows L2 HT
section
variable {X : L2.Cx} {j : J} {b e : Expr} {pos px p2 : Pos} {dk dv : List D → R D}
end
section
variable {M : Mo} {e : Ent} {W : Own} {F H : Hp} {env : List D} {σ : L2.St}
end
section
variable {X : L2.Cx} {j : J}
variable {d : He.DefD} {fd : FuncData} {ps : List Str} {io : List Nat} {G : List D → FR} {k m n i : Nat} {c meth x : Str} {apos pos px : Pos} {e : Expr} {es : List Expr} {da : List D → R (List Ar)}
end
end DL
namespace DL
open PySem PySem.Spec PyProof.Rows L2 HT
section
variable {M : Mo} {W W' : Own} {F H H' : Hp} {p : List Nat} {K : Nat} {d : D} {v : V}
theorem OwL.but : ∀ {l : List D} {xs : List V} {n : Nat}, (∀ b j q, j ≠ K → W b = some (p ++ [j] ++ q) → W' b = W b ∧ H' b = H b) → OwL M W F H p n l xs → (∀ m, l.length = m → K < n ∨ n + m ≤ K) → OwL M W' F H' p n l xs
  | _, _, _, _, .nil, _ => .nil
  | _, _, n, k, .cons (l := l) h q, hK => by
    refine .cons (h.tr (Ex.refl F) fun b t z => ?_) (OwL.but k q fun m hm => ?_)
    · obtain ⟨e1, e2⟩ := k b n t (by have := hK _ rfl; simp at this; omega) z
      exact ⟨e1.trans z, fun o y => e2.trans y⟩
    · have := hK (m + 1) (by simp [hm])
      omega
theorem OwL.setO (hd : Ow M W' F H' (p ++ [K]) d v) : ∀ {l : List D} {xs : List V} {n i : Nat}, n + i = K → i < l.length → (∀ b j q, j ≠ K → W b = some (p ++ [j] ++ q) → W' b = W b ∧ H' b = H b) → OwL M W F H p n l xs → OwL M W' F H' p n (l.set i d) (xs.set i v)
  | _, _, n, 0, e, hi, k, .nil => by simp at hi
  | _, _, n, i + 1, e, hi, k, .nil => by simp at hi
  | _, _, n, 0, e, hi, k, .cons h q => by
    have e : n = K := by omega
    subst e
    exact .cons hd (OwL.but (K := n) k q fun m _ => .inl (by omega))
  | _, _, n, i + 1, e, hi, k, .cons h q => by
    refine .cons (h.tr (Ex.refl F) fun b t z => ?_) (OwL.setO hd (by omega) (by simpa using hi) k q)
    obtain ⟨e1, e2⟩ := k b n t (by omega) z
    exact ⟨e1.trans z, fun o y => e2.trans y⟩
end
section
variable {X : L2.Cx} {j : J} {e : Expr} {pos px : Pos} {da : List D → R D}
end
end DL
namespace DL
open PySem PySem.Spec PyProof.Rows L2
section
variable {M : Mo} {e : Ent} {W : Own} {F H : Hp} {env : List D} {σ : L2.St}
end
section
variable {X : Cx} {j : J} {a b : Expr} {pos : Pos} {da db : List D → R D}
end
end DL
namespace DL
open PySem PySem.Spec PyProof.Rows L2
section
variable {M : Mo} {e : Ent} {W : Own} {F H : Hp} {env : List D} {σ : L2.St}
/-- without what is at the root 0 -/
def lessH (W : Own) (H : Hp) : Hp := fun a => if rootIs (W a) 0 = true then none else H a
theorem Rel.less (r : Rel M e W F H env σ) : Rel M e (frzW W 0) F (lessH W H) env σ := by
  have t0 : ∀ {a : Addr}, rootIs (W a) 0 = true → e.H0 a = none := fun {a} z => by
    obtain ⟨q, hq⟩ := rootIs_iff.mp z
    rcases r.fresh a 0 q hq with y | ⟨i, v, q0, hi, _⟩
    · exact y
    · omega
  have keep : ∀ {a : Addr}, rootIs (W a) 0 ≠ true → lessH W H a = H a := fun z => if_neg z
  refine ⟨⟨fun b o h1 h2 => ?_, r.exF0, fun b o h => ?_, fun a h => ?_, fun a c q h => ?_, r.new, fun b h => ?_, fun b o hf h => (keep (fun z => by rw [t0 z] at h; cases h)).trans (r.tups b o hf h), fun b o hf h z => r.tupr b o hf (by
    unfold lessH at h
    split at h
    · cases h
    · exact h) z, fun a h => (by
    obtain ⟨p, hp⟩ := Option.ne_none_iff_exists'.mp h
    obtain ⟨h1, h2⟩ := frzW_eq hp
    rintro ⟨o, x, hf⟩
    rw [keep (by rw [h2]; simp)] at x
    exact r.nof a (by rw [h1]; simp) ⟨o, x, hf⟩)⟩, r.len, fun i d h1 h2 => ?_, r.pin⟩
  · rw [keep]
    · exact r.pres b o h1 h2
    · intro z
      rw [t0 z] at h2
      cases h2
  · rw [keep]
    · exact r.exF b o h
    · intro z
      obtain ⟨q, hq⟩ := rootIs_iff.mp z
      rw [(r.sep b (by rw [hq]; simp)).1] at h
      cases h
  · obtain ⟨p, hp⟩ := Option.ne_none_iff_exists'.mp h
    obtain ⟨h1, h2⟩ := frzW_eq hp
    have z := r.sep a (by rw [h1]; simp)
    exact ⟨z.1, z.2.1, by rw [keep (by rw [h2]; simp)]; exact z.2.2⟩
  · obtain ⟨h1, h2⟩ := frzW_eq h
    exact r.fresh a c q h1
  · rw [keep]
    · exact r.stay b h
    · intro z
      exact h (t0 z)
  · obtain ⟨v, h5, h6⟩ := r.slot i d h1 h2
    refine ⟨v, h5, h6.tr (Ex.refl F) fun a q z => ?_⟩
    have n0 : rootIs (W a) 0 ≠ true := fun y => by
      obtain ⟨t, ht⟩ := rootIs_iff.mp y
      rw [z] at ht
      injection ht with ht
      injection ht with ht _
      omega
    refine ⟨?_, fun o y => by rw [keep n0]; exact y⟩
    unfold frzW
    rw [if_neg n0]
    exact z
/-- what was at the root 0 comes in as the parameter k -/
def moreW (W W1 : Own) (k : Nat) : Own := fun a => if rootIs (W a) 0 = true then (W a).map fun l => (k + 1) :: l.tail else W1 a
theorem RelB.more {W0 : Own} {P : Nat → Option V} {k : Nat} (r : RelB e W F H) (b : RelB ⟨lessH W H, F, W0, P⟩ W0 F (lessH W H)) : RelB ⟨lessH W H, F, W0, P⟩ (moreW W W0 k) F H where
  pres := fun b o h1 h2 => by
    have h2 : lessH W H b = some o := h2
    unfold lessH at h2
    split at h2
    · cases h2
    · exact h2
  exF0 := Ex.refl F
  exF := r.exF
  sep := fun a h => by
    by_cases z : rootIs (W a) 0 = true
    · obtain ⟨q, hq⟩ := rootIs_iff.mp z
      have s := r.sep a (by rw [hq]; simp)
      exact ⟨s.1, .inr (if_pos z), s.2.2⟩
    · unfold moreW at h
      rw [if_neg z] at h
      have s := b.sep a h
      refine ⟨s.1, .inl h, ?_⟩
      have := s.2.2
      unfold lessH at this
      rw [if_neg z] at this
      exact this
  fresh := fun a c q h => by
    by_cases z : rootIs (W a) 0 = true
    · exact .inl (if_pos z)
    · unfold moreW at h
      rw [if_neg z] at h
      exact b.fresh a c q h
  new := fun _ h => .inl h
  stay := fun b h => by
    have h : lessH W H b ≠ none := h
    unfold lessH at h
    split at h
    · exact absurd rfl h
    · exact h
  tups := fun b o hf h => by
    have h : lessH W H b = some o := h
    unfold lessH at h
    split at h
    · cases h
    · exact h
  tupr := fun b o hf h z => by
    have z : lessH W H b ≠ none := z
    show lessH W H b = some o
    unfold lessH at z ⊢
    split at z
    · exact absurd rfl z
    · rename_i y
      rw [if_neg y]
      exact h
  nof := fun a h => by
    by_cases z : rootIs (W a) 0 = true
    · obtain ⟨q, hq⟩ := rootIs_iff.mp z
      exact r.nof a (by rw [hq]; simp)
    · unfold moreW at h
      rw [if_neg z] at h
      have e : lessH W H a = H a := if_neg z
      rintro ⟨o, x, hf⟩
      exact b.nof a h ⟨o, e.trans x, hf⟩
end
section
variable {X : Cx} {j : J} {e : Expr} {pos p xp : Pos} {x y : Str} {k n : Nat} {f : Addr} {fd : FuncData} {ps : List Str} {g : List D → FR} {db : List D → R D}
end
end DL
namespace DL
open PySem PySem.Spec PyProof.Rows L2 HT
section
variable {X : L2.Cx} {j : J} {e : Expr} {pos px : Pos} {da : List D → R D}
end
end DL
namespace DL
open PySem PySem.Spec PyProof.Rows L2 HT
section
variable {X : L2.Cx} {j : J} {e b : Expr} {pos px : Pos} {da db : List D → R D}
end
theorem RelB.pins {e : Ent} {W : Own} {F H : Hp} {P : Nat → Option V} (h : RelB e W F H) (hP : ∀ i v, e.P i = some v → P i = some v) : RelB ⟨e.H0, e.F0, e.W0, P⟩ W F H := ⟨h.pres, h.exF0, h.exF, h.sep, fun a r q z => (h.fresh a r q z).imp id fun ⟨i, v, q0, h1, h2, h3⟩ => ⟨i, v, q0, h1, hP i v h2, h3⟩, h.new, h.stay, h.tups, h.tupr, h.nof⟩
end DL
namespace DL
open PySem PySem.Spec PyProof.Rows L2 HT
def Still (e : Ent) (a : Addr) (o : HO) : Prop := e.H0 a = some o ∧ e.W0 a = none
theorem Still.now {e : Ent} {W : Own} {F H : Hp} {a : Addr} {o : HO} (s : Still e a o) (r : RelB e W F H) : H a = some o ∧ W a = none := by
  refine ⟨r.pres a o s.2 s.1, ?_⟩
  cases q : W a with
  | none => rfl
  | some p =>
    rcases (r.sep a (by rw [q]; simp)).2.1 with y | y
    · exact absurd s.2 y
    · rw [s.1] at y
      cases y
section
variable {M : Mo} {e : Ent} {W : Own} {F H : Hp} {env : List D} {σ : L2.St}
end
section
variable {X : Cx} {j : J} {b : Expr} {pos p xp tp : Pos} {x y z : Str} {k : Nat} {f : Addr} {fd : FuncData} {ps : List Str} {dp : Nat → List D → R D} {d0 : List D → R D}
end
end DL
namespace DL
open PySem PySem.Spec PyProof.Rows L2 HT
section
variable {X : Cx} {j : J} {b e : Expr} {pos p xp tp lp rp : Pos} {x y z ln : Str} {k : Nat} {f : Addr} {fd : FuncData} {ps : List Str} {g : List D → FR} {d2 : List D → R D}
end
end DL
namespace DL
open PySem PySem.Spec PyProof.Rows L2 HT
theorem set_same {α : Type} {xs : List α} {i : Nat} {v : α} (h : xs[i]? = some v) : xs.set i v = xs := by
  obtain ⟨h1, h2⟩ := List.getElem?_eq_some_iff.mp h
  rw [← h2]
  exact List.set_getElem_self h1
/-- row = pick(well, tables[..]); row[draw(well, len(row))] += e : slots 0 well, 1 tables, 2 row -/
def Spoil (g : List D → FR) (d0 : List D → R D) (dp : Nat → List D → R D) (d2 : List D → R D) (env env' : List D) : Prop := ∃ (tl L ys env1 env2 env4 : List D) (r r2 c cur v : Int) (rn n m : Nat) (dw' dw3 : D),
  2 < env.length ∧ env.getD 1 .unb = .mt tl ∧ ownd (env.getD 0 .unb) = true ∧ d0 (env.set 1 .unb) = .ok (.int r) env1 ∧ ixN tl.length r = some rn ∧ tl[rn]? = some (.ml L) ∧ ownd (env1.getD 0 .unb) = true ∧
  dp L.length [env1.getD 0 .unb, .unb] = .ok (.int r2) [dw', .unb] ∧ ixN L.length r2 = some n ∧ L[n]? = some (.ml ys) ∧ env2 = (env1.set 0 dw').set 2 .unb ∧ ownd (env2.getD 0 .unb) = true ∧
  g [env2.getD 0 .unb, .int ys.length] = .ret (.int c) [dw3] ∧ ixN ys.length c = some m ∧ ys[m]? = some (.int cur) ∧ d2 (env2.set 0 dw3) = .ok (.int v) env4 ∧
  env' = env4.set 1 (.mt (tl.set rn (.ml (L.set n (.ml (ys.set m (.int (cur + v))))))))
open Classical in
theorem Spoil.one {g : List D → FR} {d0 : List D → R D} {dp : Nat → List D → R D} {d2 : List D → R D} {env a b : List D} (h : Spoil g d0 dp d2 env a) (k : Spoil g d0 dp d2 env b) : a = b := by
  obtain ⟨tl, L, ys, env1, env2, env4, r, r2, c, cur, v, rn, n, m, dw', dw3, h0, h1, h2, h3, h4, h5, h6, h7, h8, h9, h10, h11, h12, h13, h14, h15, h16⟩ := h
  obtain ⟨tl', L', ys', env1', env2', env4', r', r2', c', cur', v', rn', n', m', dw'', dw3', k0, k1, k2, k3, k4, k5, k6, k7, k8, k9, k10, k11, k12, k13, k14, k15, k16⟩ := k
  rw [h1] at k1; cases k1
  rw [h3] at k3; cases k3
  rw [h4] at k4; cases k4
  rw [h5] at k5; cases k5
  rw [h7] at k7; cases k7
  rw [h8] at k8; cases k8
  rw [h9] at k9; cases k9
  subst h10
  subst k10
  rw [h12] at k12; cases k12
  rw [h13] at k13; cases k13
  rw [h14] at k14; cases k14
  rw [h15] at k15; cases k15
  rw [h16, k16]
section
variable {X : Cx} {j : J} {e1 : Expr} {st2 : Stmt} {pos pos' : Pos} {x : Str} {g : List D → FR} {d0 d2 : List D → R D} {dp : Nat → List D → R D}
end
end DL
namespace DL
open PySem PySem.Spec PyProof.Rows L2 HT
section
variable {X : L2.Cx} {j : J} {b e : Expr} {pos px : Pos} {dk da : List D → R D}
end
end DL
namespace DL
open PySem PySem.Spec PyProof.Rows L2 HT
section
variable {X : L2.Cx} {j : J} {b e : Expr} {pos px : Pos} {dk da : List D → R D}
end
end DL
namespace DL
open PySem PySem.Spec PyProof.Rows L2
@[simp] theorem frz_mt (l : List D) : frz (.mt l) = .tup (frzL l) := by rw [frz]
@[simp] theorem isOwn_mt (l : List D) : isOwn (.mt l) = true := rfl
@[simp] theorem ownd_mt (l : List D) : ownd (.mt l) = true := rfl
section
variable {X : L2.Cx} {j : J} {b : Expr} {pos px : Pos} {dk : List D → R D}
theorem pe_or {e : Expr} {t u : TE} (h : PE X e t) (k : PE X e u) : PE X e (fun σ H Q => t σ H Q ∨ u σ H Q) := ⟨fun pins s σ H Q I q => q.elim (h.run pins s σ H Q I) (k.run pins s σ H Q I)⟩
end
end DL
namespace DL
open PySem PySem.Spec PyProof.Rows L2 HT
abbrev Qf := List D → Option Int
def ownL : D → Option (List D)
  | .ml l => some l
  | .mt l => some l
  | _ => none
/-- the place and the thing there, by indices, the last one first -/
def nodeQ (env : List D) (d : D) : List Qf → Option (List Nat × D)
  | [] => some ([], d)
  | q :: r => match nodeQ env d r with
    | some (p, d') => match ownL d', q env with
      | some l, some k => match ixN l.length k with
        | some n => match l[n]? with
          | some e => some (p ++ [n], e)
          | none => none
        | none => none
      | _, _ => none
    | none => none
def setAt : D → List Nat → D → D
  | _, [], e => e
  | .ml l, n :: p, e => match l[n]? with
    | some d => .ml (l.set n (setAt d p e))
    | none => .ml l
  | .mt l, n :: p, e => match l[n]? with
    | some d => .mt (l.set n (setAt d p e))
    | none => .mt l
  | d, _ :: _, _ => d
inductive Ch (M : Mo) (W : Own) (F H : Hp) : List Nat → D → V → List Nat → D → V → Prop
  | here {q : List Nat} {d : D} {v : V} : Ow M W F H q d v → Ch M W F H q d v [] d v
  | ml {q : List Nat} {a : Addr} {xs : List V} {l : List D} {n : Nat} {d : D} {v : V} {p : List Nat} {d' : D} {v' : V} : W a = some q → H a = some (.lst xs) → OwL M W F H q 0 l xs → l[n]? = some d → xs[n]? = some v → Ch M W F H (q ++ [n]) d v p d' v' → Ch M W F H q (.ml l) (.ref a) (n :: p) d' v'
  | mt {q : List Nat} {a : Addr} {xs : List V} {l : List D} {n : Nat} {d : D} {v : V} {p : List Nat} {d' : D} {v' : V} : W a = some q → H a = some (.tup xs) → OwL M W F H q 0 l xs → l[n]? = some d → xs[n]? = some v → Ch M W F H (q ++ [n]) d v p d' v' → Ch M W F H q (.mt l) (.ref a) (n :: p) d' v'
section
variable {M : Mo} {W : Own} {F H : Hp}
theorem Ch.end_ : ∀ {q : List Nat} {d : D} {v : V} {p : List Nat} {d' : D} {v' : V}, Ch M W F H q d v p d' v' → Ow M W F H (q ++ p) d' v'
  | q, _, _, _, _, _, .here h => by rw [List.append_nil]; exact h
  | q, _, _, n :: p, _, _, .ml _ _ _ _ _ c => by
    have := c.end_
    rw [List.append_assoc] at this
    exact this
  | q, _, _, n :: p, _, _, .mt _ _ _ _ _ c => by
    have := c.end_
    rw [List.append_assoc] at this
    exact this
theorem Ch.trans : ∀ {q : List Nat} {d : D} {v : V} {p : List Nat} {d1 : D} {v1 : V} {p2 : List Nat} {d2 : D} {v2 : V}, Ch M W F H q d v p d1 v1 → Ch M W F H (q ++ p) d1 v1 p2 d2 v2 → Ch M W F H q d v (p ++ p2) d2 v2
  | q, _, _, _, _, _, _, _, _, .here h, c => by rw [List.append_nil] at c; exact c
  | q, _, _, n :: p, _, _, _, _, _, .ml a b o x y c, k => .ml a b o x y (c.trans (by rw [List.append_assoc]; exact k))
  | q, _, _, n :: p, _, _, _, _, _, .mt a b o x y c, k => .mt a b o x y (c.trans (by rw [List.append_assoc]; exact k))
theorem Ch.tr {W' : Own} {F' H' : Hp} (x : Ex F F') : ∀ {q q' : List Nat} {d : D} {v : V} {p : List Nat} {d' : D} {v' : V}, (∀ a r, W a = some (q ++ r) → W' a = some (q' ++ r) ∧ ∀ o, H a = some o → H' a = some o) → Ch M W F H q d v p d' v' → Ch M W' F' H' q' d v p d' v'
  | q, q', _, _, _, _, _, k, .here h => .here (h.tr x k)
  | q, q', _, _, n :: p, _, _, k, .ml (a := a) w h o e1 e2 c => by
    have z := k a [] (by rw [List.append_nil]; exact w)
    rw [List.append_nil] at z
    refine .ml z.1 (z.2 _ h) (OwL.tr x k o) e1 e2 (c.tr x fun b r y => ?_)
    have y := k b ([n] ++ r) (by rw [← List.append_assoc]; exact y)
    rw [← List.append_assoc] at y
    exact y
  | q, q', _, _, n :: p, _, _, k, .mt (a := a) w h o e1 e2 c => by
    have z := k a [] (by rw [List.append_nil]; exact w)
    rw [List.append_nil] at z
    refine .mt z.1 (z.2 _ h) (OwL.tr x k o) e1 e2 (c.tr x fun b r y => ?_)
    have y := k b ([n] ++ r) (by rw [← List.append_assoc]; exact y)
    rw [← List.append_assoc] at y
    exact y
theorem Ch.put {a0 : Addr} {o : HO} {e : D} : ∀ {q : List Nat} {d : D} {v : V} {p : List Nat} {d' : D}, Ch M W F H q d v p d' (.ref a0) → W a0 = some (q ++ p) → Ow M W F (L2.upd H a0 o) (q ++ p) e (.ref a0) → Ow M W F (L2.upd H a0 o) q (setAt d p e) v
  | q, d, _, [], _, .here h, _, n => by
    rw [List.append_nil] at n
    rw [show setAt d [] e = e by cases d <;> rfl]
    exact n
  | q, _, _, n :: p, _, .ml (a := a) (l := l) w h o' e1 e2 c, wa, nw => by
    have ih := c.put (by rw [wa, List.append_assoc]; rfl) (by rw [List.append_assoc]; exact nw)
    have na : a ≠ a0 := fun z => by
      rw [z, wa] at w
      have := congrArg List.length (Option.some.inj w)
      simp at this
    have hk : ∀ b j r, j ≠ n → W b = some (q ++ [j] ++ r) → W b = W b ∧ L2.upd H a0 o b = H b := fun b j r hj z => ⟨rfl, upd_ne fun y => hj (by
      rw [y, wa, List.append_assoc] at z
      have := List.append_cancel_left (Option.some.inj z)
      injection this with t _
      exact t.symm)⟩
    have key := OwL.setO (K := n) ih (Nat.zero_add n) (List.getElem?_eq_some_iff.mp e1).1 hk o'
    rw [set_same e2] at key
    unfold setAt
    rw [e1]
    exact .ml w (by rw [upd_ne na]; exact h) key
  | q, _, _, n :: p, _, .mt (a := a) (l := l) w h o' e1 e2 c, wa, nw => by
    have ih := c.put (by rw [wa, List.append_assoc]; rfl) (by rw [List.append_assoc]; exact nw)
    have na : a ≠ a0 := fun z => by
      rw [z, wa] at w
      have := congrArg List.length (Option.some.inj w)
      simp at this
    have hk : ∀ b j r, j ≠ n → W b = some (q ++ [j] ++ r) → W b = W b ∧ L2.upd H a0 o b = H b := fun b j r hj z => ⟨rfl, upd_ne fun y => hj (by
      rw [y, wa, List.append_assoc] at z
      have := List.append_cancel_left (Option.some.inj z)
      injection this with t _
      exact t.symm)⟩
    have key := OwL.setO (K := n) ih (Nat.zero_add n) (List.getElem?_eq_some_iff.mp e1).1 hk o'
    rw [set_same e2] at key
    unfold setAt
    rw [e1]
    exact .mt w (by rw [upd_ne na]; exact h) key
end
theorem nodeQ_ne {env : List D} {qs : List Qf} {p : List Nat} {d : D} {x : D} (h : nodeQ env x qs = some (p, d)) (hd : d ≠ .unb) : x ≠ .unb := by
  intro e
  subst e
  have key : ∀ qs : List Qf, nodeQ env .unb qs = none ∨ nodeQ env .unb qs = some ([], .unb) := fun qs => by
    induction qs with
    | nil => exact .inr rfl
    | cons q r ih =>
      left
      unfold nodeQ
      rcases ih with ih | ih <;> rw [ih]
      rfl
  rcases key qs with z | z
  · rw [z] at h; cases h
  · rw [z] at h; cases h; exact hd rfl
section
variable {X : L2.Cx} {j : J} {a b e : Expr} {pos px : Pos} {da : List D → R D} {t : TE} {q : Qf} {r qs : List Qf}
/-- what an owned name holds at a path -/
def tN (M : Mo) (j : J) (i : Nat) (qs : List Qf) : TE := fun σ H Q => ∃ W F env p d', Rel M j.e W F H env σ ∧ env.getD i .unb ≠ .unb ∧ nodeQ env (env.getD i .unb) qs = some (p, d') ∧ ∀ v v', σ[i]? = some (some v) → Ch M W F H [i + 1] (env.getD i .unb) v p d' v' → Q v' H
theorem pn_root (i : Nat) {x : Str} (h : PE X (.Name x px) (tVar i)) : PE X (.Name x px) (tN (mo X) j i []) :=
  PE.mono h fun σ H Q ⟨W, F, env, p, d', rel, hu, hn, k⟩ => by
    cases hn
    obtain ⟨v, h1, h2⟩ := rel.slot i _ (getD_get hu) hu
    exact ⟨v, h1, k v v h1 (.here h2)⟩
/-- x[..]...[..].clear() -/
def clrP (i : Nat) (qs : List Qf) : List D → O := fun env => match nodeQ env (env.getD i .unb) qs with
  | some (p, .ml _) => .nx (env.set i (setAt (env.getD i .unb) p (.ml [])))
  | _ => .bad
theorem s_clrP (i : Nat) {e0 : Expr} {apos cpos : Pos} (h : PE X e0 (tN (mo X) j i qs))
    (hbase : attributeBase e0 "clear" X.env (eval e0 X.env) = eval e0 X.env := by rfl) (hline : (apos.endLine == cpos.line) = true := by rfl)
    (hsw : swapsWith (.Call (.Attribute e0 "clear" apos) [] [] cpos) none pos.line X.env = pure false := by rfl) : DS X j (.Expr (.Call (.Attribute e0 "clear" apos) [] [] cpos) pos) (clrP i qs) := by
  refine PS.mono (ps_expr (pe_bm0 PySem.F.plainAttrs_list PySem.F.slot_list_clear PySem.F.type_list_clear mt_clear h hbase hline) hsw) fun Dn σ H ⟨W, F, env, rel, q⟩ => ?_
  unfold clrP at q
  cases o : nodeQ env (env.getD i .unb) qs with
  | none => rw [o] at q; exact q.elim
  | some z =>
    obtain ⟨p, dl⟩ := z
    rw [o] at q
    cases dl with
    | ml L =>
      simp only at q
      have hu := nodeQ_ne o (fun z => nomatch z)
      refine ⟨W, F, env, p, _, rel, hu, o, fun v0 v' hv ch => ?_⟩
      have en := ch.end_
      cases en with
      | fz h => cases h
      | @ml _ a vs _ w2 t2 ol2 =>
        have nw : Ow (mo X) W F (L2.upd H a (.lst [])) ([i + 1] ++ p) (.ml []) (.ref a) := .ml w2 upd_same .nil
        have wr := rel.write (i := i) (a := a) (q := p) w2 hv (ch.put w2 nw)
        exact ⟨.inl ⟨rfl, _, SqL.of t2⟩, a, vs, rfl, rfl, t2, q _ F _ σ wr (Ex.refl F)⟩
    | _ => exact q.elim
end
end DL
namespace DL
open PySem PySem.Spec PyProof.Rows L2
section
variable {X : Cx} {j : J} {a b : Expr} {es : List Expr} {pos : Pos} {da db : List D → R D} {dl : List D → R (List D)}
end
@[simp] theorem clrP_ap (i : Nat) (qs : List Qf) (env : List D) : clrP i qs env = match nodeQ env (env.getD i .unb) qs with
  | some (p, .ml _) => .nx (env.set i (setAt (env.getD i .unb) p (.ml [])))
  | _ => .bad := rfl
end DL
namespace DL
open PySem PySem.Spec PyProof.Rows L2
section
variable {X : Cx} {j : J} {a b e : Expr} {pos tpos px : Pos} {da dk : List D → R D} {x : Str}
end
section
variable {X : Cx} {j : J} {e b : Expr} {x : Str} {pos pos' px : Pos} {da dk : List D → R D} {k : Nat}
end
section
variable {X : Cx} {j : J} {x : Str} {pos qpos px p q : Pos}
end
end DL
namespace DL
open PySem PySem.Spec PyProof.Rows L2 HT
section
variable {X : Cx} {j : J} {b e e0 e1 : Expr} {pos p xp tp lp rp : Pos} {x y ln : Str} {k : Nat} {f : Addr} {fd : FuncData} {ps : List Str} {g : List D → FR} {dv : List D → R D} {qs : List Qf}
end
end DL
namespace DL
open PySem PySem.Spec PyProof.Rows L2 HT
end DL
namespace DL
open PySem PySem.Spec PyProof.Rows L2 HT
section
variable {X : Cx} {j : J} {d : He.DefD} {fd : FuncData} {ps : List Str} {G : List D → FR} {k m n : Nat} {x : Str} {p pos : Pos} {e : Expr} {es : List Expr} {da : List D → R (List Ar)} {dv : D} {v : V}
end
end DL
namespace DL
open PySem PySem.Spec PyProof.Rows L2
section
variable {X : Cx} {j : J} {io g : List Nat} {dA dK : List D → R (List Ar)} {n : Nat}
variable {d : He.DefD} {fd : FuncData} {ps ks : List Str} {G : List D → FR} {k m N nk : Nat} {x : Str} {p pos : Pos} {e : Expr} {es : List Expr} {kws : List Keyword} {ds : List D} {dv : List V}
end
end DL
namespace DL
open PySem PySem.Spec PyProof.Rows L2
end DL
namespace DL
open PySem PySem.Spec PyProof.Rows L2
end DL
namespace DL
open PySem PySem.Spec PyProof.Rows L2
section
variable {X : Cx} {j : J} {x : Str} {pos px p : Pos}
end
end DL
namespace DL
open PySem PySem.Spec PyProof.Rows L2
section
variable {X : Cx} {j : J} {elt tg iter : Expr} {ifs : List Expr} {scope : Scope} {pos : Pos} {own : List (Str × Nat)} {di : List D → R (List D)} {g : D → List D → Option (List D)} {dt : List D → R Bool} {de : List D → R D} {ss : List Nat}
end
end DL
namespace DL
open PySem PySem.Spec PyProof.Rows L2
section
variable {X : Cx} {j : J} {a b : Expr} {es : List Expr} {pos : Pos} {da db : List D → R D}
end
end DL
namespace DL
open PySem PySem.Spec PyProof.Rows L2
end DL
namespace DL
open PySem PySem.Spec PyProof.Rows L2
section
variable {X : Cx} {j : J} {tg b : Expr} {x : Str} {px pos : Pos} {dk : List D → R D}
end
end DL
namespace DL
open PySem PySem.Spec PyProof.Rows L2 HT
mutual
def plainD : D → Bool
  | .int _ => true
  | .ml l => plainL l
  | _ => false
def plainL : List D → Bool
  | [] => true
  | d :: l => plainD d && plainL l
end
mutual
theorem Ow.plain {M : Mo} {W : Own} {F F' H : Hp} : ∀ {p : List Nat} {d : D} {v : V}, Ow M W F H p d v → plainD d = true → (∀ b t o, W b = some (p ++ t) → H b = some o → F' b = some o) → Rp M F' (DL.frz d) v
  | _, _, _, .fz h, e, _ => by
    cases h with
    | int i => unfold DL.frz; exact .int i
    | _ => simp [plainD] at e
  | p, _, _, .ml h1 h2 q, e, k => by
    unfold plainD at e
    unfold DL.frz
    exact .lst (SqL.of (k _ [] _ (by rw [List.append_nil]; exact h1) h2)) (OwL.plain q e fun b t o z y => k b t o z y)
  | _, _, _, .mi _ _ _ _ _ _ _, e, _ => by simp [plainD] at e
  | _, _, _, .md _ _ _ _, e, _ => by simp [plainD] at e
  | _, _, _, .mt _ _ _, e, _ => by simp [plainD] at e
  | _, _, _, .mdt _ _ _ _, e, _ => by simp [plainD] at e
theorem OwL.plain {M : Mo} {W : Own} {F F' H : Hp} : ∀ {p : List Nat} {k : Nat} {l : List D} {xs : List V}, OwL M W F H p k l xs → plainL l = true → (∀ b t o, W b = some (p ++ t) → H b = some o → F' b = some o) → RpL M F' (frzL l) xs
  | _, _, _, _, .nil, _, _ => by
    unfold frzL
    exact .nil
  | p, j, _, _, .cons h q, e, k => by
    unfold plainL at e
    rw [Bool.and_eq_true] at e
    unfold frzL
    exact .cons (Ow.plain h e.1 fun b t o z y => k b ([j] ++ t) o (by rw [← List.append_assoc]; exact z) y) (OwL.plain q e.2 k)
end
open Classical in
section
variable {M : Mo} {e : Ent} {W W' : Own} {F F' H H' : Hp} {env : List D} {σ : L2.St}
end
section
variable {X : L2.Cx} {j : J} {e2 : Expr} {pos pos2 px py pz : Pos} {de : List D → R D}
end
end DL
namespace DL
open PySem PySem.Spec PyProof.Rows L2 HT
section
variable {X : Cx} {j : J} {e : Expr} {pos p : Pos} {da : List D → R D}
end
theorem Rel.updJunk {M : Mo} {e : Ent} {W : Own} {F H : Hp} {env : List D} {σ : L2.St} {k : Nat} {p : Addr} {q : List Nat} {us vs : List V} (r : Rel M e W F H env σ) (wp : W p = some (k :: q)) (hp : H p = some (.lst vs)) (hk : ∀ n d, env[n]? = some d → d ≠ .unb → n + 1 ≠ k) : Rel M e W F (upd H p (.lst us)) env σ := by
  have sp := r.sep p (by rw [wp]; simp)
  refine ⟨⟨fun b o h1 h2 => ?_, r.exF0, fun b o h => ?_, fun b h => ?_, r.fresh, r.new, fun b h => ?_, fun b o h1 h2 => ?_, fun b o h1 h2 h3 => ?_, fun b h => ?_⟩, r.len, fun n d h1 h2 => ?_, r.pin⟩
  · have : b ≠ p := fun z => by
      subst z
      rcases sp.2.1 with y | y
      · exact y h1
      · rw [y] at h2; cases h2
    rw [upd_ne this]
    exact r.pres b o h1 h2
  · have : b ≠ p := fun z => by rw [z, sp.1] at h; cases h
    rw [upd_ne this]
    exact r.exF b o h
  · have s := r.sep b h
    refine ⟨s.1, s.2.1, ?_⟩
    by_cases z : b = p
    · rw [z, upd_same]; simp
    · rw [upd_ne z]; exact s.2.2
  · by_cases z : b = p
    · rw [z, upd_same]; simp
    · rw [upd_ne z]; exact r.stay b h
  · have q := r.tups b o h1 h2
    have : b ≠ p := fun z => by
      subst z
      rw [hp] at q
      cases q
      exact flat_lst h1
    rw [upd_ne this]
    exact q
  · have : b ≠ p := fun z => by
      subst z
      rw [upd_same] at h2
      cases h2
      exact flat_lst h1
    rw [upd_ne this] at h2
    exact r.tupr b o h1 h2 h3
  · by_cases z : b = p
    · subst z
      exact FlatT.not upd_same flat_lst
    · rintro ⟨o, q1, q2⟩
      rw [upd_ne z] at q1
      exact r.nof b h ⟨o, q1, q2⟩
  · obtain ⟨v, h3, h4⟩ := r.slot n d h1 h2
    refine ⟨v, h3, h4.tr (Ex.refl F) fun b t z => ⟨z, fun o y => ?_⟩⟩
    have : b ≠ p := fun w => by
      rw [w, wp] at z
      simp at z
      exact hk n d h1 h2 z.1.symm
    rw [upd_ne this]
    exact y
section
variable {X : Cx} {j : J} {e : Expr} {pos ppos ipos zpos : Pos} {da : List D → R D}
end
section
variable {X : Cx} {j : J} {pos px py bpos apos cpos tpos upos wpos npos : Pos}
end
end DL
namespace DL
open PySem PySem.Spec PyProof.Rows L2
section
variable {X : Cx} {j : J} {b : Expr} {x y : Str} {px p pos : Pos} {dk : List D → R D}
end
end DL
namespace DL
open PySem PySem.Spec PyProof.Rows L2
section
variable {X : Cx} {j : J} {e : Expr} {x y : Str} {px pos p pos' : Pos} {de da : List D → R D}
end
end DL
namespace DL
open PySem PySem.Spec PyProof.Rows L2
section
variable {X : Cx} {j : J} {kx vx tg iter : Expr} {ifs : List Expr} {scope : Scope} {pos : Pos} {own : List (Str × Nat)} {di : List D → R (List D)} {g : D → List D → Option (List D)} {dt : List D → R Bool} {dk dv : List D → R D} {ss : List Nat}
end
end DL
namespace DL
open PySem PySem.Spec PyProof.Rows L2
def fitsPowW (a b : Int) : Prop := 0 ≤ b ∧ b ≤ 1000 ∧ Sm 1000 a
instance (a b : Int) : Decidable (fitsPowW a b) := by unfold fitsPowW Sm; infer_instance
end DL
namespace DL
open PySem PySem.Spec PyProof.Rows L2
section
variable {P : Program} {w : World} {A : Around} {E : Value → Shared → Prop} {s : Shared}
end
end DL
namespace DL
open PySem PySem.Spec PyProof.Rows L2
section
variable {X : Cx} {j : J} {e o : Expr} {p p2 pos pos2 apos : Pos} {de da : List D → R D}
end
end DL
namespace DL
open PySem PySem.Spec PyProof.Rows L2
section
variable {prog : Program} {w : World} {A : Around} {E : Value → Shared → Prop} {s : Shared} {e z TI TO i1 i2 l1 l2 : Addr}
end
section
variable {X : Cx}
end
end DL
namespace DL
open PySem PySem.Spec PyProof.Rows L2
section
variable {X : Cx} {j : J} {e : Expr} {p p2 kp pos : Pos} {de : List D → R D}
variable {x : Str} {px : Pos} {b : Expr} {db : List D → R D}
end
end DL
namespace DL
open PySem PySem.Spec PyProof.Rows L2
def neI (c : Str) (G : List D → FR) : D → D → Option D := fun x y => if (selfD c x && selfD c y) = true then match G [x, y] with
  | .ret (.bl b) [] => some (.bl (!b))
  | _ => none
  else none
section
variable {X : Cx} {d : He.DefD} {fd : FuncData} {ps : List Str} {G : List D → FR} {k m : Nat} {c : Str}
/-- the own def runs, and tells a truth value -/
theorem eq_run {pins : List (Addr × Obj)} {σ : L2.St} {F0 H : Hp} {s : Shared} {dx dy : D} {a b : Addr} {bb : Bool} {A : Around} {Q : Bool → Shared → Prop} (F : Df X.prog X.w X.K X.mg X.base d fd ps [] G k) (hb : Binds X.K fd ps []) (hn : ps.length = 2) (hr : Room k A) (hA : A.frames = X.A.frames)
    (I : Inv X pins σ H s) (ex : Ex F0 H) (p1 : Rp (mo X) F0 dx (.ref a)) (p2 : Rp (mo X) F0 dy (.ref b)) (nx : dx ≠ .unb) (ny : dy ≠ .unb) (e : G [dx, dy] = .ret (.bl bb) [])
    (q : ∀ F' H' s', Inv X pins σ H' s' → Grow F0 H F' H' → Q bb s') : wpAny (model X.prog X.w) A (call (.ref (He.fAd X.K d.at_)) [.ref a, .ref b]) (fun v s' => v = .bool bb ∧ Q bb s') X.xe s := by
  have e0 : Env0 X.prog X.w X.K X.mg X.base A X.stack s H := by
    have e := I.env0
    exact ⟨by rw [hA]; exact e.frames, e.mod, e.bs, e.bsz, e.funs, e.frf, e.hok, e.bare⟩
  have r2 : Vals [V.ref a, V.ref b] [Value.ref a, Value.ref b] := .cons rfl (.cons rfl .nil)
  have hsp : spD (mo X) ps.length [] G [.ref a, .ref b] H (fun v H' => v = .bl bb ∧ ∃ F', Grow F0 H F' H') (WE noX σ) := by
    refine ⟨fun _ => none, F0, [dx, dy], by rw [hn]; rfl, by rw [hn]; rfl, ⟨fun _ _ _ h => h, Ex.refl _, ex, fun a h => absurd rfl h, fun _ _ _ h => (by cases h), fun _ h => .inl h, fun _ h => h, fun _ _ _ h => h, fun _ _ _ h _ => h, fun a h => absurd rfl h⟩, ?_, ?_⟩
    · intro i d' h
      cases i with
      | zero => cases h; exact ⟨nx, _, rfl, .fz p1⟩
      | succ i =>
        cases i with
        | zero => cases h; exact ⟨ny, _, rfl, .fz p2⟩
        | succ i => simp at h
    · rw [e]
      intro W' F' H' v rb ow _
      cases ow with
      | fz p =>
        cases p
        exact ⟨rfl, F', rb.exF0, fun b o h => rb.pres b o rfl h, rb.exF, rb.new⟩
  have hl := F.ok.len _ _ _ _ hsp
  refine wpAny_call (codeAny_mono (F.ok.run A X.stack s H ⟨[.ref a, .ref b], []⟩ [.ref a, .ref b] [.ref a, .ref b] _ (WE noX σ) hr e0 (by
    have := hb s [.ref a, .ref b] I.kIn (by simpa using hl)
    simpa using this) r2 hsp) fun r s' hq => ?_)
  cases r with
  | error e => exact passAt takes_noX σ pins H s e s' I hq
  | ok fl =>
    cases fl with
    | ret w =>
      obtain ⟨z, H', I', rz, ez, F', g⟩ := I.after hq
      subst ez
      cases (show w = Value.bool bb from rz)
      exact ⟨rfl, q F' H' s' I' g⟩
    | next => exact False.elim hq
    | brk => exact False.elim hq
    | cont => exact False.elim hq
theorem selfD_ne {x : D} (h : selfD c x = true) : x ≠ .unb := fun z => by subst z; cases h
end
section
variable {prog : Program} {w : World} {A : Around} {E : Value → Shared → Prop} {s : Shared} {K : PySem.W.Frag} {x C L f : Addr} {h₀ : Heap} {m : Str → Option Value} {ox : Obj} {od : Option Obj} {b tb : Value}
theorem ne_check {M : Model} {Q : Unit → Shared → Prop} (X : K.In s.heap) (I : PySem.W.InstAt s.heap x ox C od) (hm : PySem.W.mroIn K C (.type "object") = some true) (hq : Q () s) : wpAny M A (checkBuiltinCall "object.__ne__" ⟨[.ref x, b], []⟩) Q E s := by
  have ha := PySem.F.cmpArgs_ne (.ref x) b
  obtain ⟨hh, g, dr, t, os⟩ := s
  have L0 := I.type (M := M)
  have L1 := PySem.W.looks_mroIn (M := M) X hm
  simp only [checkBuiltinCall, PySem.F.cmpKind_ne, PySem.F.cmpSplit_ne]
  unfold isInstance
  repeat lk
  exact hq
theorem ne_entry {Q : Fin → Shared → Prop} (X : K.In s.heap) (I : PySem.W.InstAt s.heap x ox C od) (he : PySem.W.findIn K (.ref C) "__eq__" = some (some (.ref f))) (hf : PySem.W.isFn K (.ref f) = true) (hu : A.units < cLine)
    (hcall : wpAny (model prog w) A (call (.ref f) [.ref x, b]) (fun v s' => ∃ bb, v = .bool bb ∧ Q (.done (.ret (.bool (!bb)))) s') E s) :
    wpAny (model prog w) A (Builtin.«object.__ne__» ⟨[.ref x, b], []⟩) Q E s := by
  unfold Builtin.«object.__ne__»
  repeat (first
    | with_reducible refine wpAny_cRoomFor hu ?_
    | (refine wpAny_bind (m := callSpecialIfBound? (.ref x) (Str.ofString "__eq__") [b])
        (PySem.W.ifBound_K X I he hf (wpAny_mono hcall (fun r s' hr => by
          obtain ⟨bb, rfl, hq⟩ := hr
          repeat (first | exact hq | exact wpAny_pure hq | exact wpAny_truthy_bool hq | (refine wpAny_bind (m := truthy (.bool _)) (wpAny_truthy_bool ?_)) | wp_step)) fun _ _ e => e)))
    | wp_step)
theorem ne_K {Q : Value → Shared → Prop} (hu : A.units + 1 < cLine) (F : Fr h₀ L s.heap m) (X₀ : K.In h₀) (I : PySem.W.InstAt s.heap x ox C od) (hb : PySem.W.Looks (model prog w) s.heap (typeOf b) tb) (hn : PySem.W.notFirst K C tb = true)
    (hs : PySem.W.findIn K (.ref C) "__ne__" = some (some (.builtin "object.__ne__"))) (hm : PySem.W.mroIn K C (.type "object") = some true) (he : PySem.W.findIn K (.ref C) "__eq__" = some (some (.ref f))) (hf : PySem.W.isFn K (.ref f) = true)
    (h : wpAny (model prog w) A.in1 (call (.ref f) [.ref x, b]) (fun v s' => ∃ bb, v = .bool bb ∧ Q (.bool (!bb)) s') E s) : wpAny (model prog w) A (richCompare .NotEq (.ref x) b) Q E s := by
  have X := X₀.keeps F.keep
  have one : wpAny (model prog w) A (tryCompare (.ref x) "__ne__" b) (fun r s' => ∃ v, r = some v ∧ Q v s') E s := by
    unfold tryCompare
    refine wpAny_bind ?_
    simp only [callSpecialIfBound?, bindSpecialIfBound?]
    refine wpAny_holding (wpAny_bind (wpAny_bind (wpAny_bind (I.type.here ((PySem.W.looks_findIn X hs).here ?_)))))
    refine wpAny_bind (wpAny_askSetting (wpAny_ite ?_))
    have run : wpAny (model prog w) A (call (.builtin "object.__ne__") ([.ref x] ++ [b])) (fun v s' => v ≠ .notImplemented ∧ Q v s') E s := by
      refine wpAny_call (codeAny_call_builtin PySem.F.cmp_object.ne.plain PySem.F.cmpEntry_ne (ne_check X I hm ?_))
      exact ne_entry X I he hf hu (wpAny_mono h (fun v s' hr => by
        obtain ⟨bb, rfl, hq⟩ := hr
        exact ⟨bb, rfl, (show Value.bool (!bb) ≠ .notImplemented ∧ Q (.bool (!bb)) s' from ⟨(fun z => by cases z), hq⟩)⟩) fun _ _ e => e)
    have fin : wpAny (model prog w) A (call (.builtin "object.__ne__") ([.ref x] ++ [b]) >>= fun v => pure (some v)) (fun a s' =>
            wpAny (model prog w) A
              (match a with
              | some Value.notImplemented => pure none
              | none => pure none
              | some v => pure (some v))
              (fun r s' => ∃ v, r = some v ∧ Q v s') E s') E s := wpAny_bind (wpAny_mono run (fun v s' h' => wpAny_pure (by
        obtain ⟨h1, h2⟩ := h'
        cases v <;> first | exact absurd rfl h1 | exact wpAny_pure ⟨_, rfl, h2⟩)) fun _ _ h' => h')
    split
    · rw [PySem.F.cmp_object.ne.bind]
      exact wpAny_bind (wpAny_pure (wpAny_pure fin))
    · rw [PySem.F.cmp_object.ne.bind]
      exact wpAny_tryCatch (wpAny_bind (wpAny_pure (wpAny_pure fin)))
  unfold richCompare
  simp only [oneThing_ref]
  refine wpAny_holding (wpAny_bind (wpAny_cRoomFor (Nat.lt_of_succ_lt hu) ?_))
  refine wpAny_bind (I.type.here (wpAny_bind (hb.here ?_)))
  split
  · rename_i q
    have e : PySem.W.subIn K tb (.ref C) = some false := by
      rcases Bool.or_eq_true_iff.mp hn with e | e
      · rw [beq_iff_eq.mp e] at q; simp at q
      · exact beq_iff_eq.mp e
    refine wpAny_bind ((PySem.W.looks_subIn X e).here ?_)
    simp only [Bool.false_eq_true, if_false]
    refine wpAny_bind (wpAny_mono one (fun r s' z => ?_) fun _ _ e => e)
    obtain ⟨v, rfl, hq⟩ := z
    exact wpAny_pure hq
  · refine wpAny_bind (wpAny_pure ?_)
    simp only [Bool.false_eq_true, if_false]
    refine wpAny_bind (wpAny_mono one (fun r s' z => ?_) fun _ _ e => e)
    obtain ⟨v, rfl, hq⟩ := z
    exact wpAny_pure hq
end
section
variable {X : Cx} {d : He.DefD} {fd : FuncData} {ps : List Str} {G : List D → FR} {k m : Nat} {c : Str}
theorem od_neI (F : Df X.prog X.w X.K X.mg X.base d fd ps [] G k) (hb : Binds X.K fd ps []) (hat : He.fAd X.K d.at_ = He.ma X.K (He.ga X.K c) "__eq__") (T : MethOk (mo X) c "__eq__") (hne : neOk X.K (He.ga X.K c) = true) (hn : ps.length = 2) (hr : Room m X.A) (hk : k + 1 ≤ m) : OpD X (compareOp .NotEq) (neI c G) := fun pins s σ F0 H dx dy d1 x y v u Q I ex p1 p2 rx ry e q => by
  unfold neOk at hne
  rw [Bool.and_eq_true] at hne
  unfold neI at e
  split at e
  · rename_i hs
    rw [Bool.and_eq_true] at hs
    split at e
    · rename_i bb he
      cases e
      obtain ⟨a, dxx, fs, rfl, e2, e3⟩ := p1.self T hs.1 ex
      obtain ⟨b, dyy, gs, rfl, e4, e5⟩ := p2.self T hs.2 ex
      cases rx
      cases ry
      obtain ⟨mA, J, _⟩ := ins_get I.hok e2
      obtain ⟨mB, J', _⟩ := ins_get I.hok e4
      obtain ⟨od, J, _⟩ := J.look
      obtain ⟨od', J', _⟩ := J'.look
      obtain ⟨m', hF⟩ := I.fr
      have hr1 : Room (k + 1) X.A := hr.mono hk
      have hr2 : Room k X.A.in1 := hr1.in1
      show wpAny _ _ (richCompare .NotEq (.ref a) (.ref b)) _ _ _
      refine ne_K (tb := .ref (He.ga X.K c)) hr2.units0 hF I.ok.mod.kin J J'.type (by simp [PySem.W.notFirst]) (beq_iff_eq.mp hne.1) (beq_iff_eq.mp hne.2) T.me.at_ T.me.fn ?_
      rw [← hat]
      refine wpAny_mono (eq_run F hb hn hr2 rfl I ex p1 p2 (selfD_ne hs.1) (selfD_ne hs.2) he (Q := fun bb s' => EP X pins σ Q (.bool (!bb)) s') fun F' H' s' I' g => ⟨.bl (!bb), H', I', rfl, q F' H' _ g (.bl (!bb))⟩) (fun w s' z => ?_) fun _ _ x => x
      obtain ⟨rfl, z⟩ := z
      exact ⟨bb, rfl, z⟩
    · cases e
  · cases e
end
@[simp] theorem neI_ap (c : Str) (G : List D → FR) (x y : D) : neI c G x y = if (selfD c x && selfD c y) = true then match G [x, y] with
  | .ret (.bl b) [] => some (.bl (!b))
  | _ => none
  else none := rfl
end DL
namespace DL
open PySem PySem.Spec PyProof.Rows L2
section
variable {prog : Program} {w : World} {A : Around} {E : Value → Shared → Prop} {s : Shared}
theorem star_itemsL {l : Addr} {items : Array Value} {Q : List Value → Shared → Prop} (hl : s.heap.IsList l items) (hh : A.handled = none) (h1 : 1 ≤ items.size) (hz : items.size ≤ 16384)
    (h : ∀ (h' : Heap) tk, (∀ b o, s.heap.get? b = some o → h'.get? b = some o) → Q (items.toList.take 1 ++ [.ref h'.objs.size]) { s with heap := h'.push { cls := .type "list", data := .seq (items.toList.drop 1).toArray }, toks := tk }) : wpAny (model prog w) A (unpackItems (.ref l) 2 (some 1)) Q E s := by
  have hlt : l ≠ s.heap.objs.size := by obtain ⟨o, ho, _⟩ := hl; exact Nat.ne_of_lt (Heap.lt_size ho)
  unfold unpackItems
  refine wpAny_bind ?_
  unfold notIterableAtAll
  refine wpAny_bind (wpAny_specialOf hl.typeIs slot_list_iter.lookup ?_)
  refine wpAny_pure ?_
  simp only [Bool.false_eq_true, if_false]
  refine wpAny_bind (wpAny_holding (wpAny_pyIter_list hl ?_))
  refine wpAny_bind (wpAny_holding (W.kun_draw hlt 1 0 _ _ ⟨_, Heap.get?_push_size _ rfl, rfl, rfl⟩ (hl.push _) (by omega) fun h₁ hit₁ hs₁ => ?_))
  have hl₁ : h₁.IsList l items := (hl.push _).extBut hs₁.extBut hlt
  rw [Nat.zero_add] at hit₁
  have hit₁' := hit₁
  obtain ⟨oi, hoi, _⟩ := hit₁'
  have hl₁' := hl₁
  obtain ⟨ol, hol, _⟩ := hl₁'
  rw [List.drop_zero]
  have hfl : (items.toList.take 1).length = 1 := by rw [List.length_take, Array.length_toList]; omega
  rw [if_neg (show ¬ ((items.toList.take 1).length < 1) by rw [hfl]; omega)]
  refine wpAny_bind (wpAny_holding (W.kun_collect (s := { s with heap := h₁ }) (T := "list_iterator") (.inr (.inr (.inl rfl))) (Walks.list (A := A.in1) hh s.heap.objs.size l hlt items) (fun j u st => st.1.typeIs) (k := 1) (by omega) ⟨hit₁, hl₁⟩ (Heap.lt_size hoi) (Heap.lt_size hol) (fun h₂ tk hk => ?_) (by rw [sizeLine_eq]; omega)))
  have hrl : (items.toList.drop 1).length = items.size - 1 := by rw [List.length_drop, Array.length_toList]
  have hmid : (items.toList.drop 1).length - (2 - 1 - 1) = items.size - 1 := by rw [hrl]; omega
  show wpAny _ _ (if (items.toList.drop 1).length < 2 - 1 - 1 then _ else _) _ _ _
  rw [if_neg (by omega)]
  show wpAny _ _ (newList ((items.toList.drop 1).take ((items.toList.drop 1).length - (2 - 1 - 1))) >>= fun d => pure (items.toList.take 1 ++ [d] ++ (items.toList.drop 1).drop ((items.toList.drop 1).length - (2 - 1 - 1)))) _ _ _
  rw [hmid, List.take_of_length_le (by omega), List.drop_eq_nil_of_le (as := items.toList.drop 1) (by omega)]
  simp only [List.append_nil]
  have he : ∀ b o, s.heap.get? b = some o → h₂.get? b = some o := fun b o e => by
    have hb : b ≠ s.heap.objs.size := Nat.ne_of_lt (Heap.lt_size e)
    exact hk b o hb (hs₁.extBut b o hb (Heap.get?_push_of_some _ e))
  exact wpAny_bind (wpAny_newList (s := { s with heap := h₂, toks := tk }) (wpAny_pure (h h₂ tk he)) (by rw [hrl, sizeLine_eq]; omega))
theorem star_itemsT {l : Addr} {items : Array Value} {Q : List Value → Shared → Prop} (hl : IsTup s.heap l items) (hh : A.handled = none) (h1 : 1 ≤ items.size) (hz : items.size ≤ 16384)
    (h : ∀ (h' : Heap) tk, (∀ b o, s.heap.get? b = some o → h'.get? b = some o) → Q (items.toList.take 1 ++ [.ref h'.objs.size]) { s with heap := h'.push { cls := .type "list", data := .seq (items.toList.drop 1).toArray }, toks := tk }) : wpAny (model prog w) A (unpackItems (.ref l) 2 (some 1)) Q E s := by
  have hlt : l ≠ s.heap.objs.size := by obtain ⟨o, ho, _⟩ := hl; exact Nat.ne_of_lt (Heap.lt_size ho)
  unfold unpackItems
  refine wpAny_bind ?_
  unfold notIterableAtAll
  refine wpAny_bind (wpAny_specialOf hl.typeIs slot_tuple_iter.lookup ?_)
  refine wpAny_pure ?_
  simp only [Bool.false_eq_true, if_false]
  refine wpAny_bind (wpAny_holding (iter_tuple hl ?_))
  refine wpAny_bind (wpAny_holding (draw_tuple hlt 1 0 _ _ ⟨_, Heap.get?_push_size _ rfl, rfl, rfl⟩ (hl.push _) (by omega) fun h₁ hit₁ hs₁ => ?_))
  have hl₁ : IsTup h₁ l items := (hl.push _).extBut hs₁.extBut hlt
  rw [Nat.zero_add] at hit₁
  have hit₁' := hit₁
  obtain ⟨oi, hoi, _⟩ := hit₁'
  have hl₁' := hl₁
  obtain ⟨ol, hol, _⟩ := hl₁'
  rw [List.drop_zero]
  have hfl : (items.toList.take 1).length = 1 := by rw [List.length_take, Array.length_toList]; omega
  rw [if_neg (show ¬ ((items.toList.take 1).length < 1) by rw [hfl]; omega)]
  refine wpAny_bind (wpAny_holding (W.kun_collect (s := { s with heap := h₁ }) (T := "tuple_iterator") (.inr (.inr (.inr rfl))) (Walks.tuple (A := A.in1) hh s.heap.objs.size l hlt items) (fun j u st => st.1.typeIs) (k := 1) (by omega) ⟨hit₁, hl₁⟩ (Heap.lt_size hoi) (Heap.lt_size hol) (fun h₂ tk hk => ?_) (by rw [sizeLine_eq]; omega)))
  have hrl : (items.toList.drop 1).length = items.size - 1 := by rw [List.length_drop, Array.length_toList]
  have hmid : (items.toList.drop 1).length - (2 - 1 - 1) = items.size - 1 := by rw [hrl]; omega
  show wpAny _ _ (if (items.toList.drop 1).length < 2 - 1 - 1 then _ else _) _ _ _
  rw [if_neg (by omega)]
  show wpAny _ _ (newList ((items.toList.drop 1).take ((items.toList.drop 1).length - (2 - 1 - 1))) >>= fun d => pure (items.toList.take 1 ++ [d] ++ (items.toList.drop 1).drop ((items.toList.drop 1).length - (2 - 1 - 1)))) _ _ _
  rw [hmid, List.take_of_length_le (by omega), List.drop_eq_nil_of_le (as := items.toList.drop 1) (by omega)]
  simp only [List.append_nil]
  have he : ∀ b o, s.heap.get? b = some o → h₂.get? b = some o := fun b o e => by
    have hb : b ≠ s.heap.objs.size := Nat.ne_of_lt (Heap.lt_size e)
    exact hk b o hb (hs₁.extBut b o hb (Heap.get?_push_of_some _ e))
  exact wpAny_bind (wpAny_newList (s := { s with heap := h₂, toks := tk }) (wpAny_pure (h h₂ tk he)) (by rw [hrl, sizeLine_eq]; omega))
end
/-- x = the first, y = a new list of the others -/
def starV (K : PySem.W.Frag) (i k : Nat) : TG := fun v σ H Q => ∃ (a : Addr) (x : V) (xs : List V), v = .ref a ∧ (SqL K H a (x :: xs) ∨ SqT K H a (x :: xs)) ∧ xs.length < 16000 ∧ ∀ D, H D = none → Q ((σ.set i (some x)).set k (some (.ref D))) (upd H D (.lst xs))
section
variable {X : Cx} {j : J} {e : Expr} {pos px py sp pt : Pos} {da : List D → R D}
theorem pg_star {i k kt : Nat} {x y : Str} (hc : X.calm = true) (hN : X.N.Nodup) (hi : X.N[i]? = some x) (hx : Loc X.env.scope x) (hk : X.N[k]? = some y) (hy : Loc X.env.scope y)
    (hf : X.fn x = true ∨ X.env.scope.names.lookup x = some .local) (hf2 : X.fn y = true ∨ X.env.scope.names.lookup y = some .local) : PG X (.Tuple [.Name x px, .Starred (.Name y py) sp] kt pt) (starV X.K i k) := by
  refine ⟨fun pins s σ H v u Q I r hw => ?_⟩
  obtain ⟨a, z, zs, e1, hq, hl, hw⟩ := hw
  subst e1
  cases r
  have rest : ∀ (its : Array Value) (rv : Vals (z :: zs) its.toList) (h' : Heap) (tk : Nat), (∀ b o, s.heap.get? b = some o → h'.get? b = some o) → wpAny (model X.prog X.w) X.A (assignInOrder ((assignEach [.Name x px, .Starred (.Name y py) sp] X.env).map (·.2)) (its.toList.take 1 ++ [.ref h'.objs.size])) (fun _ s' => ∃ σ' H', Inv X pins σ' H' s' ∧ Q σ' H') X.xe { s with heap := h'.push { cls := .type "list", data := .seq (its.toList.drop 1).toArray }, toks := tk } := fun its rv h' tk hk' => by
    have I1 : Inv X pins σ H { s with heap := h', toks := tk } := I.kept hk'
    cases hits : its.toList with
    | nil => rw [hits] at rv; cases rv
    | cons u0 us =>
      rw [hits] at rv
      cases rv with
      | cons r0 rr =>
        have I2 : Inv X pins σ (upd H h'.objs.size (.lst zs)) { s with heap := h'.push { cls := .type "list", data := .seq us.toArray }, toks := tk } := I1.laid (a := h'.objs.size) (o := .lst zs) (fun b o e => Heap.get?_push_of_some _ e) (Nat.le_refl _) ⟨Nat.le_trans (Nat.le_of_lt hl) (by decide), us, _, rr, Heap.get?_push_size _ rfl⟩
        have hp : PGs X [.Name x px, .Name y py] (gCons (gName i) (gCons (gName k) gNil)) := pgs_cons (pg_name hN hi hx hf) (pgs_cons (pg_name hN hk hy hf2) pgs_nil)
        exact hp.run pins _ σ _ [z, .ref h'.objs.size] [u0, .ref h'.objs.size] Q I2 (.cons r0 (.cons rfl .nil)) ⟨z, _, rfl, ⟨.ref h'.objs.size, [], rfl, rfl, hw _ (I1.hok.fresh (Nat.le_refl _))⟩⟩
  have hh := I.ok.hd hc
  rw [assign_Tuple]
  refine wpAny_bind (wpAny_standAt ?_)
  unfold unpack
  rcases hq with hq | hq
  · obtain ⟨its, rv, ht, hz⟩ := I.list hq
    refine wpAny_bind (wpAny_holding (star_itemsL (items := its.toArray) ht.isList hh ?_ ?_ fun h' tk hk' => ?_))
    · have := rv.length; simp; simp at this; omega
    · have := rv.length; simp; simp at this; omega
    · exact rest its.toArray (by simpa using rv) h' tk hk'
  · obtain ⟨its, rv, ht, hz⟩ := I.tuple hq
    refine wpAny_bind (wpAny_holding (star_itemsT (items := its.toArray) ht hh ?_ ?_ fun h' tk hk' => ?_))
    · have := rv.length; simp; simp at this; omega
    · have := rv.length; simp; simp at this; omega
    · exact rest its.toArray (by simpa using rv) h' tk hk'
def starD (i k : Nat) (da : List D → R D) : List D → O := fun env => bindS (da env) fun d env1 => match d with
  | .lst (x :: l) => if l.length < 16000 then .nx ((env1.set i x).set k (.ml l)) else .bad
  | .tup (x :: l) => if l.length < 16000 then .nx ((env1.set i x).set k (.ml l)) else .bad
  | _ => .bad
theorem s_star (i k : Nat) {x y : Str} {kt : Nat} (hc : X.calm = true) (hN : X.N.Nodup) (hp : j.e.P i = none) (hp2 : j.e.P k = none) (ha : DE X j e da) (hi : X.N[i]? = some x := by rfl) (hx : Loc X.env.scope x := by first | exact Or.inl rfl | exact Or.inr rfl) (hk : X.N[k]? = some y := by rfl) (hy : Loc X.env.scope y := by first | exact Or.inl rfl | exact Or.inr rfl)
    (hf : X.fn x = true ∨ X.env.scope.names.lookup x = some .local := by first | exact .inl rfl | exact .inr rfl) (hf2 : X.fn y = true ∨ X.env.scope.names.lookup y = some .local := by first | exact .inl rfl | exact .inr rfl)
    (hs : swapsWithSole [.Tuple [.Name x px, .Starred (.Name y py) sp] kt pt] e pos.line X.env = pure false := by rfl) (hw : swappedStores [.Tuple [.Name x px, .Starred (.Name y py) sp] kt pt] e X.env = pure none := by rfl)
    (h1 : (assignEach [.Tuple [.Name x px, .Starred (.Name y py) sp] kt pt] X.env).map (·.2) = [assign (.Tuple [.Name x px, .Starred (.Name y py) sp] kt pt) X.env] := by rfl) : DS X j (.Assign [.Tuple [.Name x px, .Starred (.Name y py) sp] kt pt] e pos) (starD i k da) :=
  PS.mono (ps_asg ha (pg_star hc hN hi hx hk hy hf hf2) hs hw h1) fun Dn σ H ⟨W, F, env, rel, q⟩ => ⟨W, F, env, rel, AtS.bind q fun d env1 W1 F1 H1 v _ r1 x1 p1 q1 => by
    have fin : ∀ (z : D) (l : List D) (v0 : V) (xs : List V), Rp (mo X) F1 z v0 → RpL (mo X) F1 l xs → AtS (mo X) j F1 (.nx ((env1.set i z).set k (.ml l))) Dn → ∀ D, H1 D = none → Dn.nx ((σ.set i (some v0)).set k (some (.ref D))) (upd H1 D (.lst xs)) := fun z l v0 xs pz pl q1 D hD => by
      obtain ⟨r2, o2⟩ := r1.newO hD pl
      exact q1 _ F1 _ _ ((r2.set pz hp).setO (o2.tr (Ex.refl F1) fun a q z => ⟨z, fun _ x => x⟩) hp2) (Ex.refl F1)
    cases p1 with
    | @lst a xs l h1' h2' =>
      cases h2' with
      | nil => exact q1.elim
      | @cons z l v0 xs pz pl =>
        have q1 : AtS (mo X) j F1 (if l.length < 16000 then .nx ((env1.set i z).set k (.ml l)) else .bad) Dn := q1
        by_cases hl : l.length < 16000
        · rw [if_pos hl] at q1
          exact ⟨a, v0, xs, rfl, .inl (ex_l r1.exF h1'), by rw [← pl.length]; exact hl, fin z l v0 xs pz pl q1⟩
        · rw [if_neg hl] at q1
          exact q1.elim
    | @tup a xs l h1' h2' =>
      cases h2' with
      | nil => exact q1.elim
      | @cons z l v0 xs pz pl =>
        have q1 : AtS (mo X) j F1 (if l.length < 16000 then .nx ((env1.set i z).set k (.ml l)) else .bad) Dn := q1
        by_cases hl : l.length < 16000
        · rw [if_pos hl] at q1
          exact ⟨a, v0, xs, rfl, .inr (SqT.of (r1.exF _ _ h1')), by rw [← pl.length]; exact hl, fin z l v0 xs pz pl q1⟩
        · rw [if_neg hl] at q1
          exact q1.elim
    | _ => exact q1.elim⟩
@[simp] theorem starD_ap (i k : Nat) (da : List D → R D) (env : List D) : starD i k da env = bindS (da env) fun d env1 => match d with
  | .lst (x :: l) => if l.length < 16000 then .nx ((env1.set i x).set k (.ml l)) else .bad
  | .tup (x :: l) => if l.length < 16000 then .nx ((env1.set i x).set k (.ml l)) else .bad
  | _ => .bad := rfl
end
end DL
namespace DL
open PySem PySem.Spec PyProof.Rows L2
def isG (c : Str) (d : D) : Option D := match d with
  | .ins c' _ => if c' = c then some (.bl true) else none
  | d => (tyD d).map fun _ => .bl false
section
variable {X : Cx} {j : J} {a e : Expr} {pos p q apos cpos zpos : Pos} {da : List D → R D}
theorem e_isG {c meth x : Str} (T : MethOk (mo X) c meth) (hk : isGok X.K (He.ga X.K c) = true) (hg : Gl X "isinstance") (hm : X.mg "isinstance" = none) (hc : PE X (.Name x q) (tC (.ref (He.ga X.K c)))) (ha : DE X j a da)
    (he : starEach [a, .Name x q] X.env = (false, eval a X.env) :: starEach [.Name x q] X.env := by rfl) (hpl : (backTo pos (starEach [.Name x q] X.env)).any (·.1) = false := by rfl) :
    DE X j (.Call (.Name "isinstance" p) [a, .Name x q] [] pos) (unD (isG c) da) :=
  PE.mono (pe_callB (call_isi (X := X)) hg hm (by rfl) (pa_cons ha (pa_cons hc pa_nil) he) (by decide) (by decide) he hpl) fun σ H Q ⟨W, F, env, rel, q⟩ => ⟨W, F, env, rel, At.bind q fun d env1 W1 F1 H1 v _ r1 x1 p1 q1 => by
    unfold isGok at hk
    simp only [Bool.and_eq_true] at hk
    obtain ⟨⟨⟨⟨⟨k1, k2⟩, k3⟩, k4⟩, k5⟩, k6⟩ := hk
    have base : ∀ t : String, tyD d = some t → isG c d = some (.bl false) → ∃ (x c_1 : V) (t u : Value) (b : Bool), [v, V.ref (He.ga X.K c)] = [x, c_1] ∧ ClsV c_1 u ∧ TyX X.K H1 x t ∧ PySem.W.kitOne X.K t u = some b ∧ Q (.bl b) H1 := fun t ht hi => by
      rw [hi] at q1
      obtain ⟨h1, h2⟩ := p1.ty r1.exF ht
      exact ⟨v, .ref (He.ga X.K c), .type t, .ref (He.ga X.K c), false, rfl, .own _, h1, beq_iff_eq.mp (List.all_eq_true.mp k6 t h2), q1 W1 F1 H1 _ r1 (Ex.refl F1) (.bl _)⟩
    cases p1 with
    | @ins c' aa C dx fs l g hn hq hr =>
      have q1 : At (mo X) j.e j.wx (Rp (mo X)) F1 σ (opR (if c' = c then some (.bl true) else none) env1) Q := q1
      by_cases z : c' = c
      · subst z
        rw [if_pos rfl] at q1
        have gC := T.g.symm.trans g
        cases gC
        exact ⟨_, .ref (He.ga X.K c'), .ref (He.ga X.K c'), .ref (He.ga X.K c'), true, rfl, .own _, .base (.ins (r1.exF _ _ hq) T.cl (beq_iff_eq.mp k1) (beq_iff_eq.mp k2) (beq_iff_eq.mp k3) (beq_iff_eq.mp k4)), beq_iff_eq.mp k5, q1 W1 F1 H1 _ r1 (Ex.refl F1) (.bl _)⟩
      · rw [if_neg z] at q1
        exact q1.elim
    | non => exact base _ rfl rfl
    | bl b => exact base _ rfl rfl
    | int i => exact base _ rfl rfl
    | str s => exact base _ rfl rfl
    | tup h q => exact base _ rfl rfl
    | lst h q => exact base _ rfl rfl
    | _ => exact q1.elim⟩
def appJ (da : List D → R D) : List D → O := fun env => match da env with
  | .ok (.ml L) env1 => if L.length < sizeLine then .nx env1 else .bad
  | _ => .bad
theorem s_appJ {vz : V} {ez : Expr} (h : DO X j e da) (hz : PE X ez (tC vz)) (hbase : attributeBase e "append" X.env (eval e X.env) = eval e X.env := by rfl)
    (hfew : ((backTo cpos (starEach (ez :: []) X.env)).all (fun x => !x.1) && (backToKw cpos (keywordEach [] X.env)).all (fun x => x.1.isSome)
      && decide ((ez :: []).length + ([] : List Keyword).length + (if ([] : List Keyword).isEmpty then 0 else 1) < 30)) = true := by rfl)
    (hline : (apos.endLine == cpos.line) = true := by rfl) (hs : starEach (ez :: []) X.env = (false, eval ez X.env) :: starEach [] X.env := by rfl) (hplain : (backTo cpos (starEach [] X.env)).any (·.1) = false := by rfl)
    (hsw : swapsWith (.Call (.Attribute e "append" apos) [ez] [] cpos) none pos.line X.env = pure false := by rfl) : DS X j (.Expr (.Call (.Attribute e "append" apos) [ez] [] cpos) pos) (appJ da) :=
  PS.mono (ps_expr (pe_bm PySem.F.plainAttrs_list PySem.F.slot_list_append PySem.F.type_list_append mt_append h (pa_cons hz pa_nil hs) hbase hfew hline hs hplain) hsw) fun Dn σ H ⟨W, F, env, rel, q⟩ => ⟨W, F, env, rel, by
    unfold appJ at q
    cases o : da env with
    | bad => rw [o] at q; exact q.elim
    | ex c fs env1 => rw [o] at q; exact q.elim
    | ok d env1 =>
      rw [o] at q
      intro W1 F1 H1 v r1 x1 w1
      clear o
      cases d with
      | ml L =>
        simp only at q
        by_cases hl : L.length < sizeLine
        · rw [if_pos hl] at q
          cases w1 with
          | fz h => cases h
          | @ml _ b vs _ f1 f2 f3 =>
            refine ⟨.inl ⟨rfl, _, SqL.of f2⟩, ⟨b, vs, vz, rfl, rfl, f2, by rw [← f3.length]; exact hl, ?_⟩⟩
            exact q W1 F1 _ _ (r1.updJunk (us := vs ++ [vz]) (k := 0) f1 f2 fun n d _ _ => by omega) x1
        · rw [if_neg hl] at q
          exact q.elim
      | _ => exact q.elim⟩
end
@[simp] theorem isG_ins (c : Str) (l : List D) : isG c (.ins c l) = some (.bl true) := if_pos rfl
@[simp] theorem appJ_ap (da : List D → R D) (env : List D) : appJ da env = match da env with
  | .ok (.ml L) env1 => if L.length < sizeLine then .nx env1 else .bad
  | _ => .bad := rfl
end DL
namespace DL
open PySem PySem.Spec PyProof.Rows L2
mutual
def noL : D → Bool
  | .non => true
  | .bl _ => true
  | .int _ => true
  | .str _ => true
  | .tup l => noLs l
  | .ins _ l => noLs l
  | _ => false
def noLs : List D → Bool
  | [] => true
  | d :: l => noL d && noLs l
end
mutual
theorem Rp.noL {M : Mo} {F F' : Hp} (k : ∀ b o, F b = some o → (∀ xs, o ≠ .lst xs) → F' b = some o) : ∀ {d : D} {v : V}, Rp M F d v → noL d = true → Rp M F' d v
  | _, _, .non, _ => .non
  | _, _, .bl b, _ => .bl b
  | _, _, .int i, _ => .int i
  | _, _, .str s, _ => .str s
  | _, _, .tup h q, e => .tup (k _ _ h fun _ z => by cases z) (RpL.noL k q (by unfold DL.noL at e; exact e))
  | _, _, .ctp _ _, e => by simp [DL.noL] at e
  | _, _, .lst _ _, e => by simp [DL.noL] at e
  | _, _, .ins h1 h0 h2 q, e => .ins h1 h0 (k _ _ h2 fun _ z => by cases z) (RpL.noL k q (by unfold DL.noL at e; exact e))
  | _, _, .dic _ _ _, e => by simp [DL.noL] at e
  | _, _, .dct _ _ _, e => by simp [DL.noL] at e
  | _, _, .dcl _ _ _, e => by simp [DL.noL] at e
theorem RpL.noL {M : Mo} {F F' : Hp} (k : ∀ b o, F b = some o → (∀ xs, o ≠ .lst xs) → F' b = some o) : ∀ {l : List D} {xs : List V}, RpL M F l xs → noLs l = true → RpL M F' l xs
  | _, _, .nil, _ => .nil
  | _, _, .cons h q, e => by
    unfold noLs at e
    rw [Bool.and_eq_true] at e
    exact .cons (Rp.noL k h e.1) (RpL.noL k q e.2)
end
/-- all that is owned is out of sight -/
def hidE (env : List D) : List D := env.map fun d => if isOwn d = true then .unb else d
def lendN (i : Nat) (da : List D → R D) : List D → R D := fun env => match listAt env i with
  | some l => if flatL l = true then match da ((hidE env).set i (.lst l)) with
    | .ok d _ => if noL d = true then .ok d env else .bad
    | _ => .bad
    else .bad
  | none => .bad
section
variable {X : Cx} {j : J} {e : Expr} {da : List D → R D}
theorem Rel.lend {M : Mo} {en : Ent} {W : Own} {F H : Hp} {env : List D} {σ : L2.St} {i : Nat} {l : List D} (r : Rel M en W F H env σ) (hl : listAt env i = some l) (hf : flatL l = true) :
    ∃ a xs, W a = some [i + 1] ∧ H a = some (.lst xs) ∧ Rel M ⟨H, upd F a (.lst xs), fun _ => none, en.P⟩ (fun _ => none) (upd F a (.lst xs)) H ((hidE env).set i (.lst l)) σ := by
  obtain ⟨a, xs, s1, w1, h1, ol⟩ := r.list hl
  have sp := (r.sep a (by rw [w1]; simp)).1
  have pl := ol.flat hf
  have x : Ex F (upd F a (.lst xs)) := fun b o h => by
    by_cases z : b = a
    · rw [z, sp] at h; cases h
    · rw [upd_ne z]; exact h
  refine ⟨a, xs, w1, h1, ⟨⟨fun _ _ _ h => h, Ex.refl _, fun b o h => ?_, fun b h => absurd rfl h, fun b c q h => (by cases h), fun b h => .inl h, fun b h => h, fun b o _ h => h, fun b o _ h _ => h, fun b h => absurd rfl h⟩, ?_, fun n d h1 h2 => ?_, r.pin⟩⟩
  · by_cases z : b = a
    · rw [z, upd_same] at h; rw [z, h1]; exact h
    · rw [upd_ne z] at h; exact r.exF b o h
  · rw [List.length_set]
    unfold hidE
    rw [List.length_map]
    exact r.len
  · by_cases z : i = n
    · subst z
      have hlt := (List.getElem?_eq_some_iff.mp h1).1
      rw [List.length_set] at hlt
      rw [List.getElem?_set_self hlt] at h1
      cases h1
      exact ⟨_, s1, .fz (.lst (SqL.of upd_same) (pl.mono x))⟩
    · rw [List.getElem?_set_ne z] at h1
      unfold hidE at h1
      rw [List.getElem?_map] at h1
      cases o : env[n]? with
      | none => rw [o] at h1; cases h1
      | some d0 =>
        rw [o] at h1
        simp only [Option.map_some, Option.some.injEq] at h1
        by_cases ho : isOwn d0 = true
        · rw [if_pos ho] at h1
          exact absurd h1.symm h2
        · rw [if_neg ho] at h1
          subst h1
          obtain ⟨v, h3, h4⟩ := r.slot n d0 o h2
          exact ⟨v, h3, .fz ((h4.rp (by simpa using ho)).mono x)⟩
theorem e_lendN (i : Nat) (ha : ∀ e' : Ent, e'.P = j.e.P → DE X ⟨e', j.wx⟩ e da) : DE X j e (lendN i da) := by
  let te : TE := fun σ H Q => ∃ F0, tE (mo X) ⟨⟨H, F0, fun _ => none, j.e.P⟩, j.wx⟩ da σ H Q
  have he : PE X e te := ⟨fun pins s σ H Q I ⟨F0, q⟩ => (ha ⟨H, F0, fun _ => none, j.e.P⟩ rfl).run pins s σ H Q I q⟩
  refine PE.mono he fun σ H Q ⟨W, F, env, rel, q⟩ => ?_
  unfold lendN at q
  cases o : listAt env i with
  | none => rw [o] at q; exact q.elim
  | some l =>
    rw [o] at q
    simp only at q
    by_cases hf : flatL l = true
    · rw [if_pos hf] at q
      obtain ⟨a, xs, w1, h1, r'⟩ := rel.lend o hf
      refine ⟨upd F a (.lst xs), fun _ => none, upd F a (.lst xs), _, r', ?_⟩
      have sp := (rel.sep a (by rw [w1]; simp)).1
      cases oe : da ((hidE env).set i (.lst l)) with
      | bad => rw [oe] at q; exact q.elim
      | ex c fs env1 => rw [oe] at q; exact q.elim
      | ok d env1 =>
        rw [oe] at q
        simp only at q
        by_cases hn : noL d = true
        · rw [if_pos hn] at q
          intro W1 F1 H1 v r1 x1 p1
          have F1a : F1 a = some (.lst xs) := x1 a _ upd_same
          have g : Grow F H (fun b => if b = a then none else F1 b) H1 := by
            refine ⟨fun b u h => ?_, fun b u h => r1.pres b u rfl h, fun b u h => ?_, fun b h => ?_⟩
            · have z : b ≠ a := fun z => by rw [z, sp] at h; cases h
              show (if b = a then none else F1 b) = some u
              rw [if_neg z]
              exact x1 b u (by rw [upd_ne z]; exact h)
            · have h : (if b = a then none else F1 b) = some u := h
              by_cases z : b = a
              · rw [if_pos z] at h; cases h
              · rw [if_neg z] at h; exact r1.exF b u h
            · have h : (if b = a then none else F1 b) ≠ none := h
              by_cases z : b = a
              · rw [if_pos z] at h; exact absurd rfl h
              · rw [if_neg z] at h
                rcases r1.new b h with y | y | y
                · have y : upd F a (.lst xs) b ≠ none := y
                  rw [upd_ne z] at y
                  exact .inl y
                · exact .inr (.inl y)
                · exact .inr (.inr y)
          refine q W _ H1 v (rel.grow g) g.exF (p1.noL (fun b u h hu => ?_) hn)
          show (if b = a then none else F1 b) = some u
          have z : b ≠ a := fun z => by
            rw [z, F1a] at h
            cases h
            exact hu xs rfl
          rw [if_neg z]
          exact h
        · rw [if_neg hn] at q
          exact q.elim
    · rw [if_neg hf] at q
      exact q.elim
end
@[simp] theorem hidE_nil : hidE [] = [] := rfl
@[simp] theorem hidE_cons (d : D) (l : List D) : hidE (d :: l) = (if isOwn d = true then .unb else d) :: hidE l := rfl
@[simp] theorem lendN_ap (i : Nat) (da : List D → R D) (env : List D) : lendN i da env = match listAt env i with
  | some l => if flatL l = true then match da ((hidE env).set i (.lst l)) with
    | .ok d _ => if noL d = true then .ok d env else .bad
    | _ => .bad
    else .bad
  | none => .bad := rfl
end DL
namespace DL
open PySem PySem.Spec PyProof.Rows L2
/-- a frame's note of an exception asks the frame alone -/
theorem note_frame {e : Value} {E1 E2 : Env} (h : E1.frame = E2.frame) : noteFrame e E1 = noteFrame e E2 := by
  unfold noteFrame PySem.frameOf
  rw [h]
/-- what flies, is new, or was noted anywhere, is noted by this frame -/
theorem note_sky {M : Model} {A : Around} {E : Value → Shared → Prop} {s : Shared} {Z : Obj → Prop} {B : Heap} {env : Env} {outer : List Env} {L Lx a : Addr} {Q : Unit → Shared → Prop} (hZ : HandSPX.Steady Z)
    (hfr : A.frames = some (env :: outer)) (hf : env.frame = some L) (x : Sky B (env :: outer) a Z Lx s.heap)
    (k : ∀ h', HandSPX.HeldZ B (env :: outer) a Z L h' → s.heap.UpToSlots h' → Q () { s with heap := h' }) : wpAny M A (noteFrame (.ref a) env) Q E s := by
  rcases x with ⟨hB, hn, hl, oe, vs, he, hz, hd, h1⟩ | fl | hh
  · exact HandSPX.look_newZ hZ hfr hl hf he hB hn hd h1 hz k
  · exact HandSPX.looks_onZ hZ hfr hf fl k
  · by_cases hL : Lx = L
    · subst hL
      exact HandSPX.againZ hf hh.2.2.2 (k s.heap hh (Heap.UpToSlots.refl _))
    · obtain ⟨g1, g2, g3, ob, fv, T, oT, tv, q1, q2, q3, q4, q5, q6, q7, q8, q9⟩ := hh
      have out : ∀ b, b ≠ T → (s.heap.update T (Obj.mapFields fun t => t.setIfInBounds 3 Value.none)).get? b = s.heap.get? b := fun b z => Heap.get?_update_other _ _ fun w => z w.symm
      have noT : ∀ b o, s.heap.get? b = some o → (∀ v, o.data ≠ .fields v) → b ≠ T := by
        intro b o z nf w
        rw [w, q7] at z
        cases z
        exact nf _ q8
      have ground : B.StaysIn (s.heap.update T (Obj.mapFields fun t => t.setIfInBounds 3 Value.none)) := by
        intro b o z
        refine (out b fun w => ?_).trans (g1 b o z)
        rw [w, q5] at z
        cases z
      unfold noteFrame
      simp only [hf]
      refine wpAny_bind (wpAny_field q1 q3 q4 ?_)
      rw [if_pos (by simp)]
      refine wpAny_bind (wpAny_field q7 q8 q9 ?_)
      rw [if_neg (by
        simp [rawInt]
        exact fun z => hL (Int.ofNat.inj z))]
      refine wpAny_bind (wpAny_setField q7 q8 (Array.getElem?_eq_some_iff.mp q9).1 ?_)
      refine HandSPX.wpAny_entryZ hZ hfr (g3.of_keeps fun b o z nf => ⟨o, (out b (noT b o z nf)).trans z, rfl⟩) hf ((out a fun w => q6 w.symm).trans q1) ground g2 q3 (Array.getElem?_eq_some_iff.mp q4).1 q2 ?_
      rintro h' ⟨n1, n2, n3, n4⟩
      exact k h' ⟨n1, g2, n2, n3⟩ fun b o z nf => n4 b o ((out b (noT b o z nf)).trans z) nf
/-- what a comprehension's block leaves: as the library has it, but an exception goes on from the block's own place -/
def cpX (M : Model) (A : Around) (E : Value → Shared → Prop) (use : Option (Value → Sem Unit)) (Q : Value → Shared → Prop) (acc : Value) (cenv : Env) : Result → Shared → Prop
  | .ok f, s' => compPost M A E use Q acc cenv.locals (.ok f) s'
  | .error x, s' => ∃ m, s'.heap.Ns cenv.locals m ∧ ∀ h', Heap.SameBut cenv.locals s'.heap h' → wpAny M A (passOn "comprehension.variables-let-go" x cenv : Sem Value) (fun _ _ => False) E { s' with heap := h' }
theorem comp_raise {M : Model} {A : Around} {E : Value → Shared → Prop} {s : Shared} {env : Env} {e : Expr} {scope : Scope} {pos : Pos} {newAcc first : Sem Value} {g : Comprehension} {gs : List Comprehension} {cl : List (Str × Addr)} {use : Option (Value → Sem Unit)}
    {Q : Value → Shared → Prop} (hcl : clausesOf e = g :: gs) (hs : ∀ x, foldedSetIterable g.iter env x = pure x) (hclos : closureFor scope env = pure cl) (hkind : scope.kind = .function) (hn : ∀ x ∈ scope.names, x.2 = .local → scope.names.lookup x.1 = some .local)
    (h : wpAny M A first (fun x s1 => wpAny M A (pyIter x) (fun it s2 => wpAny M A newAcc (fun acc s3 => wpAny M A (newFunctionEnv scope env.globals cl [] env.qual none .none (some env)) (fun cenv s4 =>
        codeAny M A (.compStart e 0 it acc { cenv with scope := relabel scope env }) (cpX M A E use Q acc { cenv with scope := relabel scope env }) s4) E s3) E s2) E s1) E s) :
    wpAny M A (comprehension e scope env pos newAcc false first use) Q E s := by
  unfold comprehension
  rw [hclos, hcl]
  refine wpAny_bind (wpAny_mono h ?_ fun _ _ z => z)
  intro x s1 h1
  refine wpAny_bind (wpAny_standAt (wpAny_bind (wpAny_of_eq (hs x) (wpAny_bind (wpAny_holding (wpAny_mono h1 ?_ fun _ _ z => z))))))
  intro it s2 h2
  refine wpAny_standIf (wpAny_bind (wpAny_mono h2 ?_ fun _ _ z => z))
  intro acc s3 h3
  refine wpAny_bind (wpAny_pure (wpAny_bind (wpAny_mono h3 ?_ fun _ _ z => z)))
  intro cenv s4 h4
  dsimp only
  have own : ∀ x ∈ (scope.names.filter fun x => (x.2 == .local || x.2 == .cell) && x.1 != (".0" : Str)).reverse, x.2 = .local → Env.kindOf { cenv with scope := relabel scope env } x.1 = some .local :=
    fun x hx hl => lookup_relabel_local (hn x (List.mem_filter.mp (List.mem_reverse.mp hx)).1 hl)
  refine wpAny_holding (wpAny_bind (wpAny_attempt (wpAny_holding (wpAny_run (codeAny_mono h4 ?_)))))
  intro r s5 hr
  cases r with
  | error x =>
    have hr : ∃ m, s5.heap.Ns cenv.locals m ∧ ∀ h', Heap.SameBut cenv.locals s5.heap h' → wpAny M A (passOn "comprehension.variables-let-go" x { cenv with scope := relabel scope env } : Sem Value) (fun _ _ => False) E { s5 with heap := h' } := hr
    obtain ⟨m, hm, hr⟩ := hr
    refine wpAny_bind (wpAny_holding (wpAny_comp_letGo (cenv := { cenv with scope := relabel scope env }) hkind _ s5 m own hm ?_))
    intro h' m' _ sb
    exact wpAny_mono (hr h' sb) (fun _ _ z => z.elim) fun _ _ z => z
  | ok f => cases use with
    | none =>
      obtain ⟨m, hm, hr⟩ := hr
      exact wpAny_bind (wpAny_holding (wpAny_comp_letGo (cenv := { cenv with scope := relabel scope env }) hkind _ s5 m own hm fun h' m' _ sb => wpAny_pure (hr h' sb)))
    | some u =>
      refine wpAny_bind (wpAny_rule (wpAny_bind (wpAny_holding (wpAny_mono hr ?_ fun _ _ z => z))))
      rintro _ s6 ⟨m, hm, hr'⟩
      refine wpAny_bind (wpAny_comp_letGo (cenv := { cenv with scope := relabel scope env }) hkind _ s6 m (fun x hx hl => ?_) hm fun h' m' _ sb => wpAny_pure (hr' h' sb))
      exact (List.mem_append.mp hx).elim (fun z => own x (List.mem_of_mem_drop z) hl) fun z => own x (List.mem_of_mem_take z) hl
/-- a heap with one place hidden -/
def hid1 (h : Heap) (C : Addr) : Heap := PySem.W.hideAll h [C]
theorem hid1_get {h : Heap} {C b : Addr} {o : Obj} (e : h.get? b = some o) (n : b ≠ C) : (hid1 h C).get? b = some o := PySem.W.hideAll_get _ e (by simpa using n)
theorem hid1_of {h : Heap} {C b : Addr} {o : Obj} (e : (hid1 h C).get? b = some o) : b ≠ C ∧ h.get? b = some o := by
  refine ⟨?_, PySem.W.of_hideAll _ e⟩
  intro z
  have q : (hid1 h C).get? b = none := PySem.W.hideAll_none _ (by simp [z])
  rw [q] at e
  cases e
section
variable {X : Cx} {scope : Scope} {fp : List Addr}
/-- an exception of a block's element is the exception of the def that it stands in -/
theorem takes_blk {W : WX} {pins : List (Addr × Obj)} {σ : L2.St} {HC : Hp} {sC : Shared} {Eb : Env} {pnB : List (Addr × Obj)} {use : Option (Value → Sem Unit)} {Qe : Value → Shared → Prop} {acc : Value}
    (hst : X.stack = X.env :: X.outer) (hf : X.env.frame = some X.env.locals) (tk : Takes X W) (IC : Inv X pins σ HC sC) (eL : Eb.locals = sC.heap.objs.size) (eF : Eb.frame = X.env.frame) (freeC : ∀ b ∈ fp, FpOk X pins HC b ∧ b < sC.heap.objs.size) :
    Takes ((X.blk sC HC scope Eb fp).tr pnB (notedBy (model X.prog X.w) X.A Eb fun e s' => cpX (model X.prog X.w) X.A X.xe use Qe acc Eb (.error e) s')) (fun cls d _ H => W cls d σ H) := by
  rintro u s1 ⟨a, B, sI, pins', σ', H', cls, d, rfl, J, nb, up, sky, na, os, ag, w⟩
  show wpAny (model X.prog X.w) X.A (noteFrame (.ref a) Eb) _ _ s1
  rw [note_frame eF]
  have sky : Sky B (X.env :: X.outer) a (Zc cls d) Eb.locals s1.heap := by
    rw [← hst]
    exact sky
  have hfr : X.A.frames = some (X.env :: X.outer) := by rw [IC.ok.frames, hst]
  refine note_sky Zc.steady hfr hf sky ?_
  intro h1 held1 up1
  have J1 := J.landed nb (s' := { s1 with heap := h1 }) held1.1 (up.trans up1) os ag
  obtain ⟨mm, hm, _⟩ := J1.loc
  have noC : H' sC.heap.objs.size = none := by
    have z : H' Eb.locals = none := J.free
    rwa [eL] at z
  obtain ⟨f0, f1, f2, f3, f4, f5⟩ := IC.fpOk (Nat.le_refl _) noC
  have notFr : sC.heap.objs.size ∉ frs X.stack := by
    intro z
    rw [hst] at z
    obtain ⟨e, he, hq⟩ := List.mem_filterMap.mp z
    rcases List.mem_cons.mp he with y | y
    · rw [y, hf] at hq
      exact f1 (Option.some.inj hq).symm
    · exact f2 (List.mem_filterMap.mpr ⟨e, y, hq⟩)
  refine ⟨mm, hm, ?_⟩
  intro h2 sb
  -- the block's own dict is there, on the ground
  have there : ∃ oC, B.get? sC.heap.objs.size = some oC := by
    obtain ⟨m0, ⟨oC, _, _, hoC, _⟩, _⟩ := J.loc
    have hoC : sI.heap.get? Eb.locals = some oC := hoC
    rw [eL] at hoC
    exact ⟨oC, nb _ _ hoC notFr⟩
  obtain ⟨oC, hoC⟩ := there
  have sb : ∀ b, b ≠ sC.heap.objs.size → h2.get? b = h1.get? b := fun b hb => sb.2 b (by
    rw [eL]
    exact hb)
  have hold2 : HandSPX.HeldZ (hid1 B sC.heap.objs.size) X.stack a (Zc cls d) X.env.locals h2 := by
    obtain ⟨g1, g2, g3, ob, fv, T, oT, tv, q1, q2, q3, q4, q5, q6, q7, q8, q9⟩ := held1
    have aC : a ≠ sC.heap.objs.size := fun z => by
      rw [z, hoC] at g2
      cases g2
    have tC : T ≠ sC.heap.objs.size := fun z => by
      rw [z, hoC] at q5
      cases q5
    have off : ∀ b, B.get? b = none → (hid1 B sC.heap.objs.size).get? b = none := fun b hb => by
      cases z : (hid1 B sC.heap.objs.size).get? b with
      | none => rfl
      | some o =>
        have y := (hid1_of z).2
        rw [hb] at y
        cases y
    rw [hst]
    refine ⟨fun b o z => ?_, off a g2, ?_, ob, fv, T, oT, tv, (sb a aC).trans q1, q2, q3, q4, off T q5, q6, (sb T tC).trans q7, q8, q9⟩
    · obtain ⟨z1, z2⟩ := hid1_of z
      exact (sb b z1).trans (g1 b o z2)
    · have frC : ∀ l : List Env, sC.heap.objs.size ∉ frs l → h1.FunFrames B l → h2.FunFrames (hid1 B sC.heap.objs.size) l := by
        intro l
        induction l with
        | nil => exact fun _ _ => trivial
        | cons e r ih =>
          intro nC hl
          obtain ⟨k1, ⟨L, o, k2, k3, k4, k5⟩, k6⟩ := hl
          have hL : L ≠ sC.heap.objs.size := fun z => nC (List.mem_filterMap.mpr ⟨e, List.mem_cons_self, by rw [k2, z]⟩)
          exact ⟨k1, ⟨L, o, k2, off L k3, (sb L hL).trans k4, k5⟩, ih (fun z => by
            obtain ⟨e', he', hq⟩ := List.mem_filterMap.mp z
            exact nC (List.mem_filterMap.mpr ⟨e', List.mem_cons_of_mem _ he', hq⟩)) k6⟩
      exact frC _ (by rw [← hst]; exact notFr) g3
  obtain ⟨oe, fv, T, _, _, q1, _, q3, q4, _⟩ := id hold2.2.2.2
  unfold PySem.passOn
  refine wpAny_bind (wpAny_field q1 q3 q4 ?_)
  rw [if_neg (by simp)]
  have fin : wpAny (model X.prog X.w) X.A (setFlight (.ref a) Eb.frame) (fun _ s4 => wpAny (model X.prog X.w) X.A (throw (.ref a) : Sem Value) (fun _ _ => False) X.xe s4) X.xe { s1 with heap := h2 } := by
    rw [eF, hf]
    refine HandSPX.setFlight_onZ (s := { s1 with heap := h2 }) hold2 ?_
    intro h3 held3 up3
    refine wpAny_throw (tk _ _ ?_)
    have I1 : Inv X pins σ H' sI := IC.call' (ch := fp) J.os J.base J.hok J.bare fun b hb => by
      have z := (freeC b hb).1
      exact ⟨z.2.2.2.1, z.2.1, z.2.2.2.2.1, z.2.2.2.2.2⟩
    have I2 := I1.turned (h' := hid1 sI.heap sC.heap.objs.size) (t' := sI.toks) (it := sC.heap.objs.size) (fun b o hb z => hid1_get z hb) f0 f1 f3 f4 f5
    refine ⟨a, hid1 B sC.heap.objs.size, _, pins, σ, H', cls, d, rfl, I2, fun b o z hb => ?_, fun b o z nf => ?_, .inr (.inr held3), na, os, ag, w⟩
    · obtain ⟨z1, z2⟩ := hid1_of z
      exact hid1_get (nb b o z2 hb) z1
    · obtain ⟨z1, z2⟩ := hid1_of z
      obtain ⟨sl1, y1⟩ := up b o z2 nf
      obtain ⟨sl2, y2⟩ := up1 b _ y1 nf
      have y3 : h2.get? b = some { o with slots := sl2 } := (sb b z1).trans y2
      obtain ⟨sl3, y4⟩ := up3 b _ y3 nf
      exact ⟨sl3, y4⟩
  first
    | exact wpAny_bind (wpAny_pure (wpAny_bind fin))
    | exact wpAny_bind fin
end
/-- .. its turn: the element's judgement knows what the def wishes of an exception -/
def tLcX (wi : TI) (g : TG) (tt : TT) (te : XK → TE) (vs : List Nat) (W : WX) : TE := fun σ H Q => tLc wi g tt (te fun cls d H' => W cls d σ H') vs σ H Q
section
variable {X : Cx} {elt tg iter : Expr} {ifs : List Expr} {scope : Scope} {pos : Pos} {own : List (Str × Nat)}
theorem lcX_core {W0 : WX} {pins : List (Addr × Obj)} {s : Shared} {σ : L2.St} {H : Hp} {Q : VK} {pos' : Pos} {use : Option (Value → Sem Unit)} {Qe : Value → Shared → Prop} {wi : TI} {gt : TG} {tt : TT} {te : XK → TE}
    (hst : X.stack = X.env :: X.outer) (hf : X.env.frame = some X.env.locals) (tk : Takes X W0) (hc : X.calm = true) (hN : X.N.Nodup) (hi : PI X tg iter wi) (ok : BlkOk X.N X.env.scope scope own)
    (hg : ∀ (s : Shared) (H : Hp) (C : Addr) (cl : List (Str × Addr)) (fp : List Addr), PG (X.blk s H scope (compEnvC scope cl C X.env) fp) tg gt)
    (ht : ∀ (s : Shared) (H : Hp) (C : Addr) (cl : List (Str × Addr)) (fp : List Addr), PTs (X.blk s H scope (compEnvC scope cl C X.env) fp) ifs tt)
    (he : ∀ (s : Shared) (H : Hp) (C : Addr) (cl : List (Str × Addr)) (fp : List Addr) (xk : XK) (pn : List (Addr × Obj)) (xe : Value → Shared → Prop), Takes ((X.blk s H scope (compEnvC scope cl C X.env) fp).tr pn xe) (fun cls d _ H' => xk cls d H') →
      PE ((X.blk s H scope (compEnvC scope cl C X.env) fp).tr pn xe) elt (te xk))
    (hs : ∀ x, foldedSetIterable iter X.env x = pure x) (I : Inv X pins σ H s) (want : tLcX wi gt tt te (own.map (·.2)) W0 σ H Q)
    (hEnd : ∀ D C s' m H', Inv X pins σ H' s' → Q (.ref D) H' → s'.heap.Ns C m → FpOk X pins H' C → compPost (model X.prog X.w) X.A X.xe use Qe (.ref D) C (.ok .next) s') :
    wpAny (model X.prog X.w) X.A (comprehension (.ListComp elt [⟨tg, iter, ifs, 0⟩] scope pos) scope X.env pos' (newList []) false (eval iter X.env) use) Qe X.xe s := by
  have cells : ∀ y ∈ scope.names, y.2 = .free → ∃ c, X.env.cells.lookup y.1 = some c := by
    intro y hy e
    exact (ok.free y hy e).elim (fun k => I.ok.has _ (.inl k)) fun k => I.ok.has _ (.inr k)
  refine comp_raise (use := use) rfl hs (closure_ok cells) ok.kind (fun y hy e => by rw [ok.uniq y hy, e]) ?_
  have want : tLc wi gt tt (te fun cls d H' => W0 cls d σ H') (own.map (·.2)) σ H Q := want
  refine thn (hi.run pins s σ H _ I want) ?_
  intro itbl sA seen
  refine thn seen ?_
  rintro itv sB ⟨it, fp, turnAt, J, HB, rfl, IB, TB, stB, freeB, more⟩
  refine wpAny_newObj_type ?_
  refine newEnv_comp ?_
  generalize eD : sB.heap.objs.size = Dn
  have noD : HB Dn = none := IB.hok.fresh (by omega)
  obtain ⟨W, ⟨m0, start⟩, each⟩ := more Dn noD
  let obj0 : Obj := { cls := .type "list", data := .seq ([] : List Value).toArray }
  generalize eC : ({ sB with heap := sB.heap.push obj0 } : Shared) = sC
  have heapC : sC.heap = sB.heap.push obj0 := by subst eC; rfl
  have IC : Inv X pins σ (upd HB Dn (.lst [])) sC := by
    subst eC
    refine IB.laid (fun b o z => Heap.get?_push_of_some _ z) (by omega) ?_
    refine ⟨Nat.zero_le _, [], 0, .nil, ?_⟩
    subst eD
    exact Heap.get?_push_size _ rfl
  have lowB : ∀ b ∈ fp, b < sB.heap.objs.size := by
    intro b hb
    obtain ⟨o, z, _⟩ := TB.obj _ _ stB b hb
    exact Heap.lt_size z
  have freeC : ∀ b ∈ fp, FpOk X pins (upd HB Dn (.lst [])) b ∧ b < sC.heap.objs.size := by
    intro b hb
    have lo := lowB b hb
    have ne : b ≠ Dn := Nat.ne_of_lt (eD ▸ lo)
    refine ⟨⟨(upd_ne ne).trans (freeB b hb).1, (freeB b hb).2⟩, ?_⟩
    rw [heapC, Heap.size_push]
    exact Nat.lt_succ_of_lt lo
  have stC : turnAt 0 sC.heap := TB.keep _ _ _ stB (by
    intro b _ o z
    rw [heapC]
    exact Heap.get?_push_of_some _ z)
  have ID := block_start IC ok hN freeC
  generalize eH : upd HB Dn (.lst []) = HC at IC ID start freeC
  have noFp : ∀ b ∈ fp, HC b = none := fun b hb => (freeC b hb).1.1
  have rg := hg sC HC sC.heap.objs.size (cellsFrom (sC.heap.objs.size + 1) scope.names (cloFrom X.env.cells scope.names [])) fp
  have rt := ht sC HC sC.heap.objs.size (cellsFrom (sC.heap.objs.size + 1) scope.names (cloFrom X.env.cells scope.names [])) fp
  have re := he sC HC sC.heap.objs.size (cellsFrom (sC.heap.objs.size + 1) scope.names (cloFrom X.env.cells scope.names [])) fp
  show codeAny _ _ (.compStart (.ListComp elt [⟨tg, iter, ifs, 0⟩] scope pos) 0 (.ref it) (.ref Dn) (compEnvC scope (cellsFrom (sC.heap.objs.size + 1) scope.names (cloFrom X.env.cells scope.names [])) sC.heap.objs.size X.env))
    (cpX (model X.prog X.w) X.A X.xe use Qe (.ref Dn) (compEnvC scope (cellsFrom (sC.heap.objs.size + 1) scope.names (cloFrom X.env.cells scope.names [])) sC.heap.objs.size X.env)) { sC with heap := pushCells (sC.heap.push { cls := .type "dict", data := .dict #[] }) scope.names }
  generalize eE : compEnvC scope (cellsFrom (sC.heap.objs.size + 1) scope.names (cloFrom X.env.cells scope.names [])) sC.heap.objs.size X.env = E at ID rg rt re ⊢
  have locE : E.locals = sC.heap.objs.size := by subst eE; rfl
  have frmE : E.frame = X.env.frame := by subst eE; rfl
  generalize eS : ({ sC with heap := pushCells (sC.heap.push { cls := .type "dict", data := .dict #[] }) scope.names } : Shared) = sD at ID ⊢
  have stD : turnAt 0 sD.heap := TB.keep _ _ _ stC (by
    intro b _ o z
    subst eS
    exact pushCells_keeps _ _ _ _ (Heap.get?_push_of_some _ z))
  have held : ∀ {σ' : L2.St} {H' : Hp} {s' : Shared}, Inv (X.blk sC HC scope E fp) [] σ' H' s' → (∀ b ∈ fp, H' b = none) → ∀ b ∈ fp, FpOk (X.blk sC HC scope E fp) [] H' b := by
    intro σ' H' s' I' no b hb
    refine ⟨no b hb, (I'.ok.exf b hb).1, I'.ok.exfs b hb, .inl hb, fun x c z => (I'.ok.exf b hb).2 x c z, ?_⟩
    intro p hp
    exact absurd (show p ∈ ([] : List (Addr × Obj)) ++ [] from hp) (by simp)
  refine codeAny_compStart_list ?loop (TB.self X.A 0 _ _ _ stD ?loop)
  refine L2.compLoop_any (fun n s' => ∃ i H', Inv (X.blk sC HC scope E fp) [] (wipe σ (own.map (·.2))) H' s' ∧ turnAt i s'.heap ∧ (∀ b ∈ fp, H' b = none) ∧ W i n H') ?_ m0 ⟨0, HC, ID, stD, noFp, start⟩
  rintro n s1 ⟨i, H1, I1, st1, no1, w1⟩
  rcases each i n H1 w1 with ⟨atEnd, won⟩ | ⟨goes, Nx, less, turn⟩
  · -- no more
    refine thnF (TB.done (X.blk sC HC scope E fp) rfl rfl rfl hc i [] s1 _ H1 (fun _ _ => False) I1 (held I1 no1) st1 atEnd) ?_
    rintro r s2 ⟨rfl, I2⟩
    have out : Inv X pins σ H1 s2 := IC.call' (ch := fp) I2.os I2.base I2.hok I2.bare fun b hb => by
      have z := (freeC b hb).1
      exact ⟨z.2.2.2.1, z.2.1, z.2.2.2.2.1, z.2.2.2.2.2⟩
    have noC : H1 sC.heap.objs.size = none := by
      have z : H1 E.locals = none := I2.free
      rwa [locE] at z
    obtain ⟨mm, hn, _⟩ := I2.loc
    have hn : s2.heap.Ns E.locals mm := hn
    show compPost (model X.prog X.w) X.A X.xe use Qe (.ref Dn) E.locals (.ok .next) s2
    rw [locE] at hn ⊢
    exact hEnd Dn sC.heap.objs.size s2 mm H1 out won hn (IC.fpOk (Nat.le_refl _) noC)
  · -- one more
    refine thnF (TB.item (X.blk sC HC scope E fp) rfl rfl rfl hc i [] s1 _ H1 (fun _ _ => False) I1 (held I1 no1) st1 goes) ?_
    rintro r s2 ⟨u, rfl, got⟩
    refine thnF got ?_
    rintro _ s3 ⟨x, H3, I3, rx, yx, st3, no3⟩
    have I3' := I3.pinned (held I3 no3) (TB.obj _ _ st3)
    refine thnF (rg.run _ s3 _ H3 x u _ I3' rx (turn x H3 yx)) ?_
    rintro _ s4 ⟨σ4, H4, I4, hw4, q4⟩
    refine thnF (rt.run _ s4 σ4 H4 _ I4 q4) ?_
    rintro b s5 ⟨H5, I5, q5⟩
    have close : ∀ {s' : Shared} {H' : Hp}, Inv (X.blk sC HC scope E fp) ([] ++ pinsAt fp s3.heap) σ4 H' s' → Nx H' → ∃ m, m < n ∧ ∃ i H', Inv (X.blk sC HC scope E fp) [] (wipe σ (own.map (·.2))) H' s' ∧ turnAt i s'.heap ∧ (∀ b ∈ fp, H' b = none) ∧ W i m H' := by
      intro s' H' I' nx
      obtain ⟨m', lt, w'⟩ := less H' nx
      have kept : ∀ b ∈ fp, ∀ o, s3.heap.get? b = some o → s'.heap.get? b = some o ∧ H' b = none := by
        intro b hb o z
        have y := I'.pin (b, o) (List.mem_append_right _ (List.mem_append_right _ (mem_pinsAt hb z)))
        exact ⟨y.1, y.2.1⟩
      refine ⟨m', lt, i + 1, H', (I'.unpinned (pins := [])).weak ?_ ?_, ?_, ?_, w'⟩
      · rw [← hw4, wipe_length]
      · intro k v z
        rw [← hw4] at z
        exact (wipe_some z).1
      · exact TB.keep _ _ _ st3 fun b hb o z => (kept b hb o z).1
      · intro b hb
        obtain ⟨o, z, _⟩ := TB.obj _ _ st3 b hb
        exact (kept b hb o z).2
    cases b with
    | false => exact close I5 q5
    | true =>
      have tb := takes_blk (scope := scope) (use := use) (Qe := Qe) (acc := .ref Dn) (pnB := (X.blk sC HC scope E fp).pn ++ ([] ++ pinsAt fp s3.heap)) hst hf tk IC locE frmE freeC
      refine wpAny_mono ((re (fun cls d H' => W0 cls d σ H') _ _ tb).run [] s5 σ4 H5 _ (I5.toTry _) q5) ?_ fun _ _ z => z
      rintro z s6 ⟨yv, H6, I6, r6, acc, hD6, room, nx⟩
      exact thnF (app_ok (E := fun _ _ => False) (X := X.blk sC HC scope E fp) (I6.ofTry I5.ok) hD6 room r6 fun s7 I7 => close I7 nx) fun _ _ z => z
/-- x = [..], x a local, on one line -/
theorem ps_setLcX {W0 : WX} {wi : TI} {gt : TG} {tt : TT} {te : XK → TE} {i : Nat} {y : Str} {py spos : Pos} (hst : X.stack = X.env :: X.outer) (hf : X.env.frame = some X.env.locals) (tk : Takes X W0) (hc : X.calm = true) (hN : X.N.Nodup) (hy : X.N[i]? = some y)
    (hyl : X.env.scope.names.lookup y = some .local) (hsw : swapsWith (.ListComp elt [⟨tg, iter, ifs, 0⟩] scope pos) (some (.Name y py)) spos.line X.env = pure true) (hi : PI X tg iter wi) (ok : BlkOk X.N X.env.scope scope own)
    (hg : ∀ (s : Shared) (H : Hp) (C : Addr) (cl : List (Str × Addr)) (fp : List Addr), PG (X.blk s H scope (compEnvC scope cl C X.env) fp) tg gt)
    (ht : ∀ (s : Shared) (H : Hp) (C : Addr) (cl : List (Str × Addr)) (fp : List Addr), PTs (X.blk s H scope (compEnvC scope cl C X.env) fp) ifs tt)
    (he : ∀ (s : Shared) (H : Hp) (C : Addr) (cl : List (Str × Addr)) (fp : List Addr) (xk : XK) (pn : List (Addr × Obj)) (xe : Value → Shared → Prop), Takes ((X.blk s H scope (compEnvC scope cl C X.env) fp).tr pn xe) (fun cls d _ H' => xk cls d H') →
      PE ((X.blk s H scope (compEnvC scope cl C X.env) fp).tr pn xe) elt (te xk))
    (hs : ∀ x, foldedSetIterable iter X.env x = pure x := by intro _; rfl) : PS X (.Assign [.Name y py] (.ListComp elt [⟨tg, iter, ifs, 0⟩] scope pos) spos) (tAsg (tLcX wi gt tt te (own.map (·.2)) W0) (gName i)) := by
  constructor
  intro pins s σ H Dn I want
  rw [exec_Assign_Name_used _ _ _ _ (hsw)]
  refine wpAny_bind ?_
  refine wpAny_standAt ?_
  refine wpAny_bind ?_
  have want : tLcX wi gt tt te (own.map (·.2)) W0 σ H (fun x H1 => gName i x σ H1 Dn.nx) := want
  show wpAny _ X.A (do let _ ← comprehension (.ListComp elt [⟨tg, iter, ifs, 0⟩] scope pos) scope X.env (firstIterPos [⟨tg, iter, ifs, 0⟩] pos) (newList []) false (eval iter X.env) (some (assign (.Name y py) X.env))) _ _ s
  refine wpAny_bind (thn (lcX_core (Qe := fun _ s' => SP X pins Dn .next s') hst hf tk hc hN hi ok hg ht he hs I want ?_) fun _ s' z => wpAny_pure (wpAny_pure z))
  intro Lq C s' m H' I' q hn f
  show wpAny _ _ (assign (.Name y py) X.env (.ref Lq)) _ _ _
  refine wpAny_assign_Name (store_ok2 (v := V.ref Lq) I' hN hy (.inl hyl) rfl ?_ (.inr hyl))
  rintro s2 I2 ⟨a, sb, ha⟩
  obtain ⟨g0, g1, g2, g3, g4, g5⟩ := f
  have apart : C ≠ a := by
    rcases ha with z | z
    · rw [z]
      exact g1
    · exact fun w => g4 y a z w.symm
  refine ⟨m, hn.sameBut sb apart, fun h3 sb3 => ?_⟩
  have back := I2.turned (t' := s2.toks) (fun b o hb z => (sb3.2 b hb).trans z) g0 g1 g3 g4 g5
  exact ⟨_, H', back, q⟩
end
end DL
namespace DL
open PySem PySem.Spec PyProof.Rows L2
def bindE {α β : Type} (vs : List Nat) (r : R α) (f : α → List D → R β) : R β := match r with
  | .ok a env => f a env
  | .ex c fs env => .ex c fs (wipeD env vs)
  | .bad => .bad
@[simp] theorem bindE_ok {α β : Type} (vs : List Nat) (a : α) (env : List D) (f : α → List D → R β) : bindE vs (.ok a env) f = f a env := rfl
@[simp] theorem bindE_ex {α β : Type} (vs : List Nat) (c : Str) (fs env : List D) (f : α → List D → R β) : bindE vs (.ex c fs env) f = .ex c fs (wipeD env vs) := rfl
def lcGoX (g : D → List D → Option (List D)) (dt : List D → R Bool) (de : List D → R D) (vs : List Nat) : List D → List D → List D → R (List D)
  | [], acc, env => .ok acc env
  | d :: ds, acc, env => match g d env with
    | none => .bad
    | some env1 => bindB (dt env1) fun b env2 => if b = true then bindE vs (de env2) fun y env3 => lcGoX g dt de vs ds (acc ++ [y]) (wipeD env3 vs) else lcGoX g dt de vs ds acc (wipeD env2 vs)
/-- the block's end, the slots as they stood -/
def lcFin (vs : List Nat) (env1 : List D) (r : R (List D)) : R D := match r with
  | .ok acc env2 => .ok (.ml acc) (backD env1 env2 vs)
  | .ex c fs env2 => .ex c fs (backD env1 env2 vs)
  | .bad => .bad
def lcXD (di : List D → R (List D)) (g : D → List D → Option (List D)) (dt : List D → R Bool) (de : List D → R D) (vs : List Nat) : List D → R D := fun env => bindR (di env) fun ds env1 =>
  if ds.length ≤ 1000000 then lcFin vs env1 (lcGoX g dt de vs ds [] (wipeD env1 vs)) else .bad
@[simp] theorem lcXD_ap (di : List D → R (List D)) (g : D → List D → Option (List D)) (dt : List D → R Bool) (de : List D → R D) (vs : List Nat) (env : List D) : lcXD di g dt de vs env = bindR (di env) fun ds env1 =>
  if ds.length ≤ 1000000 then lcFin vs env1 (lcGoX g dt de vs ds [] (wipeD env1 vs)) else .bad := rfl
theorem At.bindE {α β γ : Type} {M : Mo} {e : Ent} {wx : WX} {rep : Hp → α → β → Prop} {F : Hp} {σ : L2.St} {vs : List Nat} {r : R α} {f : α → List D → R γ} {o : R γ} {P : β → Hp → Prop} (h : DL.bindE vs r f = o) (ho : o ≠ .bad)
    (k : ∀ d env1 W1 F1 H1 v, r = .ok d env1 → Rel M e W1 F1 H1 env1 σ → Ex F F1 → rep F1 d v → f d env1 = o → P v H1)
    (kx : ∀ c fs env1 W1 F1 H1 cls dd, o = .ex c fs (wipeD env1 vs) → Rel M e W1 F1 H1 env1 σ → Ex F F1 → XR M F1 c fs cls dd → wx cls dd σ H1) : At M e wx rep F σ r P := by
  cases r with
  | ok d env' => exact fun W' F' H' v a b c => k d env' W' F' H' v rfl a b c h
  | ex c fs env' => exact fun W' F' H' cls dd a b z => kx c fs env' W' F' H' cls dd h.symm a b z
  | bad => exact absurd h.symm ho
section
variable {X : Cx} {j : J} {elt tg iter : Expr} {ifs : List Expr} {scope : Scope} {pos : Pos} {own : List (Str × Nat)} {di : List D → R (List D)} {g : D → List D → Option (List D)} {dt : List D → R Bool} {de : List D → R D} {ss : List Nat}
abbrev lcEX (M : Mo) (vs : List Nat) (de : List D → R D) (xk : XK) : TE := fun σ H Q => ∃ eb : Ent, (∀ i ∈ vs, eb.P i = none) ∧ tE M ⟨eb, fun cls d _ H' => xk cls d H'⟩ de σ H Q
theorem lcX_red {vs : List Nat} (hp : ∀ i ∈ vs, j.e.P i = none) (hss : ∀ i ∈ ss, i ∈ vs) {σ : L2.St} {H : Hp} {Q : VK} (h : tO (mo X) j (lcXD di g dt de vs) σ H Q) :
    tLcX (tI (mo X) j di) (lcG (mo X) vs ss g) (lcT (mo X) vs dt) (lcEX (mo X) vs de) vs j.wx σ H Q := by
  obtain ⟨W, F, env, rel, q⟩ := h
  refine ⟨W, F, env, rel, AtO.bind q ?_⟩
  intro ds env1 W1 F1 H1 Ji _ r1 x1 p1 q1
  by_cases hds0 : ¬ ds.length ≤ 1000000
  · rw [if_neg hds0] at q1
    exact q1.elim
  have hds : ds.length ≤ 1000000 := by omega
  rw [if_pos hds] at q1
  generalize o : lcGoX g dt de vs ds [] (wipeD env1 vs) = out at q1
  have hout : out ≠ .bad := by
    intro z
    rw [z] at q1
    exact q1
  intro Dl hDl
  have wl : (wipe σ vs).length = σ.length := wipe_length σ vs
  have wg : ∀ i, i ∉ vs → (wipe σ vs)[i]? = σ[i]? := fun i h => wipe_get h
  have dW1 : W1 Dl = none := by
    cases z : W1 Dl with
    | none => rfl
    | some p => exact absurd hDl (r1.sep Dl (by rw [z]; simp)).2.2
  have dF1 : F1 Dl = none := r1.exF.none hDl
  have d0 : j.e.H0 Dl = none := by
    cases z : j.e.H0 Dl with
    | none => rfl
    | some p => exact absurd hDl (r1.stay Dl (by rw [z]; simp))
  -- the new list's place changes, nothing else
  have put : ∀ {W' : Own} {F' H' : Hp} {e' : List D} {σ' : L2.St} (ys : List V), Rel (mo X) j.e W' F' H' e' σ' → W' Dl = none → F' Dl = none → Rel (mo X) j.e W' F' (upd H' Dl (.lst ys)) e' σ' := by
    intro W' F' H' e' σ' ys a hW hF
    refine ⟨⟨fun b u h1 h2 => ?_, a.exF0, fun b u h => ?_, fun b h => ?_, a.fresh, a.new, fun b h => ?_, a.tupsU d0, a.tuprU d0, nofU a.nof flat_lst fun _ _ h => h⟩, a.len, fun i d h1 h2 => ?_, a.pin⟩
    · have : b ≠ Dl := fun z => by
        subst z
        rw [d0] at h2
        cases h2
      rw [upd_ne this]
      exact a.pres b u h1 h2
    · have : b ≠ Dl := fun z => by
        subst z
        rw [hF] at h
        cases h
      rw [upd_ne this]
      exact a.exF b u h
    · have : b ≠ Dl := fun z => h (by rw [z]; exact hW)
      rw [upd_ne this]
      exact a.sep b h
    · by_cases z : b = Dl
      · rw [z, upd_same]
        simp
      · rw [upd_ne z]
        exact a.stay b h
    · obtain ⟨v, h3, h4⟩ := a.slot i d h1 h2
      refine ⟨v, h3, h4.tr (Ex.refl F') fun b q z => ⟨z, fun u y => ?_⟩⟩
      have : b ≠ Dl := fun w => by
        rw [w, hW] at z
        cases z
      rw [upd_ne this]
      exact y
  -- the slots as they stood
  have home : ∀ {W' : Own} {F' H' : Hp} {e' : List D}, Rel (mo X) j.e W' F' H' e' (wipe σ vs) → Ex F1 F' → Rel (mo X) j.e W' F' H' (backD env1 e' vs) σ := by
    intro W' F' H' e' r2 x2
    exact {
      toRelB := r2.toRelB
      len := by rw [backD_len, r2.len, wl]
      slot := fun i d h1 h2 => by
        rcases backD_get h1 h2 with ⟨h3, h4⟩ | ⟨h3, h4, h5⟩
        · obtain ⟨v, h6, h7⟩ := r2.slot i d h4 h2
          exact ⟨v, by rw [← wg i h3]; exact h6, h7⟩
        · obtain ⟨v, h6, h7⟩ := r1.slot i d h4 h2
          exact ⟨v, h6, .fz ((h7.rp h5).mono x2)⟩
      pin := r1.pin }
  have gr := put [] (r1.wipe vs wl wg hp) dW1 dF1
  refine ⟨fun i m H => m = ds.length - i ∧ i ≤ ds.length ∧ ∃ W2 F2 env2 acc xs, Rel (mo X) j.e W2 F2 H env2 (wipe σ vs) ∧ Ex F1 F2 ∧ H Dl = some (.lst xs) ∧ F2 Dl = none ∧ W2 Dl = none ∧ RpL (mo X) F2 acc xs ∧ acc.length ≤ i ∧ (∀ i ∈ vs, ∀ d, env2[i]? = some d → d = .unb) ∧ lcGoX g dt de vs (ds.drop i) acc env2 = out,
    ⟨_, rfl, Nat.zero_le _, W1, F1, _, [], [], gr, Ex.refl F1, upd_same, dF1, dW1, .nil, Nat.zero_le _, fun i hi d h => Classical.byContradiction fun hd => (wipeD_get h hd).1 hi, o⟩, ?_⟩
  rintro i m H ⟨rfl, hi, W2, F2, env2, acc, xs, r2, x2, hD, hF, hW, ra, hacc, hun, e2⟩
  by_cases hlt : i < ds.length
  · obtain ⟨go, yl⟩ := (p1 i F2 H x2 r2.exF).1 hlt
    rw [List.drop_eq_getElem_cons hlt] at e2
    unfold lcGoX at e2
    cases og : g ds[i] env2 with
    | none =>
      rw [og] at e2
      exact absurd e2.symm hout
    | some env3 =>
      rw [og] at e2
      simp only at e2
      refine .inr ⟨go, fun H' => ∃ W4 F4 env4 acc4 xs4, Rel (mo X) j.e W4 F4 H' env4 (wipe σ vs) ∧ Ex F1 F4 ∧ H' Dl = some (.lst xs4) ∧ F4 Dl = none ∧ W4 Dl = none ∧ RpL (mo X) F4 acc4 xs4 ∧ acc4.length ≤ i + 1 ∧ (∀ i ∈ vs, ∀ d, env4[i]? = some d → d = .unb) ∧ lcGoX g dt de vs (ds.drop (i + 1)) acc4 env4 = out,
        fun H' h => ⟨ds.length - (i + 1), by omega, rfl, hlt, h⟩, ?_⟩
      intro x Hy hy
      obtain ⟨F3, d, e1, grw, rp⟩ := yl x Hy hy
      have ed : ds[i] = d := by
        rw [List.getElem?_eq_getElem hlt] at e1
        exact Option.some.inj e1
      have r3 := r2.grow grw
      have hD3 : Hy Dl = some (.lst xs) := grw.exH _ _ hD
      have hF3 : F3 Dl = none := by
        cases z : F3 Dl with
        | none => rfl
        | some u =>
          rcases grw.new Dl (by rw [z]; simp) with y | y | y
          · exact absurd hF y
          · rw [y] at hD
            cases hD
          · exact absurd y (FlatT.not hD flat_lst)
      have hpb : ∃ pb : Nat → Option V, (∀ i ∈ vs, pb i = none) ∧ (∀ i v, pb i = some v → (wipe σ vs)[i]? = some (some v)) ∧ (∀ i v, i ∉ vs → (wipe σ vs)[i]? = some (some v) → pb i = some v) := by
        refine ⟨fun i => if i ∈ vs then none else match (wipe σ vs)[i]? with | some o => o | none => none, fun i h => if_pos h, fun i v h => ?_, fun i v h1 h2 => ?_⟩
        · simp only at h
          by_cases z : i ∈ vs
          · rw [if_pos z] at h
            cases h
          · rw [if_neg z] at h
            cases y : (wipe σ vs)[i]? with
            | none => rw [y] at h; cases h
            | some o => rw [y] at h; exact congrArg some h
        · simp only
          rw [if_neg h1, h2]
      obtain ⟨pb, pb1, pb2, pb3⟩ := hpb
      have rB := r3.inB (pb := pb) pb2 fun i d h1 h2 h3 z => by
        have hn : i ∉ vs := fun hv => h3 (hun i hv d h1)
        obtain ⟨v, h4, _⟩ := r3.slot i d h1 h3
        rw [pb3 i v hn h4] at z
        cases z
      have hpe : ∀ i v, j.e.P i = some v → pb i = some v := fun i v h => by
        have hn : i ∉ vs := fun hv => by
          rw [hp i hv] at h
          cases h
        exact pb3 i v hn (r3.pin i v h)
      refine ⟨_, pb1, blkW pb W2, F3, env2, d, rB, rp, env3, by rw [← ed]; exact og, ?_⟩
      intro W4 F4 H4 σ4 r4 x4 l4 k4
      have k4' : ∀ i, i ∉ vs → σ4[i]? = (wipe σ vs)[i]? := fun i hn => k4 i fun z => hn (hss i z)
      have wσ : wipe σ4 vs = wipe σ vs := by
        rw [wipe_eq (σ := wipe σ vs) (σ' := σ4) l4 k4']
        refine List.ext_getElem? fun i => ?_
        by_cases z : i ∈ vs
        · rw [wipe_in z, wipe_in z, wl]
        · rw [wipe_get z]
      refine ⟨wσ, _, pb1, W4, F4, env3, r4, ?_⟩
      have keepD : ∀ {W' F' H' env' σ'}, Rel (mo X) ⟨Hy, F3, blkW pb W2, pb⟩ W' F' H' env' σ' → H' Dl = some (.lst xs) ∧ F' Dl = none ∧ W' Dl = none := by
        intro W' F' H' env' σ' r
        have bn : blkW pb W2 Dl = none := by
          unfold blkW
          rw [hW]
        refine ⟨r.pres Dl _ bn hD3, ?_, ?_⟩
        · cases z : F' Dl with
          | none => rfl
          | some u =>
            rcases r.new Dl (by rw [z]; simp) with y | y | y
            · exact absurd hF3 y
            · cases hD3.symm.trans y
            · exact absurd y (FlatT.not hD3 flat_lst)
        · cases z : W' Dl with
          | none => rfl
          | some u =>
            rcases (r.sep Dl (by rw [z]; simp)).2.1 with y | y
            · exact absurd bn y
            · cases hD3.symm.trans y
      have back : ∀ {W' F' H' env'}, Rel (mo X) ⟨Hy, F3, blkW pb W2, pb⟩ W' F' H' env' σ4 → Rel (mo X) j.e W' F' H' (wipeD env' vs) (wipe σ vs) := fun {W' F' H' env'} r =>
        (Rel.outB r3.toRelB r hpe).wipe vs (by rw [l4]) (fun i hn => (k4' i hn).symm) hp
      have unb : ∀ (env' : List D) i, i ∈ vs → ∀ d, (wipeD env' vs)[i]? = some d → d = .unb := fun env' i hv d h => Classical.byContradiction fun hd => (wipeD_get h hd).1 hv
      refine At.bindB e2 hout ?_
      intro b env5 W5 F5 H5 b' ob r5 x5 hb e5
      subst hb
      have xx5 : Ex F1 F5 := x2.trans (grw.exF.trans (x4.trans x5))
      cases b with
      | false =>
        rw [if_neg Bool.false_ne_true] at e5 ⊢
        obtain ⟨d1, d2, d3⟩ := keepD r5
        exact ⟨W5, F5, _, acc, xs, back r5, xx5, d1, d2, d3, ra.mono (grw.exF.trans (x4.trans x5)), by omega, unb _, e5⟩
      | true =>
        rw [if_pos rfl] at e5 ⊢
        refine ⟨_, pb1, W5, F5, env5, r5, At.bindE e5 hout ?_ ?_⟩
        · intro y env6 W6 F6 H6 v oy r6 x6 py e6
          obtain ⟨d1, d2, d3⟩ := keepD r6
          have xx : Ex F2 F6 := grw.exF.trans (x4.trans (x5.trans x6))
          have hlen := ra.length
          refine ⟨xs, d1, ?_, W6, F6, _, acc ++ [y], xs ++ [v], put _ (back r6) d3 d2, x2.trans xx, upd_same, d2, d3, (ra.mono xx).append (.cons py .nil), by rw [List.length_append]; simp; omega, unb _, e6⟩
          rw [sizeLine_eq]
          omega
        · intro c fs env6 W6 F6 H6 cls dd e6 r6 x6 px
          rw [e6] at q1
          exact q1 W6 F6 H6 cls dd (home (back r6) (xx5.trans x6)) (xx5.trans x6) px
  · -- the end
    refine .inl ⟨(p1 i F2 H x2 r2.exF).2 (by omega), ?_⟩
    rw [List.drop_eq_nil_of_le (by omega)] at e2
    have e2 : R.ok acc env2 = out := e2
    rw [← e2] at q1
    have a := home r2 x2
    have own2 : ∀ {l : List D} {xs : List V} {W' : Own} {k : Nat}, RpL (mo X) F2 l xs → OwL (mo X) W' F2 H [0] k l xs := by
      intro l
      induction l with
      | nil => intro xs W' k h; cases h; exact .nil
      | cons d l ih => intro xs W' k h; cases h with
        | cons h q => exact .cons (.fz h) (ih q)
    have old : ∀ b, b ≠ Dl → newW W2 Dl b ≠ none → W2 b ≠ none := fun b hb h z => h (by
      unfold newW
      rw [if_neg hb, z]
      rfl)
    refine q1 (newW W2 Dl) F2 H (.ref Dl) ⟨⟨a.pres, a.exF0, a.exF, fun b h => ?_, fun b c q h => ?_, a.new, a.stay, a.tups, a.tupr, fun b h => (by
      by_cases z : b = Dl
      · rw [z]; exact FlatT.not hD flat_lst
      · exact a.nof b (old b z h))⟩, a.len, fun k d' h1 h2 => ?_, a.pin⟩ x2 (.ml (by unfold newW; rw [if_pos rfl]) hD (own2 ra))
    · by_cases z : b = Dl
      · subst z
        exact ⟨hF, .inr d0, by rw [hD]; simp⟩
      · exact a.sep b (old b z h)
    · unfold newW at h
      split at h
      · rename_i z
        subst z
        exact .inl d0
      · split at h
        · cases h
        · exact a.fresh b c q h
    · obtain ⟨v', h5, h6⟩ := a.slot k d' h1 h2
      refine ⟨v', h5, h6.tr (Ex.refl F2) fun b q' z => ⟨?_, fun _ y => y⟩⟩
      have : b ≠ Dl := fun w => by
        rw [w, hW] at z
        cases z
      unfold newW
      rw [if_neg this, if_neg]
      · exact z
      · intro w
        obtain ⟨q2, h7⟩ := rootIs_iff.mp w
        rw [z] at h7
        injection h7 with h7
        injection h7 with h8 _
        omega
/-- the element's derivation: it may raise, in the block's own frame of mind -/
abbrev EltX (X : Cx) (scope : Scope) (vs : List Nat) (elt : Expr) (de : List D → R D) : Prop :=
  ∀ (s : Shared) (H : Hp) (C : Addr) (cl : List (Str × Addr)) (fp : List Addr) (eb : Ent) (wx : WX) (pn : List (Addr × Obj)) (xe : Value → Shared → Prop), (∀ i ∈ vs, eb.P i = none) → Takes ((X.blk s H scope (compEnvC scope cl C X.env) fp).tr pn xe) wx →
    DE ((X.blk s H scope (compEnvC scope cl C X.env) fp).tr pn xe) ⟨eb, wx⟩ elt de
/-- x = [..], what is made is frozen -/
theorem s_setLcXF (i : Nat) {y : Str} {py spos : Pos} (hst : X.stack = X.env :: X.outer) (hf : X.env.frame = some X.env.locals) (tk : Takes X j.wx) (hc : X.calm = true) (hN : X.N.Nodup) (hpi : j.e.P i = none) (hp : ∀ i ∈ own.map (·.2), j.e.P i = none) (hss : ∀ i ∈ ss, i ∈ own.map (·.2))
    (hi : DI X j tg iter di) (ok : BlkOk X.N X.env.scope scope own)
    (hg : ∀ (s : Shared) (H : Hp) (C : Addr) (cl : List (Str × Addr)) (fp : List Addr) (eb : Ent), (∀ i ∈ own.map (·.2), eb.P i = none) → DGw (X.blk s H scope (compEnvC scope cl C X.env) fp) ⟨eb, noX⟩ tg ss g)
    (ht : ∀ (s : Shared) (H : Hp) (C : Addr) (cl : List (Str × Addr)) (fp : List Addr) (eb : Ent), (∀ i ∈ own.map (·.2), eb.P i = none) → DTs (X.blk s H scope (compEnvC scope cl C X.env) fp) ⟨eb, noX⟩ ifs dt)
    (he : EltX X scope (own.map (·.2)) elt de) (hs : ∀ x, foldedSetIterable iter X.env x = pure x := by intro _; rfl) (hy : X.N[i]? = some y := by rfl) (hyl : X.env.scope.names.lookup y = some .local := by rfl)
    (hsw : swapsWith (.ListComp elt [⟨tg, iter, ifs, 0⟩] scope pos) (some (.Name y py)) spos.line X.env = pure true := by rfl) :
    DS X j (.Assign [.Name y py] (.ListComp elt [⟨tg, iter, ifs, 0⟩] scope pos) spos) (asgD i (frzD (lcXD di g dt de (own.map (·.2))))) :=
  PS.mono (ps_setLcX (gt := lcG (mo X) (own.map (·.2)) ss g) (tt := lcT (mo X) (own.map (·.2)) dt) (te := lcEX (mo X) (own.map (·.2)) de) hst hf tk hc hN hy hyl hsw hi ok
    (fun s H C cl fp => ⟨fun pins s' σ H' v u Q I r ⟨eb, h1, h2⟩ => (hg s H C cl fp eb h1).run pins s' σ H' v u Q I r h2⟩)
    (fun s H C cl fp => ⟨fun pins s' σ H' Q I ⟨eb, h1, h2⟩ => (ht s H C cl fp eb h1).run pins s' σ H' Q I h2⟩)
    (fun s H C cl fp xk pn xe tb => ⟨fun pins s' σ H' Q I ⟨eb, h1, h2⟩ => (he s H C cl fp eb _ pn xe h1 tb).run pins s' σ H' Q I h2⟩) hs) fun Dn σ H ⟨W, F, env, rel, q⟩ => lcX_red hp hss ⟨W, F, env, rel, by
    unfold asgD frzD at q
    cases o : lcXD di g dt de (own.map (·.2)) env with
    | ok d env1 =>
      rw [o] at q
      intro W' F' H' v r x p
      exact q _ _ H' _ ((r.freeze0).set (Ow.froze r.toRelB p) hpi) (x.trans (frzF_ex r.toRelB 0))
    | ex c fs env1 =>
      rw [o] at q
      intro W' F' H' cls dd r x y
      exact q W' F' H' σ cls dd r x y
    | bad =>
      rw [o] at q
      exact q⟩
end
end DL
namespace FR
def fg (a b : Int) : Int := if b < 0 then -(Nat.gcd a.natAbs b.natAbs : Int) else (Nat.gcd a.natAbs b.natAbs : Int)
def fn (a b : Int) : Int := a.fdiv (fg a b)
def fd (a b : Int) : Int := b.fdiv (fg a b)
end FR
namespace MX
open PySem DL FR
def gd {α : Type} (l : List α) (k : Nat) (d : α) : α := l.getD k d
theorem gd_get {α : Type} {l : List α} {k : Nat} (h : k < l.length) (d : α) : gd l k d = l[k] := by
  unfold gd
  rw [List.getD_eq_getElem?_getD, List.getElem?_eq_getElem h]
  rfl
theorem gd_mem {α : Type} {l : List α} {k : Nat} (h : k < l.length) (d : α) : gd l k d ∈ l := by
  rw [gd_get h]
  exact List.getElem_mem h
/-- bounds -/
theorem Sm.sum {n : Nat} {xs : List Int} (h : ∀ x ∈ xs, Sm n x) (hl : xs.length ≤ 16) : Sm (n + 4) xs.sum := by
  have key : ∀ (xs : List Int), (∀ x ∈ xs, Sm n x) → xs.sum.natAbs ≤ xs.length * (2 ^ n - 1) := by
    intro xs
    induction xs with
    | nil => intro _; simp
    | cons a l ih =>
      intro h
      have h1 := h a (by simp)
      have h2 := ih fun x hx => h x (List.mem_cons_of_mem _ hx)
      unfold Sm at h1
      have h3 := Int.natAbs_add_le a l.sum
      simp only [List.sum_cons, List.length_cons, Nat.succ_mul]
      omega
  have h1 := key xs h
  have h2 : xs.length * (2 ^ n - 1) ≤ 16 * (2 ^ n - 1) := Nat.mul_le_mul_right _ hl
  have h3 : 0 < 2 ^ n := Nat.pow_pos (by decide)
  unfold Sm
  rw [Nat.pow_add]
  omega
end MX
namespace DL
open PySem MX L2
theorem atI_map {α : Type} (u : α → D) {xs : List α} {i : Nat} (h : i < xs.length) (d : α) : atI (xs.map u) (i : Int) = some (u (gd xs i d)) := by
  unfold gd
  rw [atI_nat _ _ (by rw [List.length_map]; exact h), List.getElem?_map, List.getD_eq_getElem?_getD, List.getElem?_eq_getElem h]
  rfl
theorem memD_map {α : Type} (u : α → D) (x : D) (xs : List α) : memD x (xs.map u) = xs.any fun y => (u y).eqb x := by
  unfold memD
  rw [List.any_map]
  rfl
theorem range1 (n : Nat) : rangeL 0 n = (List.range n).map fun (i : Nat) => D.int i := by
  rw [rangeL_eq]
  refine List.map_congr_left fun i _ => ?_
  rw [Int.zero_add]
section
variable (env : List D) (i k n : Nat) (c : Str) (d : D)
@[simp] theorem methO_ap (io : List Nat) (g : List D → FR) (do_ : List D → R D) (da : List D → R (List Ar)) : methO c n io g do_ da env = bindR (do_ env) fun x env1 => if selfD c x = true then callO n io g (fun env => bindR (da env) fun as env2 => .ok (.v x :: as) env2) env1 else .bad := rfl
@[simp] theorem selfD_ins (l : List D) : selfD c (.ins c l) = true := by simp [selfD]
@[simp] theorem fldD_ins (l : List D) : fldD c k (.ins c l) = l[k]? := by simp [fldD]
@[simp] theorem isOwn_ins (l : List D) : isOwn (.ins c l) = false := rfl
@[simp] theorem isOwn_mi (l : List D) : isOwn (.mi c l) = true := rfl
@[simp] theorem isOwn_md (ks : List Key) (l : List D) : isOwn (.md ks l) = true := rfl
@[simp] theorem ownd_mi (l : List D) : ownd (.mi c l) = true := rfl
@[simp] theorem ownd_ins (l : List D) : ownd (.ins c l) = false := rfl
@[simp] theorem ownd_str (x : Str) : ownd (.str x) = false := rfl
@[simp] theorem ownd_non : ownd .non = false := rfl
@[simp] theorem frz_ins (l : List D) : frz (.ins c l) = .ins c l := by rw [frz]
@[simp] theorem frz_mi (l : List D) : frz (.mi c l) = .ins c (frzL l) := by rw [frz]
@[simp] theorem dictAt_ap : dictAt env i = match env.getD i .unb with
  | .md ks l => some (ks, l)
  | _ => none := by unfold dictAt; cases env.getD i .unb <;> rfl
@[simp] theorem makeO_ap (G : List D → FR) (dl : List D → R (List D)) : makeO c n G dl env = bindR (dl env) fun ds env1 => if ds.length + 1 = n then match G (.mi c [] :: ds) with
  | .ret .non [d] => if ownd d = true then .ok d env1 else .bad
  | .exc x fs _ => .ex x fs env1
  | _ => .bad
else .bad := rfl
@[simp] theorem setfD_ap (da : List D → R D) : setfD c k i da env = bindS (da env) fun d env1 => match env1.getD i .unb with
  | .mi c' l => if c' = c then (if k < l.length then .nx (env1.set i (.mi c (l.set k d))) else if k = l.length then .nx (env1.set i (.mi c (l ++ [d]))) else .bad) else .bad
  | _ => .bad := rfl
end
theorem lt_line {n : Nat} (h : n ≤ 1000000) : n < sizeLine := Nat.lt_of_le_of_lt h (by decide)
theorem range1_int {da : List D → R D} {env env1 : List D} {j : Int} (h : da env = .ok (.int j) env1) (h1 : -(2^62) ≤ j) (h2 : j < 2^62) : range1D da env = .ok (rangeL 0 j.toNat) env1 := by
  unfold range1D
  rw [h, bindR_ok]
  exact if_pos ⟨h1, h2⟩
theorem range_hi {j : Int} (hn : j ≤ 1000000) : j < 2 ^ 62 := by
  have : j < 4611686018427387904 := by omega
  have h62 : (2 : Int) ^ 62 = 4611686018427387904 := by decide
  rw [h62]
  exact this
theorem range_lo {j : Int} (hn : 0 ≤ j) : -(2 ^ 62) ≤ j := by
  have : -4611686018427387904 ≤ j := by omega
  have h62 : (2 : Int) ^ 62 = 4611686018427387904 := by decide
  rw [h62]
  exact this
theorem range1_nat {da : List D → R D} {env env1 : List D} {n : Nat} (h : da env = .ok (.int n) env1) (hn : n ≤ 1000000) : range1D da env = .ok (rangeL 0 n) env1 := range1_int h (range_lo (by omega)) (range_hi (by omega))
theorem forD_eq {di : List D → R (List D)} {gg : D → List D → Option (List D)} {sb : List D → O} {env env1 ds : List D} (h : di env = .ok ds env1) : forD di gg sb env = forGo gg sb ds env1 := by
  unfold forD
  rw [h]
  rfl
theorem seq_nx {a b : List D → O} {env env1 : List D} (h : a env = .nx env1) : seqD a b env = b env1 := by
  unfold seqD
  rw [h]
theorem seqN {a b : List D → O} {env : List D} {o : O} (env1 : List D) (h1 : a env = .nx env1) (h2 : b env1 = o) : seqD a b env = o := (seq_nx h1).trans h2
theorem forN {di : List D → R (List D)} {gg : D → List D → Option (List D)} {sb : List D → O} {env env1 ds : List D} {o : O} (h : di env = .ok ds env1) (k : forGo gg sb ds env1 = o) : forD di gg sb env = o := (forD_eq h).trans k
theorem runR {N : Nat} {io : List Nat} {sa : List D → O} {ds env : List D} {d : D} (h : sa (ds ++ List.replicate (N - ds.length) .unb) = .rt d env) : runD N io sa ds = .ret d (outsD io env) := by
  rw [runD_ap, h]
theorem runN {N : Nat} {io : List Nat} {sa : List D → O} {ds env : List D} (h : sa (ds ++ List.replicate (N - ds.length) .unb) = .nx env) : runD N io sa ds = .ret .non (outsD io env) := by
  rw [runD_ap, h]
theorem runE {N : Nat} {io : List Nat} {sa : List D → O} {ds env : List D} {c : Str} {fs : List D} (h : sa (ds ++ List.replicate (N - ds.length) .unb) = .ex c fs env) : runD N io sa ds = .exc c fs (outsD io env) := by
  rw [runD_ap, h]
theorem ifT {dt : List D → R Bool} {sa sb : List D → O} {env env1 : List D} {o : O} (h : dt env = .ok true env1) (k : sa env1 = o) : ifS dt sa sb env = o := by
  unfold ifS
  rw [h]
  exact k
theorem ifF {dt : List D → R Bool} {sa sb : List D → O} {env env1 : List D} {o : O} (h : dt env = .ok false env1) (k : sb env1 = o) : ifS dt sa sb env = o := by
  unfold ifS
  rw [h]
  exact k
theorem asgN {i : Nat} {da : List D → R D} {env env1 : List D} {d : D} (h : da env = .ok d env1) : asgD i da env = .nx (env1.set i d) := by
  unfold asgD
  rw [h]
  rfl
theorem retR {da : List D → R D} {env env1 : List D} {d : D} (h : da env = .ok d env1) : retD da env = .rt d env1 := by
  unfold retD
  rw [h]
  rfl
end DL
namespace K04
open PySem PySem.Spec PyProof.Rows L2 DL
noncomputable section
def d__law_state : List D → FR := runD 1 [] (seqD (asgD 0 (callBD absD (consD (varD 0) (nilD)))) (retD (lstO (consD (binD mulXD (varD 0) (callBD intXD (consD (binD geD (varD 0) (binD powD (constD (.int 10)) (constD (.int 18)))) (nilD)))) (consD (binD addD (binD modD (varD 0) (constD (.int 2147483629))) (constD (.int 7))) (consD (binD modD (varD 0) (constD (.int 2147483587))) (nilD)))))))
def d__law_digit : List D → FR := runD 4 [0] (seqD (ifS (testD (binD gtD (ixO 0 (constD (.int 0))) (constD (.int 0)))) (seqD (asgD 2 (binD modD (ixO 0 (constD (.int 0))) (varD 1))) (seqD (setO 0 (binD fdivD (ixO 0 (constD (.int 0))) (varD 1)) (constD (.int 0))) (retD (varD 2)))) (skipD)) (seqD (asgD 3 (binD mulXD (ixO 0 (constD (.int 1))) (binD addD (binD fdivD (ixO 0 (constD (.int 1))) (constD (.int 1009))) (constD (.int 69621))))) (seqD (setO 0 (binD addD (binD modD (binD addD (varD 3) (ixO 0 (constD (.int 2)))) (constD (.int 2147483629))) (constD (.int 7))) (constD (.int 1))) (retD (binD modD (binD fdivD (ixO 0 (constD (.int 1))) (constD (.int 97))) (varD 1))))))
def b__law_name_0 : List D → O := asgD 4 (binD addD (varD 4) (binD ixD (varD 2) (frzD (callO 2 [0] d__law_digit (ioA 0 (consA (constD (.int 36)) (nilA)))))))
def c__law_name_0 : List D → R Bool := testD (cmpR inD 1 (varD 7))
def b__law_name_1 : List D → O := seqD (asgD 8 (binD addD (varD 8) (constD (.int 1)))) (asgD 7 (binD addD (varD 4) (callBD strD (consD (varD 8) (nilD)))))
def d__law_name : List D → FR := runD 9 [0, 1] (seqD (asgD 2 (constD (.str "abcdefghijklmnopqrstuvwxyz0123456789"))) (seqD (asgD 3 (frzD (callO 2 [0] d__law_digit (ioA 0 (consA (constD (.int 7)) (nilA)))))) (seqD (asgD 4 (binD ixD (varD 2) (frzD (callO 2 [0] d__law_digit (ioA 0 (consA (constD (.int 26)) (nilA))))))) (seqD (forD (range1D (frzD (callO 2 [0] d__law_digit (ioA 0 (consA (constD (.int 4)) (nilA)))))) (gnD 5) b__law_name_0) (seqD (ifS (testD (binD eqD (varD 3) (constD (.int 6)))) (seqD (asgD 6 (lstD (consD (constD (.str "rows")) (consD (constD (.str "columns")) (consD (constD (.str "pay")) (consD (constD (.str "one")) (consD (constD (.str "even")) (consD (constD (.str "struck")) (consD (constD (.str "sure")) (consD (constD (.str "most")) (consD (constD (.str "left")) (consD (constD (.str "back")) (consD (constD (.str "none")) (nilD)))))))))))))) (asgD 4 (binD ixD (varD 6) (frzD (callO 2 [0] d__law_digit (ioA 0 (consA (constD (.int 11)) (nilA)))))))) (skipD)) (seqD (asgD 7 (varD 4)) (seqD (asgD 8 (constD (.int 0))) (seqD (whileD c__law_name_0 b__law_name_1) (retD (varD 7))))))))))
def b__law_names_0 : List D → O := appO 2 (frzD (callO 2 [0, 1] d__law_name (ioA 0 (ioA 2 (nilA)))))
def d__law_names : List D → FR := runD 4 [0] (seqD (asgD 2 (lstO (nilD))) (seqD (forD (range1D (varD 1)) (gnD 3) b__law_names_0) (retV 2)))
def d__law_pay : List D → FR := runD 2 [0] (seqD (asgD 1 (frzD (callO 2 [0] d__law_digit (ioA 0 (consA (constD (.int 8)) (nilA)))))) (seqD (ifS (testD (binD eqD (varD 1) (constD (.int 7)))) (retD (binD addD (binD subD (frzD (callO 2 [0] d__law_digit (ioA 0 (consA (binD subD (binD mulXD (constD (.int 2)) (binD powD (constD (.int 10)) (constD (.int 9)))) (constD (.int 3))) (nilA))))) (binD powD (constD (.int 10)) (constD (.int 9)))) (constD (.int 2)))) (skipD)) (retD (binD subD (frzD (callO 2 [0] d__law_digit (ioA 0 (consA (binD ixD (lstD (consD (constD (.int 3)) (consD (constD (.int 5)) (consD (constD (.int 9)) (nilD))))) (binD modD (varD 1) (constD (.int 3)))) (nilA))))) (binD ixD (lstD (consD (constD (.int 1)) (consD (constD (.int 2)) (consD (constD (.int 4)) (nilD))))) (binD modD (varD 1) (constD (.int 3))))))))
def e__law_game_0 : List D → R D := frzD (callO 2 [0] d__law_names (ioA 0 (consA (callBD minX (consD (varD 1) (consD (binD ixD (lstD (consD (constD (.int 2)) (consD (constD (.int 3)) (consD (constD (.int 2)) (consD (constD (.int 3)) (consD (constD (.int 1)) (consD (constD (.int 4)) (nilD)))))))) (frzD (callO 2 [0] d__law_digit (ioA 0 (consA (constD (.int 6)) (nilA)))))) (nilD)))) (nilA))))
def e__law_game_1 : List D → R D := tupD (consD (frzD (callO 1 [0] d__law_pay (ioA 0 (nilA)))) (consD (frzD (callO 1 [0] d__law_pay (ioA 0 (nilA)))) (nilD)))
def e__law_game_2 : List D → R D := frzD (lcD (itS (binD ixD (varD 2) (constD (.int 1)))) (gnD 6) (yesD) e__law_game_1 [6])
def d__law_game : List D → FR := runD 7 [0] (seqD (asgD 2 (frzD (lcD (range1D (constD (.int 2))) (gnD 3) (yesD) e__law_game_0 [3]))) (seqD (asgD 4 (frzD (lcD (itS (binD ixD (varD 2) (constD (.int 0)))) (gnD 5) (yesD) e__law_game_2 [5, 6]))) (retD (tupD (consD (binD ixD (varD 2) (constD (.int 0))) (consD (binD ixD (varD 2) (constD (.int 1))) (consD (varD 4) (nilD))))))))
def e__law_rows_of_0 : List D → R D := binD addD (binD addD (callBD strD (consD (varD 3) (nilD))) (constD (.str ","))) (callBD strD (consD (varD 4) (nilD)))
def e__law_rows_of_1 : List D → R D := txtD joinD (constD (.str " ")) (binD addD (lstD (consD (constD (.str "pay")) (nilD))) (frzD (lcD (itS (varD 2)) (gTupD (gConsD (gnD 3) (gConsD (gnD 4) (gNilD)))) (yesD) e__law_rows_of_0 [3, 4])))
def d__law_rows_of : List D → FR := runD 5 [] (seqD (asgD 1 (lstD (consD (txtD joinD (constD (.str " ")) (binD addD (lstD (consD (constD (.str "rows")) (nilD))) (binD ixD (varD 0) (constD (.int 0))))) (consD (txtD joinD (constD (.str " ")) (binD addD (lstD (consD (constD (.str "columns")) (nilD))) (binD ixD (varD 0) (constD (.int 1))))) (nilD))))) (retD (binD addD (varD 1) (frzD (lcD (itS (binD ixD (varD 0) (constD (.int 2)))) (gnD 2) (yesD) e__law_rows_of_1 [2, 3, 4])))))
def e_is_name_0 : List D → R D := orV (binD inD (varD 1) (constD (.str "abcdefghijklmnopqrstuvwxyz"))) (binD inD (varD 1) (constD (.str "0123456789")))
def d_is_name : List D → FR := runD 2 [] (seqD (ifS (orD (notD (testD (chainD leD leD (constD (.int 1)) (callBD lenD (consD (varD 0) (nilD))) (constD (.int 8))))) (testD (binD notInD (binD ixD (varD 0) (constD (.int 0))) (constD (.str "abcdefghijklmnopqrstuvwxyz"))))) (retD (constD (.bl false))) (skipD)) (retD (callBD allD (consD (frzD (lcD (itS (varD 0)) (gnD 1) (yesD) e_is_name_0 [1])) (nilD)))))
def b_asked_names_0 : List D → O := ifS (notD (testD (frzD (callO 1 [] d_is_name (consA (varD 1) (nilA)))))) (raiseD "NoName" (consD (varD 1) (nilD))) (skipD)
def d_asked_names : List D → FR := runD 2 [] (forD (itS (varD 0)) (gnD 1) b_asked_names_0)
def b_asked_once_0 : List D → O := seqD (ifS (testD (dinD 1 (varD 2))) (raiseD "Twice" (consD (varD 2) (nilD))) (skipD)) (dputD 1 (constD (.bl true)) (varD 2))
def d_asked_once : List D → FR := runD 3 [] (seqD (asgD 1 (dict0)) (forD (itS (varD 0)) (gnD 2) b_asked_once_0))
def d_asked_some : List D → FR := runD 2 [] (seqD (ifS (notD (testD (chainD leD leD (constD (.int 1)) (callBD lenD (consD (varD 1) (nilD))) (constD (.int 4))))) (raiseD "BadCount" (consD (varD 0) (consD (callBD lenD (consD (varD 1) (nilD))) (nilD)))) (skipD)) (seqD (exprD (frzD (callO 1 [] d_asked_names (consA (varD 1) (nilA))))) (exprD (frzD (callO 1 [] d_asked_once (consA (varD 1) (nilA)))))))
def b_asked_pays_0 : List D → O := ifS (testD (binD neD (callBD lenD (consD (varD 3) (nilD))) (varD 2))) (raiseD "BadCount" (consD (constD (.str "pays")) (consD (callBD lenD (consD (varD 3) (nilD))) (nilD)))) (skipD)
def d_asked_pays : List D → FR := runD 4 [] (seqD (ifS (testD (binD neD (callBD lenD (consD (varD 0) (nilD))) (varD 1))) (raiseD "BadCount" (consD (constD (.str "pays")) (consD (callBD lenD (consD (varD 0) (nilD))) (nilD)))) (skipD)) (forD (itS (varD 0)) (gnD 3) b_asked_pays_0))
def e_Game_init_0 : List D → R D := tupD (consD (varD 5) (consD (varD 6) (nilD)))
def e_Game_init_1 : List D → R D := callBD tupleD (consD (frzD (lcD (itS (varD 4)) (gTupD (gConsD (gnD 5) (gConsD (gnD 6) (gNilD)))) (yesD) e_Game_init_0 [5, 6])) (nilD))
def d_Game_init : List D → FR := runD 7 [0] (seqD (exprD (frzD (callO 2 [] d_asked_some (consA (constD (.str "rows")) (consA (varD 1) (nilA)))))) (seqD (exprD (frzD (callO 2 [] d_asked_some (consA (constD (.str "columns")) (consA (varD 2) (nilA)))))) (seqD (exprD (frzD (callO 3 [] d_asked_pays (consA (varD 3) (consA (callBD lenD (consD (varD 1) (nilD))) (consA (callBD lenD (consD (varD 2) (nilD))) (nilA))))))) (seqD (setfD "Game" 0 0 (tupD (consD (callBD tupleD (consD (varD 1) (nilD))) (consD (callBD tupleD (consD (varD 2) (nilD))) (nilD))))) (setfD "Game" 1 0 (callBD tupleD (consD (frzD (lcD (itS (varD 3)) (gnD 4) (yesD) e_Game_init_1 [4, 5, 6])) (nilD))))))))
def d_Game_size : List D → FR := runD 2 [] (seqD (ifS (testD (binD notInD (varD 1) (tupD (consD (constD (.int 0)) (consD (constD (.int 1)) (nilD)))))) (raiseD "NoSide" (consD (varD 1) (nilD))) (skipD)) (retD (callBD lenD (consD (binD ixD (unD (fldD "Game" 0) (varD 0)) (varD 1)) (nilD)))))
def b_Game_pay_0 : List D → O := ifS (notD (testD (chainD leD ltD (constD (.int 0)) (varD 4) (callBD lenD (consD (binD ixD (unD (fldD "Game" 0) (varD 0)) (varD 3)) (nilD)))))) (raiseD "NoChoice" (consD (varD 3) (consD (varD 4) (nilD)))) (skipD)
def d_Game_pay : List D → FR := runD 5 [] (seqD (forD (enumD (tupD (consD (varD 1) (consD (varD 2) (nilD))))) (gTupD (gConsD (gnD 3) (gConsD (gnD 4) (gNilD)))) b_Game_pay_0) (retD (binD ixD (binD ixD (unD (fldD "Game" 1) (varD 0)) (varD 1)) (varD 2))))
def d_Game_rows : List D → FR := runD 1 [] (retD (callBD listD (consD (binD ixD (unD (fldD "Game" 0) (varD 0)) (constD (.int 0))) (nilD))))
def d_Game_columns : List D → FR := runD 1 [] (retD (callBD listD (consD (binD ixD (unD (fldD "Game" 0) (varD 0)) (constD (.int 1))) (nilD))))
def e_game_rows_0 : List D → R D := frzD (methO "Game" 3 [] d_Game_pay (varD 0) (consA (varD 2) (consA (varD 4) (nilA))))
def e_game_rows_1 : List D → R D := joinedD [unD fmtD (varD 5), constD (.str ","), unD fmtD (varD 6)] PySem.Str.empty
def b_game_rows_0 : List D → O := seqD (asgD 3 (frzD (lcD (range1D (frzD (methO "Game" 2 [] d_Game_size (varD 0) (consA (constD (.int 1)) (nilA))))) (gnD 4) (yesD) e_game_rows_0 [4]))) (appO 1 (txtD joinD (constD (.str " ")) (binD addD (lstD (consD (constD (.str "pay")) (nilD))) (frzD (lcD (itS (varD 3)) (gTupD (gConsD (gnD 5) (gConsD (gnD 6) (gNilD)))) (yesD) e_game_rows_1 [5, 6])))))
def d_game_rows : List D → FR := runD 7 [] (seqD (asgD 1 (lstO (consD (txtD joinD (constD (.str " ")) (binD addD (lstD (consD (constD (.str "rows")) (nilD))) (frzD (methO "Game" 1 [] d_Game_rows (varD 0) (nilA))))) (consD (txtD joinD (constD (.str " ")) (binD addD (lstD (consD (constD (.str "columns")) (nilD))) (frzD (methO "Game" 1 [] d_Game_columns (varD 0) (nilA))))) (nilD))))) (seqD (forD (range1D (frzD (methO "Game" 2 [] d_Game_size (varD 0) (consA (constD (.int 0)) (nilA))))) (gnD 2) b_game_rows_0) (retV 1)))
def e_is_figures_0 : List D → R D := binD inD (varD 1) (constD (.str "0123456789"))
def d_is_figures : List D → FR := runD 2 [] (seqD (ifS (orD (notD (testD (chainD leD leD (constD (.int 1)) (callBD lenD (consD (varD 0) (nilD))) (constD (.int 9))))) (notD (testD (callBD allD (consD (frzD (lcD (itS (varD 0)) (gnD 1) (yesD) e_is_figures_0 [1])) (nilD)))))) (retD (constD (.bl false))) (skipD)) (retD (orV (binD eqD (varD 0) (constD (.str "0"))) (binD neD (binD ixD (varD 0) (constD (.int 0))) (constD (.str "0"))))))
def d_is_number : List D → FR := runD 1 [] (seqD (ifS (testD (txtD startsD (varD 0) (constD (.str "-")))) (retD (andV (frzD (callO 1 [] d_is_figures (consA (sliceD (varD 0) (partD (constD (.int 1))) (noPartD)) (nilA)))) (binD neD (varD 0) (constD (.str "-0"))))) (skipD)) (retD (callO 1 [] d_is_figures (consA (varD 0) (nilA)))))
def e_pair_in_0 : List D → R D := frzD (callO 1 [] d_is_number (consA (varD 2) (nilA)))
def d_pair_in : List D → FR := runD 3 [] (seqD (asgD 1 (txtD splitD (varD 0) (constD (.str ",")))) (seqD (ifS (orD (testD (binD neD (callBD lenD (consD (varD 1) (nilD))) (constD (.int 2)))) (notD (testD (callBD allD (consD (frzD (lcD (itS (varD 1)) (gnD 2) (yesD) e_pair_in_0 [2])) (nilD)))))) (retD (constD .non)) (skipD)) (retD (tupD (consD (callBD intXD (consD (binD ixD (varD 1) (constD (.int 0))) (nilD))) (consD (callBD intXD (consD (binD ixD (varD 1) (constD (.int 1))) (nilD))) (nilD)))))))
def b_parts_behind_0 : List D → O := ifS (orD (testD (binD eqD (varD 5) (constD (.str "")))) (andD (testD (binD gtD (varD 1) (constD (.int 1)))) (testD (binD isNonD (frzD (callO 1 [] d_pair_in (consA (varD 5) (nilA)))) (constD .non))))) (raiseD "BadRow" (consD (varD 1) (consD (binD addD (varD 4) (constD (.int 1))) (nilD)))) (skipD)
def d_parts_behind : List D → FR := runD 6 [] (seqD (starD 2 3 (txtD splitD (varD 0) (constD (.str " ")))) (seqD (ifS (testD (binD neD (varD 2) (binD ixD (constD (.ctp [.str "rows", .str "columns", .str "pay"])) (callBD minX (consD (varD 1) (consD (constD (.int 2)) (nilD))))))) (raiseD "BadRow" (consD (varD 1) (consD (constD (.int 0)) (nilD)))) (skipD)) (seqD (ifS (testD (cmpL eqD 3 (lstD (nilD)))) (raiseD "BadRow" (consD (varD 1) (consD (constD (.int 1)) (nilD)))) (skipD)) (seqD (forD (enumD (varF 3)) (gTupD (gConsD (gnD 4) (gConsD (gnD 5) (gNilD)))) b_parts_behind_0) (retV 3)))))
def e_read_game_0 : List D → R D := frzD (callO 2 [] d_parts_behind (consA (varD 3) (consA (varD 2) (nilA))))
def e_read_game_1 : List D → R D := frzD (callO 1 [] d_pair_in (consA (varD 5) (nilA)))
def e_read_game_2 : List D → R D := frzD (lcD (itS (varD 4)) (gnD 5) (yesD) e_read_game_1 [5])
def d_read_game : List D → FR := runD 6 [] (seqD (asgD 1 (frzD (lcXD (enumD (varD 0)) (gTupD (gConsD (gnD 2) (gConsD (gnD 3) (gNilD)))) (yesD) e_read_game_0 [2, 3]))) (seqD (ifS (testD (binD ltD (callBD lenD (consD (varD 1) (nilD))) (constD (.int 3)))) (raiseD "BadRow" (consD (callBD lenD (consD (varD 1) (nilD))) (consD (constD (.int 0)) (nilD)))) (skipD)) (retD (makeO "Game" 4 d_Game_init (consD (binD ixD (varD 1) (constD (.int 0))) (consD (binD ixD (varD 1) (constD (.int 1))) (consD (frzD (lcD (itS (sliceD (varD 1) (partD (constD (.int 2))) (noPartD))) (gnD 4) (yesD) e_read_game_2 [4, 5])) (nilD))))))))
def d_Game_eq : List D → FR := runD 2 [] (retD (andV (unD (isG "Game") (varD 1)) (binD eqD (tupD (consD (unD (fldD "Game" 0) (varD 0)) (consD (unD (fldD "Game" 1) (varD 0)) (nilD)))) (tupD (consD (unD (fldD "Game" 0) (varD 1)) (consD (unD (fldD "Game" 1) (varD 1)) (nilD)))))))
def d__law_refused : List D → FR := runD 2 [] (seqD (tryAsD 1 (mtOf [("BadCount", false), ("NoName", false), ("Twice", false), ("BadRow", true)]) [] (exprD (frzD (callO 1 [] d_read_game (consA (varD 0) (nilA))))) (pickD [("BadRow", fun fs => retD (tupD (consD (xfldD fs 0) (consD (xfldD fs 1) (nilD)))))])) (retD (constD (.str "read"))))
def e__law_great_right_0 : List D → R D := listO (consD (varD 6) (nilD))
def d__law_great_right : List D → FR := runD 8 [0] (seqD (asgD 2 (frzD (callO 2 [0] d__law_digit (ioA 0 (consA (callBD lenD (consD (binD ixD (varD 1) (constD (.int 0))) (nilD))) (nilA)))))) (seqD (asgD 3 (frzD (callO 2 [0] d__law_digit (ioA 0 (consA (callBD lenD (consD (binD ixD (varD 1) (constD (.int 1))) (nilD))) (nilA)))))) (seqD (asgD 4 (binD ixD (lstD (consD (binD powD (constD (.int 10)) (constD (.int 9))) (consD (unD negD (binD powD (constD (.int 10)) (constD (.int 9)))) (consD (binD addD (binD powD (constD (.int 10)) (constD (.int 30))) (constD (.int 7))) (consD (binD subD (unD negD (binD powD (constD (.int 10)) (constD (.int 12)))) (constD (.int 1))) (nilD)))))) (frzD (callO 2 [0] d__law_digit (ioA 0 (consA (constD (.int 4)) (nilA))))))) (seqD (asgD 5 (lcoD (itS (binD ixD (varD 1) (constD (.int 2)))) (gnD 6) (yesD) e__law_great_right_0 [6])) (seqD (setO2 5 (binD ixD (lstD (consD (tupD (consD (varD 4) (consD (constD (.int 0)) (nilD)))) (consD (tupD (consD (constD (.int 0)) (consD (varD 4) (nilD)))) (nilD)))) (frzD (callO 2 [0] d__law_digit (ioA 0 (consA (constD (.int 2)) (nilA)))))) (varD 2) (qVar 3)) (seqD (asgD 7 (frzD (callO 1 [] d_game_rows (consA (frzD (makeO "Game" 4 d_Game_init (consD (binD ixD (varD 1) (constD (.int 0))) (consD (binD ixD (varD 1) (constD (.int 1))) (consD (varF 5) (nilD)))))) (nilA))))) (retD (andV (binD eqD (varD 7) (frzD (callO 1 [] d__law_rows_of (consA (tupD (consD (binD ixD (varD 1) (constD (.int 0))) (consD (binD ixD (varD 1) (constD (.int 1))) (consD (varF 5) (nilD))))) (nilA))))) (binD eqD (frzD (callO 1 [] d__law_refused (consA (varD 7) (nilA)))) (tupD (consD (binD addD (constD (.int 2)) (varD 2)) (consD (binD addD (constD (.int 1)) (varD 3)) (nilD)))))))))))))
def b_law_0 : List D → O := seqD (asgD 8 (lendN 6 (frzD (callO 1 [] d_read_game (consA (varD 6) (nilA)))))) (ifS (orD (notD (testD (unD (isG "Game") (varD 8)))) (orD (testD (binD (neI "Game" d_Game_eq) (varD 8) (varD 5))) (orD (testD (binD neD (frzD (callO 1 [] d_game_rows (consA (varD 8) (nilA)))) (varD 4))) (testD (cmpL neD 6 (varD 4)))))) (retD (constD (.bl false))) (skipD))
def b_law_1 : List D → O := seqD (asgD 2 (callO 1 [] d__law_state (consA (varD 1) (nilA)))) (seqD (asgD 3 (frzD (callO 2 [0] d__law_game (ioA 2 (consA (constD (.int 4)) (nilA)))))) (seqD (asgD 4 (frzD (callO 1 [] d__law_rows_of (consA (varD 3) (nilA))))) (seqD (asgD 5 (frzD (makeO "Game" 4 d_Game_init (consD (binD ixD (varD 3) (constD (.int 0))) (consD (binD ixD (varD 3) (constD (.int 1))) (consD (binD ixD (varD 3) (constD (.int 2))) (nilD))))))) (seqD (ifS (testD (binD neD (frzD (callO 1 [] d_game_rows (consA (varD 5) (nilA)))) (varD 4))) (retD (constD (.bl false))) (skipD)) (seqD (appJ (callO 1 [] d_game_rows (consA (varD 5) (nilA)))) (seqD (asgD 6 (listO (consD (varD 4) (nilD)))) (seqD (forD (range1D (constD (.int 2))) (gnD 7) b_law_0) (seqD (clrP 6 []) (seqD (ifS (orD (testD (binD neD (frzD (callO 1 [] d_game_rows (consA (varD 8) (nilA)))) (varD 4))) (orD (testD (binD neD (frzD (callO 1 [] d_game_rows (consA (varD 5) (nilA)))) (varD 4))) (testD (binD (neI "Game" d_Game_eq) (frzD (callO 1 [] d_read_game (consA (callBD tupleD (consD (varD 4) (nilD))) (nilA)))) (varD 5))))) (retD (constD (.bl false))) (skipD)) (ifS (andD (testD (binD eqD (frzD (callO 2 [0] d__law_digit (ioA 2 (consA (constD (.int 4)) (nilA))))) (constD (.int 0)))) (notD (testD (frzD (callO 2 [0] d__law_great_right (ioA 2 (consA (varD 3) (nilA)))))))) (retD (constD (.bl false))) (skipD)))))))))))
def d_law : List D → FR := runD 9 [] (seqD (forD (itS (sliceD (binD addD (varD 0) (lstD (consD (constD (.int 0)) (nilD)))) (noPartD) (partD (constD (.int 8))))) (gnD 1) b_law_1) (retD (constD (.bl true))))
end
end K04
namespace K04
open PySem DL FR MX L2 SX PyProof.Rows
abbrev stD (x y z : Int) : D := .ml [.int x, .int y, .int z]
structure StOk (x y z : Int) : Prop where
  x0 : 0 ≤ x
  y0 : 7 ≤ y
  y1 : y < 2147483636
  z0 : 0 ≤ z
  z1 : z < 2147483587
theorem fmod_in {a b : Int} (h : 0 < b) : 0 ≤ a.fmod b ∧ a.fmod b < b := ⟨Int.fmod_nonneg_of_pos _ h, Int.fmod_lt_of_pos _ h⟩
theorem state_ev (c : Int) : ∃ x y z, StOk x y z ∧ d__law_state [.int c] = .ret (stD x y z) [] := by
  unfold d__law_state
  simp [runD_ap, fitsPow_lit, fitsDiv_lit]
  have h1 := fmod_in (a := (c.natAbs : Int)) (b := 2147483629) (by decide)
  have h2 := fmod_in (a := (c.natAbs : Int)) (b := 2147483587) (by decide)
  refine ⟨_, _, _, ⟨?_, ?_, ?_, ?_, ?_⟩, rfl, rfl, rfl⟩
  · split <;> omega
  all_goals omega
/-- a digit: of any base below 2 ** 60 -/
theorem digit_ev {x y z b : Int} (h : StOk x y z) (hb : 1 ≤ b) (hb1 : b < 1000000000000000000) : ∃ r x' y', StOk x' y' z ∧ 0 ≤ r ∧ r < b ∧ d__law_digit [stD x y z, .int b] = .ret (.int r) [stD x' y' z] := by
  unfold d__law_digit
  have hb0 : b ≠ 0 := by omega
  have h1 : fitsDiv b := fitsDiv_lit hb0 (by omega)
  obtain ⟨x0, y0, y1, z0, z1⟩ := h
  have h2 : fitsMul y (y.fdiv 1009 + 69621) := fitsMul_l (by omega)
  by_cases hx : 0 < x
  · have h3 := fmod_in (a := x) (b := b) (by omega)
    simp [runD_ap, fitsPow_lit, fitsDiv_lit, hb0, h1, h2, hx]
    exact ⟨_, _, _, ⟨Int.fdiv_nonneg x0 (by omega), y0, y1, z0, z1⟩, h3.1, h3.2, rfl, rfl, rfl⟩
  · simp [runD_ap, fitsPow_lit, fitsDiv_lit, hb0, h1, h2, hx]
    have h3 := fun a => fmod_in (a := a) (b := b) (by omega)
    have h4 := fun a => fmod_in (a := a) (b := 2147483629) (by decide)
    have h5 := h4 (y * (y.fdiv 1009 + 69621) + z)
    exact ⟨_, _, _, ⟨x0, by omega, by omega, z0, z1⟩, (h3 _).1, (h3 _).2, rfl, rfl, rfl⟩
def lets : List Nat := [97, 98, 99, 100, 101, 102, 103, 104, 105, 106, 107, 108, 109, 110, 111, 112, 113, 114, 115, 116, 117, 118, 119, 120, 121, 122]
def fgs : List Nat := [48, 49, 50, 51, 52, 53, 54, 55, 56, 57]
theorem letsS : ("abcdefghijklmnopqrstuvwxyz" : Str) = S lets := by decide
theorem fgsS : ("0123456789" : Str) = S fgs := by decide
theorem alnumS : ("abcdefghijklmnopqrstuvwxyz0123456789" : Str) = S (lets ++ fgs) := by decide
def signOk (c : Nat) : Bool := decide (c ∈ lets) || decide (c ∈ fgs)
def isName (l : List Nat) : Bool := decide (1 ≤ l.length) && decide (l.length ≤ 8) && (match l with | [] => false | c :: _ => decide (c ∈ lets)) && l.all signOk
theorem signOk_lt {c : Nat} (h : signOk c = true) : c < 128 := by
  have key : ∀ c ∈ lets ++ fgs, c < 128 := by decide
  refine key c ?_
  unfold signOk at h
  rcases Bool.or_eq_true_iff.mp h with h | h
  · exact List.mem_append_left _ (of_decide_eq_true h)
  · exact List.mem_append_right _ (of_decide_eq_true h)
theorem isName_ok {l : List Nat} (h : isName l = true) : okS l := fun c hc => by
  unfold isName at h
  simp only [Bool.and_eq_true] at h
  have := signOk_lt (List.all_eq_true.mp h.2 c hc)
  omega
theorem isName_len {l : List Nat} (h : isName l = true) : 1 ≤ l.length ∧ l.length ≤ 8 := by
  unfold isName at h
  simp only [Bool.and_eq_true, decide_eq_true_eq] at h
  omega
theorem name_signs {l : List Nat} (h : l.length ≤ 1000000) : lcD (itS (varD 0)) (gnD 1) yesD e_is_name_0 [1] [.str (S l), .unb] = .ok (.ml (l.map fun c => .bl (signOk c))) [.str (S l), .unb] := by
  refine lcD_mapA (xs := l) (env1 := [.str (S l), .unb]) (fun c => .str ⟨#[c]⟩) (fun c => [.str (S l), .str ⟨#[c]⟩]) _ ?_ h (fun c hc => ⟨?_, ?_, ?_⟩) ?_
  · simp [signsD_map]
  · simp
  · have h1 := inS c lets
    have h2 := inS c fgs
    cases b : decide (c ∈ lets) <;> rw [b] at h1 <;> simp [e_is_name_0, letsS, fgsS, h1, h2, signOk, b]
  · simp
  · simp
theorem len_ch {n : Nat} : leD (.int 1) (.int n) = some (.bl (decide (1 ≤ n))) ∧ ∀ k : Nat, leD (.int n) (.int k) = some (.bl (decide (n ≤ k))) := by
  rw [leD_int]
  refine ⟨congrArg (fun b => some (D.bl b)) (decide_eq_decide.mpr (by omega)), fun k => ?_⟩
  rw [leD_int]
  exact congrArg (fun b => some (D.bl b)) (decide_eq_decide.mpr (by omega))
theorem is_name_ev {l : List Nat} (h : l.length ≤ 1000000) : d_is_name [.str (S l)] = .ret (.bl (isName l)) [] := by
  have e1 := name_signs h
  have e2 : frzL (l.map fun c => D.bl (signOk c)) = l.map fun c => D.bl (signOk c) := frzL_id (fun _ => rfl) l
  have hL := lenS h
  have t1 := (len_ch (n := l.length)).1
  have t2 := (len_ch (n := l.length)).2 8
  have ea : allD [.lst (l.map fun c => D.bl (signOk c))] = some (.bl (l.all signOk)) := allD_map signOk l
  unfold d_is_name
  by_cases h1 : 1 ≤ l.length
  · by_cases h2 : l.length ≤ 8
    · obtain ⟨c, r, e⟩ : ∃ c r, l = c :: r := by
        cases l with
        | nil => simp at h1
        | cons c r => exact ⟨c, r, rfl⟩
      have i0 := ix0 h e
      have n0 := notInS c lets
      have q3 : isName l = (decide (c ∈ lets) && l.all signOk) := by subst e; simp only [isName, h1, h2, decide_true, Bool.true_and]
      rw [q3]
      cases b1 : decide (c ∈ lets) <;> rw [b1] at n0 <;> simp [runD_ap, -lenD_str, -leD_int, hL, t1, show leD (.int l.length) (.int 8) = _ from t2, e1, e2, ea, i0, letsS, n0, h1, h2]
    · have q3 : isName l = false := by simp [isName, h2]
      rw [q3]
      simp [runD_ap, -lenD_str, -leD_int, hL, t1, show leD (.int l.length) (.int 8) = _ from t2, h1, h2]
  · have q3 : isName l = false := by simp [isName, h1]
    rw [q3]
    simp [runD_ap, -lenD_str, -leD_int, hL, t1, h1]
theorem ixS {l : List Nat} (h : l.length ≤ 1000000) {i : Nat} (hi : i < l.length) : ixD (.str (S l)) (.int (i : Nat)) = some (dS [l.getD i 0]) := by
  show (if (S l).length ≤ sizeLine then (atI (S l).cps.toList (i : Int)).map fun c => D.str ⟨#[c]⟩ else none) = _
  rw [S_len, if_pos (len_line h)]
  show (atI l (i : Int)).map _ = _
  rw [atI_nat l i hi, List.getD_eq_getElem?_getD, List.getElem?_eq_getElem hi]
  rfl
theorem isName_app {l m : List Nat} (h : isName l = true) (hm : m.all signOk = true) (hl : l.length + m.length ≤ 8) : isName (l ++ m) = true := by
  have h2 := isName_len h
  cases l with
  | nil => simp at h2
  | cons c r =>
    simp only [isName, Bool.and_eq_true, decide_eq_true_eq, List.all_append, List.cons_append] at h ⊢
    simp only [List.length_cons, List.length_append] at h hl ⊢
    refine ⟨⟨⟨by omega, by omega⟩, h.1.2⟩, ?_⟩
    rw [← List.cons_append, List.all_append, h.2, hm]
    rfl
def namesD (ts : List (List Nat)) : List D := ts.map dS
theorem pigeon {α : Type} [BEq α] [LawfulBEq α] (f : Nat → α) : ∀ (n : Nat) (ts : List α), (∀ i k, i < n → k < n → f i = f k → i = k) → (∀ i < n, f i ∈ ts) → n ≤ ts.length
  | 0, _, _, _ => Nat.zero_le _
  | n + 1, ts, hi, hm => by
    have h1 := hm n (by omega)
    have h2 := pigeon f n (ts.erase (f n)) (fun i k a b => hi i k (by omega) (by omega)) fun i a => (List.mem_erase_of_ne fun e => by have := hi i n (by omega) (by omega) e; omega).mpr (hm i (by omega))
    rw [List.length_erase_of_mem h1] at h2
    have := List.length_pos_of_mem h1
    omega
theorem in_names {a : List Nat} {ts : List (List Nat)} (ha : okS a) (ht : ∀ t ∈ ts, okS t) : inD (dS a) (.lst (namesD ts)) = some (.bl (decide (a ∈ ts))) := by
  show (if fine (dS a) && fine (.lst (namesD ts)) then some (D.bl (memD (dS a) (namesD ts))) else none) = _
  have f1 := fineS ha
  have f2 : fine (.lst (namesD ts)) = true := fine_pd (n := 1) (by
    rw [pd]
    exact pdL_map fun t ht' => pdS (ht t ht') 0)
  rw [f1, f2, namesD, memD_map, Bool.and_self, if_pos rfl]
  refine congrArg (fun b => some (D.bl b)) (Bool.eq_iff_iff.mpr ?_)
  rw [List.any_eq_true]
  simp only [eqbS, decide_eq_true_eq]
  exact ⟨fun ⟨x, hx, e⟩ => e ▸ hx, fun h => ⟨a, h, rfl⟩⟩
theorem frz_names (ts : List (List Nat)) : frzL (namesD ts) = namesD ts := frzL_id (fun _ => rfl) ts
def words11 : List (List Nat) := [[114, 111, 119, 115], [99, 111, 108, 117, 109, 110, 115], [112, 97, 121], [111, 110, 101], [101, 118, 101, 110], [115, 116, 114, 117, 99, 107], [115, 117, 114, 101], [109, 111, 115, 116], [108, 101, 102, 116], [98, 97, 99, 107], [110, 111, 110, 101]]
theorem words11S : [D.str "rows", .str "columns", .str "pay", .str "one", .str "even", .str "struck", .str "sure", .str "most", .str "left", .str "back", .str "none"] = words11.map dS := by
  have h : [("rows" : Str), "columns", "pay", "one", "even", "struck", "sure", "most", "left", "back", "none"] = words11.map S := by decide
  have := congrArg (List.map D.str) h
  simpa [words11] using this
theorem ix_stem {r : Int} (h0 : 0 ≤ r) (h : r < 26) : ∃ c, c ∈ lets ∧ ixD (.str (S (lets ++ fgs))) (.int r) = some (dS [c]) := by
  obtain ⟨n, rfl⟩ := Int.eq_ofNat_of_zero_le h0
  have hn : n < 26 := by omega
  refine ⟨_, ?_, ixS (l := lets ++ fgs) (by decide) (by show n < 36; omega)⟩
  have key : ∀ n < 26, (lets ++ fgs).getD n 0 ∈ lets := by decide
  exact key n hn
theorem ix_sign {r : Int} (h0 : 0 ≤ r) (h : r < 36) : ∃ c, signOk c = true ∧ ixD (.str (S (lets ++ fgs))) (.int r) = some (dS [c]) := by
  obtain ⟨n, rfl⟩ := Int.eq_ofNat_of_zero_le h0
  have hn : n < 36 := by omega
  refine ⟨_, ?_, ixS (l := lets ++ fgs) (by decide) (by show n < 36; omega)⟩
  have key : ∀ n < 36, signOk ((lets ++ fgs).getD n 0) = true := by decide
  exact key n hn
/-- which text is tried as the k-th -/
def cand (stem : List Nat) (k : Nat) : List Nat := if k = 0 then stem else stem ++ TL.numL k
theorem cand_name {stem : List Nat} (h : isName stem = true) (hl : stem.length ≤ 7) {k : Nat} (hk : k ≤ 9) : isName (cand stem k) = true := by
  unfold cand
  by_cases h0 : k = 0
  · rw [if_pos h0]; exact h
  · rw [if_neg h0, TL.numL_lt (by omega)]
    have key : ∀ k ≤ 9, signOk (48 + k) = true := by decide
    exact isName_app h (by simp [key k hk]) (by simp; omega)
theorem cand_inj {stem : List Nat} {i k : Nat} (hi : i ≤ 9) (hk : k ≤ 9) (e : cand stem i = cand stem k) : i = k := by
  unfold cand at e
  have hd : ∀ x : Nat, stem ++ [x] ≠ stem := fun x h => by have := congrArg List.length h; simp at this
  by_cases h0 : i = 0 <;> by_cases h1 : k = 0
  · omega
  · rw [if_pos h0, if_neg h1, TL.numL_lt (by omega)] at e
    exact absurd e.symm (hd _)
  · rw [if_neg h0, if_pos h1, TL.numL_lt (by omega)] at e
    exact absurd e (hd _)
  · rw [if_neg h0, if_neg h1, TL.numL_lt (by omega), TL.numL_lt (by omega)] at e
    have := List.append_cancel_left e
    simp at this
    omega
/-- the first that is free -/
theorem free_cand {stem : List Nat} {ts : List (List Nat)} (hl : ts.length ≤ 8) : ∃ m ≤ ts.length, cand stem m ∉ ts ∧ ∀ i < m, cand stem i ∈ ts := by
  have : ∃ m ≤ ts.length, cand stem m ∉ ts := by
    refine Classical.byContradiction fun hn => ?_
    have h1 : ∀ i < ts.length + 1, cand stem i ∈ ts := fun i hi => Classical.byContradiction fun h => hn ⟨i, by omega, h⟩
    have := pigeon (cand stem) (ts.length + 1) ts (fun i k a b e => cand_inj (by omega) (by omega) e) h1
    omega
  obtain ⟨m, hm, h⟩ := this
  induction m using Nat.strongRecOn with
  | ind m ih =>
    by_cases hx : ∃ i < m, cand stem i ∉ ts
    · obtain ⟨i, hi, h2⟩ := hx
      exact ih i hi (by omega) h2
    · exact ⟨m, hm, h, fun i hi => Classical.byContradiction fun q => hx ⟨i, hi, q⟩⟩
theorem taken_ev {a : List Nat} {ts : List (List Nat)} (ha : okS a) (ht : ∀ t ∈ ts, okS t) (s so kd st k w n : D) : c__law_name_0 [s, .ml (namesD ts), so, kd, st, k, w, dS a, n] = .ok (decide (a ∈ ts)) [s, .ml (namesD ts), so, kd, st, k, w, dS a, n] := by
  have := in_names ha ht
  simp [c__law_name_0, frz_names, this]
theorem cand_step {stem : List Nat} (hn : isName stem = true) (h7 : stem.length ≤ 7) {m : Nat} (hm : m ≤ 8) (s t so kd k w : D) : b__law_name_1 [s, t, so, kd, dS stem, k, w, dS (cand stem m), .int m] = .nx [s, t, so, kd, dS stem, k, w, dS (cand stem (m + 1)), .int (m + 1 : Nat)] := by
  have e1 := strS (m + 1) (Nat.lt_of_le_of_lt (m := 9) (by omega) (by decide +kernel))
  have e2 : TL.numL (m + 1) = [48 + (m + 1)] := TL.numL_lt (by omega)
  have e3 := addS (a := stem) (b := TL.numL (m + 1)) (len_line (by rw [e2]; simp; omega))
  have e4 : cand stem (m + 1) = stem ++ TL.numL (m + 1) := by simp [cand]
  rw [e4]
  have e5 : ((m + 1 : Nat) : Int) = (m : Int) + 1 := by omega
  rw [e5] at e1 ⊢
  simp [b__law_name_1, -strD_int, -addD_str, e1, e3]
theorem name_while {stem : List Nat} {ts : List (List Nat)} (hn : isName stem = true) (h7 : stem.length ≤ 7) (ht : ∀ t ∈ ts, okS t) {m : Nat} (hm : m ≤ 8) (h1 : cand stem m ∉ ts) (h2 : ∀ i < m, cand stem i ∈ ts) (s so kd k w : D) : ∀ (j i : Nat), i + j = m →
    whileD c__law_name_0 b__law_name_1 [s, .ml (namesD ts), so, kd, dS stem, k, w, dS (cand stem i), .int i] = .nx [s, .ml (namesD ts), so, kd, dS stem, k, w, dS (cand stem m), .int m]
  | 0, i, e => by
    have : i = m := by omega
    subst this
    refine whileD_stop ?_
    rw [taken_ev (isName_ok (cand_name hn h7 (by omega))) ht, decide_eq_false h1]
  | j + 1, i, e => by
    rw [whileD_turn (by rw [taken_ev (isName_ok (cand_name hn h7 (by omega))) ht, decide_eq_true (h2 i (by omega))]) (cand_step hn h7 (by omega) s (.ml (namesD ts)) so kd k w)]
    exact name_while hn h7 ht hm h1 h2 s so kd k w j (i + 1) (by omega)
theorem name_ev {x y z : Int} (h : StOk x y z) {ts : List (List Nat)} (ht : ∀ t ∈ ts, okS t) (hl : ts.length ≤ 8) : ∃ (l : List Nat) (x' y' : Int), StOk x' y' z ∧ isName l = true ∧ l ∉ ts ∧
    d__law_name [stD x y z, .ml (namesD ts)] = .ret (dS l) [stD x' y' z, .ml (namesD ts)] := by
  obtain ⟨r4, x4, y4, h4, p4, q4, e4⟩ := digit_ev (b := 7) h (by decide) (by decide)
  obtain ⟨r1, x1, y1, h1, p1, q1, e1⟩ := digit_ev (b := 26) h4 (by decide) (by decide)
  obtain ⟨c, hc, e2⟩ := ix_stem p1 q1
  obtain ⟨r2, x2, y2, h2, p2, q2, e3⟩ := digit_ev (b := 4) h1 (by decide) (by decide)
  have hc0 : isName [c] = true := by
    have : signOk c = true := by unfold signOk; rw [decide_eq_true hc]; rfl
    simp [isName, hc, this]
  obtain ⟨n2, rfl⟩ := Int.eq_ofNat_of_zero_le p2
  let T : D := .ml (namesD ts)
  let A : D := .str (S (lets ++ fgs))
  let K : D := .int r4
  obtain ⟨E', ef, x3, y3, l3, k3, h3, g3, n3, rfl⟩ := forGo_inv (g := gnD 5) (db := b__law_name_0) (fun n E => ∃ (x' y' : Int) (l : List Nat) (k : D), StOk x' y' z ∧ l.length = n + 1 ∧ isName l = true ∧ E = [stD x' y' z, T, A, K, dS l, k, .unb, .unb, .unb])
    (rangeL 0 n2) 0 [stD x2 y2 z, T, A, K, dS [c], .unb, .unb, .unb, .unb] ⟨x2, y2, [c], _, h2, rfl, hc0, rfl⟩ fun i d hd E hE => by
      obtain ⟨x4, y4, l, k, h4, g4, n4, rfl⟩ := hE
      have hi : i < n2 := by have := List.getElem?_eq_some_iff.mp hd; obtain ⟨q, _⟩ := this; rwa [rangeL_len] at q
      obtain ⟨r5, x5, y5, h5, p5, q5, e5⟩ := digit_ev (b := 36) h4 (by decide) (by decide)
      obtain ⟨c5, hc5, e6⟩ := ix_sign p5 q5
      have e7 := addS (a := l) (b := [c5]) (len_line (by simp; omega))
      refine ⟨[stD x4 y4 z, T, A, K, dS l, d, .unb, .unb, .unb], [stD x5 y5 z, T, A, K, dS (l ++ [c5]), d, .unb, .unb, .unb], rfl, .inl ?_, x5, y5, l ++ [c5], d, h5, by simp; omega, isName_app n4 (by simp [hc5]) (by simp; omega), rfl⟩
      simp [b__law_name_0, e5, A, e6, -addD_str, e7, -ixD_lst]
  rw [rangeL_len, Nat.zero_add] at g3
  have hr : range1D (frzD (callO 2 [0] d__law_digit (ioA 0 (consA (constD (.int 4)) (nilA))))) [stD x1 y1 z, T, A, K, dS [c], .unb, .unb, .unb, .unb] = .ok (rangeL 0 n2) [stD x2 y2 z, T, A, K, dS [c], .unb, .unb, .unb, .unb] := range1_nat (by simp [e3]) (by omega)
  have hif : ∃ (x5 y5 : Int) (stem : List Nat) (w : D), StOk x5 y5 z ∧ isName stem = true ∧ stem.length ≤ 7 ∧ ifS (testD (binD eqD (varD 3) (constD (.int 6)))) (seqD (asgD 6 (lstD (consD (constD (.str "rows")) (consD (constD (.str "columns")) (consD (constD (.str "pay")) (consD (constD (.str "one")) (consD (constD (.str "even")) (consD (constD (.str "struck")) (consD (constD (.str "sure")) (consD (constD (.str "most")) (consD (constD (.str "left")) (consD (constD (.str "back")) (consD (constD (.str "none")) (nilD)))))))))))))) (asgD 4 (binD ixD (varD 6) (frzD (callO 2 [0] d__law_digit (ioA 0 (consA (constD (.int 11)) (nilA)))))))) (skipD) [stD x3 y3 z, T, A, K, dS l3, k3, .unb, .unb, .unb] = .nx [stD x5 y5 z, T, A, K, dS stem, k3, w, .unb, .unb] := by
    by_cases h6 : r4 = 6
    · obtain ⟨r5, x5, y5, h5, p5, q5, e5⟩ := digit_ev (b := 11) h3 (by decide) (by decide)
      obtain ⟨n5, rfl⟩ := Int.eq_ofNat_of_zero_le p5
      have hw : n5 < words11.length := by show n5 < 11; omega
      have e6 := atI_map dS hw []
      have key : ∀ n < 11, isName (gd words11 n []) = true ∧ (gd words11 n []).length ≤ 7 := by decide
      obtain ⟨k1, k2⟩ := key n5 (by omega)
      refine ⟨x5, y5, gd words11 n5 [], .lst (words11.map dS), h5, k1, k2, ?_⟩
      refine ifT (env1 := [stD x3 y3 z, T, A, K, dS l3, k3, .unb, .unb, .unb]) (by simp [K, h6]) ?_
      refine seqN [stD x3 y3 z, T, A, K, dS l3, k3, .lst (words11.map dS), .unb, .unb] (by rw [← words11S]; simp) ?_
      generalize words11.map dS = W at e6 ⊢
      simp [e5, e6]
    · refine ⟨x3, y3, l3, .unb, h3, n3, by omega, ?_⟩
      refine ifF (env1 := [stD x3 y3 z, T, A, K, dS l3, k3, .unb, .unb, .unb]) (by simp [K, h6]) ?_
      simp
  obtain ⟨x5, y5, stem, w, h5, n5, l5, e5⟩ := hif
  obtain ⟨m, hm, f1, f2⟩ := free_cand (stem := stem) hl
  have ew := name_while n5 l5 ht (m := m) (by omega) f1 f2 (stD x5 y5 z) A K k3 w m 0 (by omega)
  refine ⟨cand stem m, x5, y5, h5, cand_name n5 l5 (by omega), f1, ?_⟩
  unfold d__law_name
  refine runR (env := [stD x5 y5 z, T, A, K, dS stem, k3, w, dS (cand stem m), .int m]) ?_
  refine seqN [stD x y z, T, A, .unb, .unb, .unb, .unb, .unb, .unb] (by simp [alnumS, A, T]) ?_
  refine seqN [stD x4 y4 z, T, A, K, .unb, .unb, .unb, .unb, .unb] (by simp [A, K, e4]) ?_
  refine seqN [stD x1 y1 z, T, A, K, dS [c], .unb, .unb, .unb, .unb] (by simp [A, e1, e2]) ?_
  refine seqN _ (forN hr ef) ?_
  refine seqN _ e5 ?_
  refine seqN [stD x5 y5 z, T, A, K, dS stem, k3, w, dS (cand stem 0), .unb] (by simp [cand]) ?_
  refine seqN [stD x5 y5 z, T, A, K, dS stem, k3, w, dS (cand stem 0), .int (0 : Nat)] (by simp) ?_
  refine seqN _ ew ?_
  simp [T]
theorem names_ev {x y z : Int} (h : StOk x y z) {n : Nat} (hn : n ≤ 8) : ∃ (ts : List (List Nat)) (x' y' : Int), StOk x' y' z ∧ ts.length = n ∧ (∀ t ∈ ts, isName t = true) ∧ ts.Nodup ∧
    d__law_names [stD x y z, .int n] = .ret (.ml (namesD ts)) [stD x' y' z] := by
  obtain ⟨E', ef, x3, y3, ts, k3, h3, g3, n3, d3, rfl⟩ := forGo_inv (g := gnD 3) (db := b__law_names_0) (fun c E => ∃ (x' y' : Int) (ts : List (List Nat)) (k : D), StOk x' y' z ∧ ts.length = c ∧ (∀ t ∈ ts, isName t = true) ∧ ts.Nodup ∧ E = [stD x' y' z, .int n, .ml (namesD ts), k])
    (rangeL 0 n) 0 [stD x y z, .int n, .ml [], .unb] ⟨x, y, [], _, h, rfl, fun _ h => (by cases h), List.nodup_nil, rfl⟩ fun i d hd E hE => by
      obtain ⟨x4, y4, ts, k, h4, g4, n4, d4, rfl⟩ := hE
      have hi : i < n := by have := List.getElem?_eq_some_iff.mp hd; obtain ⟨q, _⟩ := this; rwa [rangeL_len] at q
      obtain ⟨l, x5, y5, h5, k5, k6, e5⟩ := name_ev h4 (ts := ts) (fun t ht => isName_ok (n4 t ht)) (by omega)
      have hs : (namesD ts).length < sizeLine := lt_line (by simp [namesD]; omega)
      refine ⟨[stD x4 y4 z, .int n, .ml (namesD ts), d], [stD x5 y5 z, .int n, .ml (namesD (ts ++ [l])), d], rfl, .inl ?_, x5, y5, ts ++ [l], d, h5, by simp; omega, fun t ht => ?_, ?_, rfl⟩
      · have e6 : namesD (ts ++ [l]) = namesD ts ++ [dS l] := by simp [namesD]
        rw [e6]
        simp [b__law_names_0, e5, hs]
      · rcases List.mem_append.mp ht with ht | ht
        · exact n4 t ht
        · rw [List.mem_singleton.mp ht]; exact k5
      · rw [List.nodup_append]
        refine ⟨d4, (by simp), fun a ha b hb e => ?_⟩
        rw [List.mem_singleton.mp hb] at e
        exact k6 (e ▸ ha)
  rw [rangeL_len, Nat.zero_add] at g3
  refine ⟨ts, x3, y3, h3, g3, n3, d3, ?_⟩
  have hr : range1D (varD 1) [stD x y z, .int n, .ml [], .unb] = .ok (rangeL 0 n) [stD x y z, .int n, .ml [], .unb] := range1_nat (by simp) (by omega)
  unfold d__law_names
  refine runR (env := [stD x3 y3 z, .int n, .unb, k3]) ?_
  refine seqN [stD x y z, .int n, .ml [], .unb] (by simp) ?_
  exact seqN _ (forN hr ef) (by simp)
abbrev pairD (p : Int × Int) : D := .tup [.int p.1, .int p.2]
abbrev rowD (r : List (Int × Int)) : D := .lst (r.map pairD)
def SmR (r : List (Int × Int)) : Prop := ∀ p ∈ r, Sm 100 p.1 ∧ Sm 100 p.2
structure Tab (T : List (List (Int × Int))) (m w : Nat) : Prop where
  tall : T.length = m
  wide : ∀ r ∈ T, r.length = w
  sm : ∀ r ∈ T, SmR r
theorem SmR.snoc {r : List (Int × Int)} {p : Int × Int} (h : SmR r) (h1 : Sm 100 p.1) (h2 : Sm 100 p.2) : SmR (r ++ [p]) := fun q hq => by
  rcases List.mem_append.mp hq with hq | hq
  · exact h q hq
  · rw [List.mem_singleton.mp hq]; exact ⟨h1, h2⟩
theorem S_inj {a b : List Nat} (h : S a = S b) : a = b := by
  have := congrArg (fun z : Str => z.cps.toList) h
  simpa [S] using this
/-- names handed in as a list or a tuple -/
structure NmD (d : D) (ts : List (List Nat)) : Prop where
  kind : d = .lst (namesD ts) ∨ d = .tup (namesD ts)
theorem NmD.l (ts : List (List Nat)) : NmD (.lst (namesD ts)) ts := ⟨.inl rfl⟩
theorem NmD.t (ts : List (List Nat)) : NmD (.tup (namesD ts)) ts := ⟨.inr rfl⟩
theorem NmD.own {d : D} {ts : List (List Nat)} (h : NmD d ts) : isOwn d = false := by rcases h.kind with rfl | rfl <;> rfl
theorem NmD.src {d : D} {ts : List (List Nat)} (h : NmD d ts) : srcOf d = some (namesD ts) := by rcases h.kind with rfl | rfl <;> rfl
theorem NmD.len {d : D} {ts : List (List Nat)} (h : NmD d ts) : lenD [d] = some (.int ts.length) := by rcases h.kind with rfl | rfl <;> simp [namesD]
theorem NmD.tup {d : D} {ts : List (List Nat)} (h : NmD d ts) : tupleD [d] = some (.tup (namesD ts)) := by rcases h.kind with rfl | rfl <;> rfl
theorem asked_names_ev {d : D} {ts : List (List Nat)} (hd : NmD d ts) (h : ∀ t ∈ ts, isName t = true) : d_asked_names [d] = .ret .non [] := by
  have ho := hd.own
  have hsr := hd.src
  obtain ⟨E', ef, z, rfl⟩ := forGo_inv (g := gnD 1) (db := b_asked_names_0) (fun c E => ∃ z, E = [d, z]) (namesD ts) 0 [d, .unb] ⟨_, rfl⟩ fun i x hx E hE => by
    obtain ⟨z, rfl⟩ := hE
    obtain ⟨t, ht, rfl⟩ := List.mem_map.mp (List.mem_of_getElem? hx)
    have e := is_name_ev (l := t) (by have := isName_len (h t ht); omega)
    rw [h t ht] at e
    exact ⟨[d, dS t], [d, dS t], rfl, .inl (by simp [b_asked_names_0, e]), dS t, rfl⟩
  unfold d_asked_names
  exact runN (forN (env1 := [d, .unb]) (by simp [ho, hsr]) ef)
theorem once_go : ∀ (ts pre : List (List Nat)) (w z : D) (vs : List D), (pre ++ ts).Nodup → vs.length + ts.length ≤ 1000 → ∃ ks vs' z', forGo (gnD 2) b_asked_once_0 (namesD ts) [w, .md (pre.map fun t => Sum.inr (S t)) vs, z] = .nx [w, .md ks vs', z']
  | [], pre, w, z, vs, _, _ => ⟨_, _, _, rfl⟩
  | t :: ts, pre, w, z, vs, hn, hl => by
    have hk : hasK (.inr (S t)) (pre.map fun t => Sum.inr (S t)) = false := by
      unfold hasK
      rw [List.any_map, List.any_eq_false]
      intro x hx e
      have e := of_decide_eq_true e
      injection e with e
      have := S_inj e
      subst this
      rw [List.nodup_append] at hn
      exact hn.2.2 x hx x (by simp) rfl
    obtain ⟨ks, vs', z', e⟩ := once_go ts (pre ++ [t]) w (dS t) (vs ++ [.bl true]) (by simpa using hn) (by simp at hl ⊢; omega)
    refine ⟨ks, vs', z', ?_⟩
    have hs : vs.length < sizeLine := lt_line (by simp at hl; omega)
    have hb : b_asked_once_0 [w, .md (pre.map fun t => Sum.inr (S t)) vs, dS t] = .nx [w, .md ((pre ++ [t]).map fun t => Sum.inr (S t)) (vs ++ [.bl true]), dS t] := by
      unfold b_asked_once_0
      refine seqN [w, .md (pre.map fun t => Sum.inr (S t)) vs, dS t] (ifF (env1 := [w, .md (pre.map fun t => Sum.inr (S t)) vs, dS t]) ?_ rfl) ?_
      · simp [dinD, keyD, hk]
      · simp [dputD, keyD, putKs, putDs, hk, hs]
    show forGo _ _ (dS t :: namesD ts) _ = _
    rw [forGo_nx (e1 := [w, .md (pre.map fun t => Sum.inr (S t)) vs, dS t]) rfl hb, e]
theorem asked_once_ev {d : D} {ts : List (List Nat)} (hd : NmD d ts) (h : ts.Nodup) (hl : ts.length ≤ 1000) : d_asked_once [d] = .ret .non [] := by
  have ho := hd.own
  have hsr := hd.src
  obtain ⟨ks, vs, z, e⟩ := once_go ts [] d .unb [] (by simpa using h) (by simpa using hl)
  unfold d_asked_once
  exact runN (seqN [d, .md [] [], .unb] (by simp) (forN (env1 := [d, .md [] [], .unb]) (by simp [ho, hsr]) e))
theorem asked_some_ev {d : D} {ts : List (List Nat)} (hN : NmD d ts) (a : Str) (h : ∀ t ∈ ts, isName t = true) (hd : ts.Nodup) (h1 : 1 ≤ ts.length) (h4 : ts.length ≤ 4) : d_asked_some [.str a, d] = .ret .non [] := by
  have e1 := asked_names_ev hN h
  have e2 := asked_once_ev hN hd (by omega)
  have t1 : (1 : Int) ≤ (ts.length : Int) := by omega
  have t2 : (ts.length : Int) ≤ 4 := by omega
  have e3 := hN.len
  have ho := hN.own
  unfold d_asked_some
  simp -implicitDefEqProofs [runD_ap, e1, e2, e3, t1, t2, ho]
theorem asked_pays_ev {T : List (List (Int × Int))} {m w : Nat} (h : Tab T m w) : d_asked_pays [.lst (T.map rowD), .int m, .int w] = .ret .non [] := by
  obtain ⟨E', ef, z, rfl⟩ := forGo_inv (g := gnD 3) (db := b_asked_pays_0) (fun c E => ∃ z, E = [.lst (T.map rowD), .int m, .int w, z]) (T.map rowD) 0 [.lst (T.map rowD), .int m, .int w, .unb] ⟨_, rfl⟩ fun i d hd E hE => by
    obtain ⟨z, rfl⟩ := hE
    obtain ⟨r, hr, rfl⟩ := List.mem_map.mp (List.mem_of_getElem? hd)
    exact ⟨[.lst (T.map rowD), .int m, .int w, rowD r], [.lst (T.map rowD), .int m, .int w, rowD r], rfl, .inl (by simp [b_asked_pays_0, h.wide r hr]), _, rfl⟩
  unfold d_asked_pays
  exact runN (seqN [.lst (T.map rowD), .int m, .int w, .unb] (by simp [h.tall]) (forN (by simp) ef))
abbrev tupR (r : List (Int × Int)) : D := .tup (r.map pairD)
abbrev gameL (ns ms : List (List Nat)) (T : List (List (Int × Int))) : List D := [.tup [.tup (namesD ns), .tup (namesD ms)], .tup (T.map tupR)]
abbrev gameD (ns ms : List (List Nat)) (T : List (List (Int × Int))) : D := .ins "Game" (gameL ns ms T)
structure GOk (ns ms : List (List Nat)) (T : List (List (Int × Int))) : Prop where
  an : ∀ t ∈ ns, isName t = true
  am : ∀ t ∈ ms, isName t = true
  dn : ns.Nodup
  dm : ms.Nodup
  n1 : 1 ≤ ns.length
  n4 : ns.length ≤ 4
  m1 : 1 ≤ ms.length
  m4 : ms.length ≤ 4
  tab : Tab T ns.length ms.length
theorem init_row {r : List (Int × Int)} (hr : r.length ≤ 1000) (g a b c : D) : e_Game_init_1 [g, a, b, c, rowD r, .unb, .unb] = .ok (tupR r) [g, a, b, c, rowD r, .unb, .unb] := by
  have e : lcD (itS (varD 4)) (gTupD (gConsD (gnD 5) (gConsD (gnD 6) (gNilD)))) (yesD) e_Game_init_0 [5, 6] [g, a, b, c, rowD r, .unb, .unb] = .ok (.ml (r.map pairD)) [g, a, b, c, rowD r, .unb, .unb] := by
    refine lcD_mapA (xs := r) (env1 := [g, a, b, c, rowD r, .unb, .unb]) pairD (fun p => [g, a, b, c, rowD r, .int p.1, .int p.2]) _ ?_ (by omega) (fun p hp => ⟨?_, ?_, ?_⟩) ?_
    · simp
    · simp
    · simp [e_Game_init_0]
    · simp
    · simp
  have e2 : frzL (r.map pairD) = r.map pairD := frzL_id (fun _ => rfl) _
  simp [e_Game_init_1, e, e2]
theorem init_rows {ns ms : List (List Nat)} {T : List (List (Int × Int))} (h : GOk ns ms T) {P : D} (hP : isOwn P = false) (hs : srcOf P = some (T.map rowD)) (g a b : D) : lcD (itS (varD 3)) (gnD 4) (yesD) e_Game_init_1 [4, 5, 6] [g, a, b, P, .unb, .unb, .unb] = .ok (.ml (T.map tupR)) [g, a, b, P, .unb, .unb, .unb] := by
  refine lcD_mapA (xs := T) (env1 := [g, a, b, P, .unb, .unb, .unb]) rowD (fun r => [g, a, b, P, rowD r, .unb, .unb]) _ ?_ (by have := h.tab.tall; have := h.n4; omega) (fun r hr => ⟨?_, ?_, ?_⟩) ?_
  · simp [hP, hs]
  · simp
  · exact init_row (by have := h.tab.wide r hr; have := h.m4; omega) g _ _ P
  · simp
  · simp
theorem init_ev {ns ms : List (List Nat)} {T : List (List (Int × Int))} (h : GOk ns ms T) {A B : D} (hA : NmD A ns) (hB : NmD B ms) : d_Game_init [.mi "Game" [], A, B, .lst (T.map rowD)] = .ret .non [.mi "Game" (gameL ns ms T)] := by
  have e1 := asked_some_ev hA "rows" h.an h.dn h.n1 h.n4
  have e2 := asked_some_ev hB "columns" h.am h.dm h.m1 h.m4
  have e3 := asked_pays_ev h.tab
  have l1 := hA.len
  have l2 := hB.len
  have o1 := hA.own
  have o2 := hB.own
  have t1 := hA.tup
  have t2 := hB.tup
  let P : D := .lst (T.map rowD)
  have e4 := fun g => init_rows (P := P) h rfl rfl g A B
  have e5 : frzL (T.map tupR) = T.map tupR := frzL_id (fun _ => rfl) _
  unfold d_Game_init
  refine runN (env := [.mi "Game" (gameL ns ms T), A, B, P, .unb, .unb, .unb]) ?_
  refine seqN [.mi "Game" [], A, B, P, .unb, .unb, .unb] (by simp -implicitDefEqProofs [e1, P, o1]) ?_
  refine seqN [.mi "Game" [], A, B, P, .unb, .unb, .unb] (by simp -implicitDefEqProofs [e2, P, o2]) ?_
  refine seqN [.mi "Game" [], A, B, P, .unb, .unb, .unb] (by simp -implicitDefEqProofs [e3, P, l1, l2, o1, o2]) ?_
  refine seqN [.mi "Game" [.tup [.tup (namesD ns), .tup (namesD ms)]], A, B, P, .unb, .unb, .unb] (by simp -implicitDefEqProofs [o1, o2, t1, t2]) ?_
  have e6 := e4 (.mi "Game" [.tup [.tup (namesD ns), .tup (namesD ms)]])
  simp -implicitDefEqProofs [e6, e5]
def sz (ns ms : List (List Nat)) (s : Int) : Nat := if s = 0 then ns.length else ms.length
theorem side_not (s : Int) : notInD (.int s) (.tup [.int 0, .int 1]) = some (.bl (!decide (s = 0 ∨ s = 1))) := by
  show (if fine (.int s) && fine (.tup [.int 0, .int 1]) then some (D.bl (!memD (.int s) [.int 0, .int 1])) else none) = _
  rw [fine_int, fine_tup2, Bool.and_self, if_pos rfl]
  have : memD (.int s) [.int 0, .int 1] = decide (s = 0 ∨ s = 1) := by
    unfold memD
    rw [List.any_cons, List.any_cons, List.any_nil, eqb_int, eqb_int, Bool.or_false]
    refine Bool.eq_iff_iff.mpr ?_
    simp only [Bool.or_eq_true, decide_eq_true_eq]
    exact ⟨fun h => by omega, fun h => by omega⟩
  rw [this]
theorem size_ev (ns ms : List (List Nat)) (T : List (List (Int × Int))) {s : Int} (hs : s = 0 ∨ s = 1) : d_Game_size [gameD ns ms T, .int s] = .ret (.int (sz ns ms s)) [] := by
  have l1 : (namesD ns).length = ns.length := by simp [namesD]
  have l2 : (namesD ms).length = ms.length := by simp [namesD]
  have e := side_not s
  unfold d_Game_size
  rcases hs with rfl | rfl
  · simp [runD_ap, e, sz, l1]
  · simp [runD_ap, e, sz, l2]
def cell (T : List (List (Int × Int))) (i j : Nat) : Int × Int := gd (gd T i []) j (0, 0)
theorem pay_ev {ns ms : List (List Nat)} {T : List (List (Int × Int))} (h : GOk ns ms T) {i j : Nat} (hi : i < ns.length) (hj : j < ms.length) : d_Game_pay [gameD ns ms T, .int i, .int j] = .ret (pairD (cell T i j)) [] := by
  have l1 : (namesD ns).length = ns.length := by simp [namesD]
  have l2 : (namesD ms).length = ms.length := by simp [namesD]
  have hT : i < T.length := by rw [h.tab.tall]; exact hi
  have e1 := atI_map tupR hT []
  have hr : gd T i [] ∈ T := by
    exact gd_mem hT _
  have e2 := atI_map pairD (xs := gd T i []) (i := j) (by rw [h.tab.wide _ hr]; exact hj) (0, 0)
  have t1 : (0 : Int) ≤ (i : Int) := by omega
  have t2 : (0 : Int) ≤ (j : Int) := by omega
  have ef : forGo (gTupD (gConsD (gnD 3) (gConsD (gnD 4) (gNilD)))) b_Game_pay_0 [.tup [.int (0 : Nat), .int i], .tup [.int (1 : Nat), .int j]] [gameD ns ms T, .int i, .int j, .unb, .unb] = .nx [gameD ns ms T, .int i, .int j, .int (1 : Nat), .int j] := by
    rw [forGo_nx (e1 := [gameD ns ms T, .int i, .int j, .int (0 : Nat), .int i]) (e2 := [gameD ns ms T, .int i, .int j, .int (0 : Nat), .int i]) rfl (by simp [b_Game_pay_0, l1, hi]),
      forGo_nx (e1 := [gameD ns ms T, .int i, .int j, .int (1 : Nat), .int j]) (e2 := [gameD ns ms T, .int i, .int j, .int (1 : Nat), .int j]) rfl (by simp [b_Game_pay_0, l2, hj])]
    rfl
  unfold d_Game_pay
  refine runR (env := [gameD ns ms T, .int i, .int j, .int (1 : Nat), .int j]) (seqN _ (forN (ds := [.tup [.int (0 : Nat), .int i], .tup [.int (1 : Nat), .int j]]) (env1 := [gameD ns ms T, .int i, .int j, .unb, .unb]) ?_ ef) ?_)
  · simp [enumL]
  · refine retR (env1 := [gameD ns ms T, .int i, .int j, .int (1 : Nat), .int j]) ?_
    simp [e1, e2, cell]
def fig (c : Nat) : Bool := decide (c ∈ [48, 49, 50, 51, 52, 53, 54, 55, 56, 57])
def figs (l : List Nat) : Bool := decide (1 ≤ l.length) && decide (l.length ≤ 9) && l.all fig && (decide (l = [48]) || decide (l.head? ≠ some 48))
theorem figS : ("0123456789" : Str) = S [48, 49, 50, 51, 52, 53, 54, 55, 56, 57] := by decide
theorem zeroS : ("0" : Str) = S [48] := by decide
theorem blankS : (" " : Str) = S [32] := by decide
theorem chain_len {n : Nat} : leD (.int 1) (.int n) = some (.bl (decide (1 ≤ n))) ∧ leD (.int n) (.int 9) = some (.bl (decide (n ≤ 9))) := by
  rw [leD_int, leD_int]
  exact ⟨congrArg (fun b => some (D.bl b)) (decide_eq_decide.mpr (by omega)), congrArg (fun b => some (D.bl b)) (decide_eq_decide.mpr (by omega))⟩
theorem is_figures_ev {l : List Nat} (hk : okS l) (h : l.length ≤ 1000000) : d_is_figures [.str (S l)] = .ret (.bl (figs l)) [] := by
  have e1 : lcD (itS (varD 0)) (gnD 1) yesD e_is_figures_0 [1] [.str (S l), .unb] = .ok (.ml (l.map fun c => .bl (fig c))) [.str (S l), .unb] := by
    refine lcD_mapA (xs := l) (env1 := [.str (S l), .unb]) (fun c => .str ⟨#[c]⟩) (fun c => [.str (S l), .str ⟨#[c]⟩]) _ ?_ h (fun c hc => ⟨?_, ?_, ?_⟩) ?_
    · simp [signsD_map]
    · simp
    · have := inS c [48, 49, 50, 51, 52, 53, 54, 55, 56, 57]
      simp [e_is_figures_0, figS, this, fig]
    · simp
    · simp
  have e2 : frzL (l.map fun c => D.bl (fig c)) = l.map fun c => D.bl (fig c) := frzL_id (fun _ => rfl) l
  unfold d_is_figures
  have hL := lenS h
  have t1 := chain_len (n := l.length).1
  have t2 := chain_len (n := l.length).2
  have f1 := fineS hk
  have f2 : fine (.str (S [48])) = true := fineS (by intro c hc; simp at hc; omega)
  by_cases h1 : 1 ≤ l.length
  · by_cases h2 : l.length ≤ 9
    · cases h3 : l.all fig with
      | true =>
        obtain ⟨c, r, e⟩ : ∃ c r, l = c :: r := by
          cases l with
          | nil => simp at h1
          | cons c r => exact ⟨c, r, rfl⟩
        have i0 := ix0 h e
        have f3 : fine (.str (S [c])) = true := fineS fun x hx => hk x (by simp at hx; simp [hx, e])
        have hh : l.head? = some c := by rw [e]; rfl
        have q1 := eqbS l [48]
        have q2 := eqbS [c] [48]
        have q3 : figs l = (decide (l = [48]) || !decide ([c] = [48])) := by simp [figs, h1, h2, h3, hh]
        cases b1 : decide (l = [48]) <;> cases b2 : decide ([c] = [48]) <;> rw [b1] at q1 q3 <;> rw [b2] at q2 q3 <;> rw [q3] <;>
        simp [runD_ap, -lenD_str, -leD_int, hL, t1, t2, e1, e2, allD_map, h3, i0, zeroS, f1, f2, f3, h1, h2, q1, q2]
      | false =>
        simp [runD_ap, -lenD_str, -leD_int, hL, t1, t2, e1, e2, allD_map, h3, figs, h1, h2]
    · simp [runD_ap, -lenD_str, -leD_int, hL, t1, t2, figs, h1, h2]
  · simp [runD_ap, -lenD_str, -leD_int, hL, t1, t2, figs, h1]
end K04
namespace K04
open PySem DL FR MX L2 SX PyProof.Rows
theorem numL_head : ∀ (n : Nat), 0 < n → (TL.numL n).head? ≠ some 48 := fun n => by
  induction n using Nat.strongRecOn with
  | _ n ih =>
    intro h
    by_cases h1 : n < 10
    · rw [TL.numL_lt h1]
      simp
      omega
    · rw [TL.numL_step (by omega)]
      have := ih (n / 10) (by omega) (by omega)
      cases e : TL.numL (n / 10) with
      | nil => exact absurd e (TL.numL_ne _)
      | cons a r => rw [e] at this; simpa using this
theorem numL_pos (n : Nat) : 1 ≤ (TL.numL n).length := by
  cases e : TL.numL n with
  | nil => exact absurd e (TL.numL_ne _)
  | cons a r => simp
theorem numL_fig (n : Nat) : (TL.numL n).all fig = true := List.all_eq_true.mpr fun c hc => by
  have := TL.numL_digits n c hc
  simp [fig]
  omega
theorem figs_num {n : Nat} (h : n < 10 ^ 9) : figs (TL.numL n) = true := by
  have h1 := TL.numL_len (k := 9) (by decide) h
  have h4 : TL.numL n = [48] ∨ (TL.numL n).head? ≠ some 48 := by
    by_cases h0 : n = 0
    · subst h0; exact .inl (TL.numL_lt (by decide))
    · exact .inr (numL_head n (by omega))
  unfold figs
  rw [numL_fig, decide_eq_true h1, decide_eq_true (numL_pos n)]
  rcases h4 with h4 | h4
  · rw [decide_eq_true h4]; rfl
  · rw [decide_eq_true h4]; simp
/-- more figures than nine -/
theorem numL_long : ∀ (k n : Nat), 10 ^ k ≤ n → k + 1 ≤ (TL.numL n).length
  | 0, n, _ => numL_pos n
  | k + 1, n, h => by
    have h2 : 10 ^ k * 10 ≤ n := by rw [← Nat.pow_succ]; exact h
    have h3 : 0 < 10 ^ k := Nat.pow_pos (by decide)
    rw [TL.numL_step (by omega), List.length_append]
    have := numL_long k (n / 10) (by omega)
    simp
    omega
theorem figs_long {n : Nat} (h : 10 ^ 9 ≤ n) : figs (TL.numL n) = false := by
  have := numL_long 9 n h
  unfold figs
  rw [decide_eq_false (show ¬ (TL.numL n).length ≤ 9 by omega)]
  simp
theorem numL_zero {n : Nat} (h : TL.numL n = [48]) : n = 0 := by
  have := TL.numL_val n
  rw [h] at this
  exact this.symm
theorem starts_S (c : Nat) (l : List Nat) : Txt.startswith (S l) (S [c]) = decide (l.head? = some c) := by
  cases l with
  | nil => rfl
  | cons a r =>
    unfold Txt.startswith
    rw [S_len, S_len]
    simp [Builtin.Str.subAt, S]
    show ([a] == [c]) = _
    by_cases h : a = c
    · subst h; simp
    · simp [h]
def isNum : List Nat → Bool
  | 45 :: r => figs r && !decide (r = [48])
  | l => figs l
theorem minusS : ("-" : Str) = S [45] := by decide
theorem minus0S : ("-0" : Str) = S [45, 48] := by decide
theorem is_number_ev {l : List Nat} (hk : okS l) (h : l.length ≤ 900000) : d_is_number [.str (S l)] = .ret (.bl (isNum l)) [] := by
  have hs := starts_S 45 l
  unfold d_is_number
  cases l with
  | nil =>
    have e := is_figures_ev hk (by simp)
    simp [runD_ap, minusS, starts_S, e, isNum]
  | cons a r =>
    by_cases ha : a = 45
    · subst ha
      have hr : okS r := fun c hc => hk c (List.mem_cons_of_mem _ hc)
      have e := is_figures_ev hr (by simp at h; omega)
      have c1 := cutD_from (a := 45 :: r) (i := 1) (by decide) (len_line (by simp at h ⊢; omega))
      have c1 : cutD (.str (S (45 :: r))) (some 1) none = some (.str (S r)) := c1
      have n1 := neS (a := 45 :: r) (b := [45, 48]) hk (by intro c hc; simp at hc; omega)
      have n1 : neD (.str (S (45 :: r))) (.str (S [45, 48])) = some (.bl (!decide (r = [48]))) := by rw [n1]; simp
      cases hf : figs r <;> rw [hf] at e <;> simp [runD_ap, minusS, minus0S, starts_S, -cutD_strS, c1, e, isNum, hf, -neD_ap, n1]
    · have e := is_figures_ev hk (by omega)
      have : isNum (a :: r) = figs (a :: r) := by
        unfold isNum
        split
        · rename_i q
          injection q with q1 _
          exact absurd q1 ha
        · rfl
      simp [runD_ap, minusS, starts_S, ha, e, this]
theorem isNum_intL (a : Int) : isNum (intL a) = decide (a.natAbs < 10 ^ 9) := by
  unfold intL
  by_cases h : a < 0
  · rw [if_pos h]
    show (figs (TL.numL a.natAbs) && !decide (TL.numL a.natAbs = [48])) = _
    have h0 : TL.numL a.natAbs ≠ [48] := fun z => by have := numL_zero z; omega
    rw [decide_eq_false h0]
    by_cases h9 : a.natAbs < 10 ^ 9
    · rw [figs_num h9, decide_eq_true h9]; rfl
    · rw [figs_long (by omega), decide_eq_false h9]; rfl
  · rw [if_neg h]
    have hd : isNum (TL.numL a.natAbs) = figs (TL.numL a.natAbs) := by
      unfold isNum
      split
      · rename_i r q
        have := TL.numL_digits a.natAbs 45 (by rw [q]; simp)
        omega
      · rfl
    rw [hd]
    by_cases h9 : a.natAbs < 10 ^ 9
    · rw [figs_num h9, decide_eq_true h9]
    · rw [figs_long (by omega), decide_eq_false h9]
theorem int_intL {a : Int} (h : a.natAbs < 10 ^ 9) : intXD [dS (intL a)] = some (.int a) := by
  have hl := intL_len (k := 9) (by decide) h
  rw [intXD_str, S_len, if_pos (by omega)]
  have key : intText? (S (intL a)) = some a := by
    have hd : NumText.AllDigits (TL.numL a.natAbs) := fun c hc => by have := TL.numL_digits a.natAbs c hc; omega
    have hv := TL.numL_val a.natAbs
    unfold intL at hl ⊢
    by_cases h0 : a < 0
    · rw [if_pos h0] at hl ⊢
      rw [PySem.intText_neg (cs := TL.numL a.natAbs) rfl hd (TL.numL_ne _) (by rw [S_len]; omega), hv]
      exact congrArg some (by omega)
    · rw [if_neg h0] at hl ⊢
      rw [PySem.intText_digits (x := S (TL.numL a.natAbs)) hd (TL.numL_ne _) (by rw [S_len]; omega)]
      show some ((NumText.digitsVal (TL.numL a.natAbs) : Nat) : Int) = _
      rw [hv]
      exact congrArg some (by omega)
  rw [key]
  rfl
end K04
namespace K04
open PySem DL FR MX L2 SX PyProof.Rows
def pairL (p : Int × Int) : List Nat := intL p.1 ++ 44 :: intL p.2
def smallP (p : Int × Int) : Bool := decide (p.1.natAbs < 10 ^ 9) && decide (p.2.natAbs < 10 ^ 9)
/-- numbers of up to forty figures -/
def SmP (p : Int × Int) : Prop := p.1.natAbs < 10 ^ 40 ∧ p.2.natAbs < 10 ^ 40
theorem intL_nc (a : Int) : 44 ∉ intL a := fun hc => by
  unfold intL at hc
  have key : 44 ∉ TL.numL a.natAbs := TL.numL_free (by omega)
  split at hc
  · rcases List.mem_cons.mp hc with h | h
    · omega
    · exact key h
  · exact key hc
theorem pairL_nb (p : Int × Int) : 32 ∉ pairL p := fun hc => by
  rcases List.mem_append.mp hc with h | h
  · exact intL_nb _ h
  · rcases List.mem_cons.mp h with h | h
    · omega
    · exact intL_nb _ h
theorem pairL_ok (p : Int × Int) : okS (pairL p) := fun c hc => by
  rcases List.mem_append.mp hc with h | h
  · exact intL_ok _ c h
  · rcases List.mem_cons.mp h with h | h
    · omega
    · exact intL_ok _ c h
theorem pairL_len {p : Int × Int} (h : SmP p) : (pairL p).length ≤ 83 := by
  have h1 := intL_len (k := 40) (by decide) h.1
  have h2 := intL_len (k := 40) (by decide) h.2
  unfold pairL
  rw [List.length_append, List.length_cons]
  omega
theorem pairL_ne (p : Int × Int) : pairL p ≠ [] := by simp [pairL]
theorem cut_pair (p : Int × Int) : cutP 44 (pairL p) = [intL p.1, intL p.2] := by
  have e : pairL p = TL.joinL [44] [intL p.1, intL p.2] := by simp [pairL, TL.joinL]
  rw [e]
  exact spl_join (c := 44) (sep := []) (by simp) fun q hq => by
    simp only [List.mem_cons, List.not_mem_nil, or_false] at hq
    rcases hq with rfl | rfl <;> exact intL_nc _
theorem commaS : ("," : Str) = S [44] := by decide
theorem num_each {w x : D} {ps : List (List Nat)} (hw : isOwn w = false) (hx : (if isOwn x = true then D.unb else x) = x) (hl : ps.length ≤ 1000) (h : ∀ p ∈ ps, okS p ∧ p.length ≤ 900000) : lcD (itS (varD 1)) (gnD 2) yesD e_pair_in_0 [2] [w, .lst (ps.map dS), x] = .ok (.ml (ps.map fun p => .bl (isNum p))) [w, .lst (ps.map dS), x] := by
  refine lcD_mapA (xs := ps) (env1 := [w, .lst (ps.map dS), x]) dS (fun p => [w, .lst (ps.map dS), dS p]) _ ?_ (by omega) (fun p hp => ⟨?_, ?_, ?_⟩) ?_
  · simp
  · simp
  · have e := is_number_ev (h p hp).1 (h p hp).2
    simp [e_pair_in_0, e]
  · simp
  · simp [hx]
theorem pair_in_ev {p : Int × Int} (hp : SmP p) : d_pair_in [.str (S (pairL p))] = .ret (if smallP p = true then pairD p else .non) [] := by
  have hl := pairL_len hp
  have hs := splitS (s := 44) (by decide) (l := pairL p) (len_line (by omega))
  rw [cut_pair] at hs
  have h1 := intL_len (k := 40) (by decide) hp.1
  have h2 := intL_len (k := 40) (by decide) hp.2
  have e1 := num_each (w := dS (pairL p)) (x := .unb) (ps := [intL p.1, intL p.2]) rfl rfl (by simp) (by
    intro q hq
    simp only [List.mem_cons, List.not_mem_nil, or_false] at hq
    rcases hq with rfl | rfl
    · exact ⟨intL_ok _, by omega⟩
    · exact ⟨intL_ok _, by omega⟩)
  have e2 : frzL ([intL p.1, intL p.2].map fun p => D.bl (isNum p)) = [intL p.1, intL p.2].map fun p => D.bl (isNum p) := frzL_id (fun _ => rfl) _
  have e3 := allD_map isNum [intL p.1, intL p.2]
  simp only [List.map_cons, List.map_nil] at hs e1 e2 e3
  simp only [List.all_cons, List.all_nil, Bool.and_true] at e3
  have q1 := isNum_intL p.1
  have q2 := isNum_intL p.2
  unfold d_pair_in smallP
  cases b1 : decide (p.1.natAbs < 10 ^ 9) <;> cases b2 : decide (p.2.natAbs < 10 ^ 9) <;> rw [b1] at q1 <;> rw [b2] at q2 <;> rw [q1, q2] at e1 e2 e3
  · simp -implicitDefEqProofs [runD_ap, commaS, -splitD_str, hs, e1, e2, e3]
  · simp -implicitDefEqProofs [runD_ap, commaS, -splitD_str, hs, e1, e2, e3]
  · simp -implicitDefEqProofs [runD_ap, commaS, -splitD_str, hs, e1, e2, e3]
  · have i1 := int_intL (of_decide_eq_true b1)
    have i2 := int_intL (of_decide_eq_true b2)
    simp -implicitDefEqProofs [runD_ap, commaS, -splitD_str, hs, e1, e2, e3, -intXD_str, i1, i2]
end K04
namespace K04
open PySem DL FR MX L2 SX PyProof.Rows
def kwR : List Nat := [114, 111, 119, 115]
def kwC : List Nat := [99, 111, 108, 117, 109, 110, 115]
def kwP : List Nat := [112, 97, 121]
theorem kwRS : ("rows" : Str) = S kwR := by decide
theorem kwCS : ("columns" : Str) = S kwC := by decide
theorem kwPS : ("pay" : Str) = S kwP := by decide
def kwT (n : Nat) : List Nat := if n = 0 then kwR else if n = 1 then kwC else kwP
theorem kw_nb (n : Nat) : 32 ∉ kwT n := by
  unfold kwT
  split
  · decide
  · split <;> decide
theorem kw_ok (n : Nat) : okS (kwT n) := fun c hc => by
  have key : ∀ l ∈ [kwR, kwC, kwP], ∀ c ∈ l, c < 1000 := by decide
  have := key (kwT n) (by
    unfold kwT
    split
    · simp
    · split <;> simp) c hc
  omega
theorem kw_len (n : Nat) : (kwT n).length ≤ 7 := by
  unfold kwT
  split
  · decide
  · split <;> decide
theorem kw_at (n : Nat) : ixD (.ctp [.str "rows", .str "columns", .str "pay"]) (.int (min (n : Int) 2)) = some (dS (kwT n)) := by
  rw [kwRS, kwCS, kwPS]
  unfold kwT
  by_cases h0 : n = 0
  · subst h0; rfl
  · by_cases h1 : n = 1
    · subst h1; rfl
    · have : min (n : Int) 2 = 2 := by omega
      rw [this, if_neg h0, if_neg h1]
      rfl
/-- parts as they stand in a row -/
structure Parts (ps : List (List Nat)) : Prop where
  ne : ps ≠ []
  each : ∀ p ∈ ps, 32 ∉ p ∧ p ≠ [] ∧ okS p ∧ p.length ≤ 100
  len : ps.length ≤ 8
def lineT (n : Nat) (ps : List (List Nat)) : List Nat := TL.joinL [32] (kwT n :: ps)
theorem Parts.line_len {ps : List (List Nat)} (h : Parts ps) (n : Nat) : (lineT n ps).length ≤ 2000 := by
  have h1 := joinL_len 32 (kwT n :: ps)
  have h2 := sum_le (B := 100) (ps := ps) fun p hp => (h.each p hp).2.2.2
  have h3 := kw_len n
  have h4 := h.len
  simp only [List.map_cons, List.sum_cons, List.length_cons] at h1
  unfold lineT
  omega
theorem Parts.cut {ps : List (List Nat)} (h : Parts ps) (n : Nat) : cutP 32 (lineT n ps) = kwT n :: ps := spl_join (c := 32) (sep := []) (by simp) fun p hp => by
  rcases List.mem_cons.mp hp with rfl | hp
  · exact kw_nb n
  · exact (h.each p hp).1
/-- the first pair that is too great -/
def badP (k : Nat) : List (Int × Int) → Option Nat
  | [] => none
  | p :: r => if smallP p = true then badP (k + 1) r else some k
theorem emptyS : ("" : Str) = S [] := by decide
theorem not_empty {p : List Nat} (hk : okS p) (h : p ≠ []) : eqD (dS p) (dS []) = some (.bl false) := by
  rw [eqS hk (by intro c hc; simp at hc), decide_eq_false h]
theorem names_for {n : Nat} (hn : n ≤ 1) {r w g : D} : ∀ (ps : List (List Nat)) (k : Nat) (a b : D), (∀ p ∈ ps, okS p ∧ p ≠ []) →
    ∃ a' b', forGo (gTupD (gConsD (gnD 4) (gConsD (gnD 5) (gNilD)))) b_parts_behind_0 (enumL k (ps.map dS)) [r, .int n, w, g, a, b] = .nx [r, .int n, w, g, a', b']
  | [], k, a, b, _ => ⟨a, b, rfl⟩
  | p :: ps, k, a, b, h => by
    obtain ⟨hk, hp⟩ := h p (by simp)
    obtain ⟨a', b', e⟩ := names_for hn ps (k + 1) (.int k) (dS p) fun q hq => h q (List.mem_cons_of_mem _ hq)
    have e1 := not_empty hk hp
    have e2 : ¬ ((1 : Int) < (n : Int)) := by omega
    have e2' : gtD (.int n) (.int 1) = some (.bl false) := by
      show some (D.bl (decide ((n : Int) > 1))) = _
      rw [decide_eq_false (by omega)]
    refine ⟨a', b', ?_⟩
    show forGo _ _ (.tup [.int k, dS p] :: enumL (k + 1) (ps.map dS)) _ = _
    rw [forGo_nx (e1 := [r, .int n, w, g, .int k, dS p]) (e2 := [r, .int n, w, g, .int k, dS p]) rfl (by
      simp -implicitDefEqProofs [b_parts_behind_0, emptyS, -eqD_ap, e1, -gtD_int, e2'])]
    exact e
theorem pairs_for {n : Nat} (hn : 2 ≤ n) {r w g : D} : ∀ (ps : List (Int × Int)) (k : Nat) (a b : D), (∀ p ∈ ps, SmP p) →
    match badP k ps with
    | none => ∃ a' b', forGo (gTupD (gConsD (gnD 4) (gConsD (gnD 5) (gNilD)))) b_parts_behind_0 (enumL k (ps.map fun p => dS (pairL p))) [r, .int n, w, g, a, b] = .nx [r, .int n, w, g, a', b']
    | some i => ∃ e, forGo (gTupD (gConsD (gnD 4) (gConsD (gnD 5) (gNilD)))) b_parts_behind_0 (enumL k (ps.map fun p => dS (pairL p))) [r, .int n, w, g, a, b] = .ex "BadRow" [.int n, .int (i + 1 : Nat)] e
  | [], k, a, b, _ => ⟨a, b, rfl⟩
  | p :: ps, k, a, b, h => by
    have hp := h p (by simp)
    have ih := pairs_for hn (r := r) (w := w) (g := g) ps (k + 1) (.int k) (dS (pairL p)) fun q hq => h q (List.mem_cons_of_mem _ hq)
    have e1 := not_empty (pairL_ok p) (pairL_ne p)
    have e2' : gtD (.int n) (.int 1) = some (.bl true) := by
      show some (D.bl (decide ((n : Int) > 1))) = _
      rw [decide_eq_true (by omega)]
    have e3 := pair_in_ev hp
    have n1 : isNonD (pairD p) .non = some (.bl false) := rfl
    have n2 : isNonD .non .non = some (.bl true) := rfl
    unfold badP
    cases hs : smallP p with
    | true =>
      rw [hs, if_pos rfl] at e3
      rw [if_pos rfl]
      have st : ∀ rest, forGo (gTupD (gConsD (gnD 4) (gConsD (gnD 5) (gNilD)))) b_parts_behind_0 (.tup [.int k, dS (pairL p)] :: rest) [r, .int n, w, g, a, b] = forGo (gTupD (gConsD (gnD 4) (gConsD (gnD 5) (gNilD)))) b_parts_behind_0 rest [r, .int n, w, g, .int k, dS (pairL p)] := fun rest =>
        forGo_nx (e1 := [r, .int n, w, g, .int k, dS (pairL p)]) (e2 := [r, .int n, w, g, .int k, dS (pairL p)]) rfl (by
          simp -implicitDefEqProofs [b_parts_behind_0, emptyS, -eqD_ap, e1, -gtD_int, e2', e3, n1])
      have st := st (enumL (k + 1) (ps.map fun p => dS (pairL p)))
      cases hb : badP (k + 1) ps with
      | none =>
        rw [hb] at ih
        obtain ⟨a', b', e⟩ := ih
        exact ⟨a', b', st.trans e⟩
      | some i =>
        rw [hb] at ih
        obtain ⟨e', e⟩ := ih
        exact ⟨e', st.trans e⟩
    | false =>
      rw [hs, if_neg (by decide)] at e3
      rw [if_neg (by decide)]
      refine ⟨[r, .int n, w, g, .int k, dS (pairL p)], ?_⟩
      show forGo _ _ (.tup [.int k, dS (pairL p)] :: enumL (k + 1) (ps.map fun p => dS (pairL p))) _ = _
      have eb : b_parts_behind_0 [r, .int n, w, g, .int k, dS (pairL p)] = .ex "BadRow" [.int n, .int (k + 1 : Nat)] [r, .int n, w, g, .int k, dS (pairL p)] := by
        simp -implicitDefEqProofs [b_parts_behind_0, emptyS, -eqD_ap, e1, -gtD_int, e2', e3, n2]
      exact forGo_ex (e1 := [r, .int n, w, g, .int k, dS (pairL p)]) rfl eb
theorem Parts.ok {ps : List (List Nat)} (h : Parts ps) (n : Nat) : okS (lineT n ps) := join_okS (by decide) fun p hp => by
  rcases List.mem_cons.mp hp with rfl | hp
  · exact kw_ok n
  · exact (h.each p hp).2.2.1
theorem pd_names {ps : List (List Nat)} (h : ∀ p ∈ ps, okS p) : pd 1 (.lst (ps.map dS)) = true := by
  unfold pd
  exact pdL_map fun p hp => pdS (h p hp) 0
theorem seqX {a b : List D → O} {env env1 : List D} {c : Str} {fs : List D} (h : a env = .ex c fs env1) : seqD a b env = .ex c fs env1 := by
  unfold seqD
  rw [h]
/-- up to the walk through the parts -/
theorem parts_pre {n : Nat} {ps : List (List Nat)} (h : Parts ps) {rest : List D → O} :
    (seqD (starD 2 3 (txtD splitD (varD 0) (constD (.str " ")))) (seqD (ifS (testD (binD neD (varD 2) (binD ixD (constD (.ctp [.str "rows", .str "columns", .str "pay"])) (callBD minX (consD (varD 1) (consD (constD (.int 2)) (nilD))))))) (raiseD "BadRow" (consD (varD 1) (consD (constD (.int 0)) (nilD)))) (skipD)) (seqD (ifS (testD (cmpL eqD 3 (lstD (nilD)))) (raiseD "BadRow" (consD (varD 1) (consD (constD (.int 1)) (nilD)))) (skipD)) rest))) [dS (lineT n ps), .int n, .unb, .unb, .unb, .unb]
      = rest [dS (lineT n ps), .int n, dS (kwT n), .ml (ps.map dS), .unb, .unb] := by
  have hl := h.line_len n
  have hs := splitS (s := 32) (by decide) (l := lineT n ps) (len_line (by omega))
  rw [h.cut n] at hs
  have hk := kw_at n
  have hm : minX [.int (n : Int), .int 2] = some (.int (min (n : Int) 2)) := by
    show some (D.int (if (2 : Int) < (n : Int) then 2 else (n : Int))) = _
    congr 2
    split <;> omega
  have hn : neD (dS (kwT n)) (dS (kwT n)) = some (.bl false) := by rw [neS (kw_ok n) (kw_ok n), decide_eq_true rfl]; rfl
  have h8 : ps.length < 16000 := by have := h.len; omega
  have he : eqD (.lst (ps.map dS)) (.lst []) = some (.bl false) := by
    have h1 := pd_names (ps := ps) fun p hp => (h.each p hp).2.2.1
    have h2 : pd 1 (.lst []) = true := rfl
    have h3 : ib (.lst (ps.map dS)) = true := by
      unfold ib
      exact ibL_map fun _ _ => rfl
    rw [eqD_ap, fine_pd h1, fine_pd h2, eqb_no h1 h2 h3 rfl (by
      intro z
      injection z with z
      exact h.ne (List.map_eq_nil_iff.mp z))]
    rfl
  have hf : frz (.ml (ps.map dS)) = .lst (ps.map dS) := congrArg D.lst (frz_names ps)
  refine seqN [dS (lineT n ps), .int n, dS (kwT n), .ml (ps.map dS), .unb, .unb] (by simp -implicitDefEqProofs [blankS, -splitD_str, hs, h8]) ?_
  refine seqN [dS (lineT n ps), .int n, dS (kwT n), .ml (ps.map dS), .unb, .unb] (ifF (env1 := [dS (lineT n ps), .int n, dS (kwT n), .ml (ps.map dS), .unb, .unb]) (by simp -implicitDefEqProofs [-minX_two, hm, hk, -neD_ap, hn]) rfl) ?_
  refine seqN [dS (lineT n ps), .int n, dS (kwT n), .ml (ps.map dS), .unb, .unb] (ifF (env1 := [dS (lineT n ps), .int n, dS (kwT n), .ml (ps.map dS), .unb, .unb]) (by simp -implicitDefEqProofs [hf, -eqD_ap, he]) rfl) rfl
/-- where the parts can stand -/
theorem parts_behind_ok {n : Nat} {ps : List (List Nat)} (h : Parts ps) {a' b' : D}
    (ef : forGo (gTupD (gConsD (gnD 4) (gConsD (gnD 5) (gNilD)))) b_parts_behind_0 (enumL 0 (ps.map dS)) [dS (lineT n ps), .int n, dS (kwT n), .lst (ps.map dS), .unb, .unb] = .nx [dS (lineT n ps), .int n, dS (kwT n), .lst (ps.map dS), a', b']) :
    d_parts_behind [dS (lineT n ps), .int n] = .ret (.lst (ps.map dS)) [] := by
  have hf : frz (.ml (ps.map dS)) = .lst (ps.map dS) := congrArg D.lst (frz_names ps)
  unfold d_parts_behind
  refine runR (env := [dS (lineT n ps), .int n, dS (kwT n), .unb, a', b']) ((parts_pre h).trans ?_)
  exact seqN _ (forN (env1 := [dS (lineT n ps), .int n, dS (kwT n), .lst (ps.map dS), .unb, .unb]) (by simp -implicitDefEqProofs [hf]) ef) rfl
theorem parts_behind_ex {n : Nat} {ps : List (List Nat)} (h : Parts ps) {k : Int} {e : List D}
    (ef : forGo (gTupD (gConsD (gnD 4) (gConsD (gnD 5) (gNilD)))) b_parts_behind_0 (enumL 0 (ps.map dS)) [dS (lineT n ps), .int n, dS (kwT n), .lst (ps.map dS), .unb, .unb] = .ex "BadRow" [.int n, .int k] e) :
    d_parts_behind [dS (lineT n ps), .int n] = .exc "BadRow" [.int n, .int k] [] := by
  have hf : frz (.ml (ps.map dS)) = .lst (ps.map dS) := congrArg D.lst (frz_names ps)
  unfold d_parts_behind
  refine runE (env := e) ((parts_pre h).trans ?_)
  exact seqX (forN (env1 := [dS (lineT n ps), .int n, dS (kwT n), .lst (ps.map dS), .unb, .unb]) (by simp -implicitDefEqProofs [hf]) ef)
/-- a row of names -/
theorem parts_names {n : Nat} (hn : n ≤ 1) {ps : List (List Nat)} (h : Parts ps) : d_parts_behind [dS (lineT n ps), .int n] = .ret (.lst (ps.map dS)) [] := by
  obtain ⟨a', b', ef⟩ := names_for hn (r := dS (lineT n ps)) (w := dS (kwT n)) (g := .lst (ps.map dS)) ps 0 .unb .unb fun p hp => ⟨(h.each p hp).2.2.1, (h.each p hp).2.1⟩
  exact parts_behind_ok h ef
abbrev pairsT (r : List (Int × Int)) : List (List Nat) := r.map pairL
theorem pairs_parts {r : List (Int × Int)} (h0 : r ≠ []) (h : ∀ p ∈ r, SmP p) (hl : r.length ≤ 8) : Parts (pairsT r) where
  ne := by simpa [pairsT] using h0
  each := fun q hq => by
    obtain ⟨p, hp, rfl⟩ := List.mem_map.mp hq
    have := pairL_len (h p hp)
    exact ⟨pairL_nb p, pairL_ne p, pairL_ok p, by omega⟩
  len := by simpa [pairsT] using hl
/-- a row of pays -/
theorem parts_pairs {n : Nat} (hn : 2 ≤ n) {r : List (Int × Int)} (h0 : r ≠ []) (h : ∀ p ∈ r, SmP p) (hl : r.length ≤ 8) :
    d_parts_behind [dS (lineT n (pairsT r)), .int n] = match badP 0 r with
      | none => .ret (.lst ((pairsT r).map dS)) []
      | some i => .exc "BadRow" [.int n, .int (i + 1 : Nat)] [] := by
  have P := pairs_parts h0 h hl
  have ef := pairs_for hn (r := dS (lineT n (pairsT r))) (w := dS (kwT n)) (g := .lst ((pairsT r).map dS)) r 0 .unb .unb h
  have em : (pairsT r).map dS = r.map fun p => dS (pairL p) := by rw [List.map_map]; rfl
  rw [← em] at ef
  cases hb : badP 0 r with
  | none =>
    rw [hb] at ef
    obtain ⟨a', b', ef⟩ := ef
    exact parts_behind_ok P ef
  | some i =>
    rw [hb] at ef
    obtain ⟨e, ef⟩ := ef
    exact parts_behind_ex P ef
end K04
namespace K04
open PySem DL FR MX L2 SX PyProof.Rows
abbrev LX (ds acc env : List D) : R (List D) := lcGoX (gTupD (gConsD (gnD 2) (gConsD (gnD 3) (gNilD)))) yesD e_read_game_0 [2, 3] ds acc env
/-- the first row that can not be read, and where -/
def badR (k : Nat) : List (List (Int × Int)) → Option (Nat × Nat)
  | [] => none
  | r :: T => match badP 0 r with
    | some i => some (k, i)
    | none => badR (k + 1) T
theorem lineT_two {n : Nat} (hn : 2 ≤ n) (ps : List (List Nat)) : lineT 2 ps = lineT n ps := by
  unfold lineT kwT
  rw [if_neg (by decide), if_neg (by decide), if_neg (by omega), if_neg (by omega)]
abbrev rowText (r : List (Int × Int)) : List Nat := lineT 2 (pairsT r)
abbrev textsOf (ns ms : List (List Nat)) (T : List (List (Int × Int))) : List (List Nat) := lineT 0 ns :: lineT 1 ms :: T.map rowText
abbrev cutsD (r : List (Int × Int)) : D := .lst ((pairsT r).map dS)
theorem elt_ok {w : D} {l : List Nat} {n : Nat} {ps : List (List Nat)} (e : d_parts_behind [dS l, .int n] = .ret (.lst (ps.map dS)) []) : e_read_game_0 [w, .unb, .int n, dS l, .unb, .unb] = .ok (.lst (ps.map dS)) [w, .unb, .int n, dS l, .unb, .unb] := by
  have hf : frz (.lst (ps.map dS)) = .lst (ps.map dS) := rfl
  unfold e_read_game_0
  simp -implicitDefEqProofs [e, hf]
theorem elt_ex {w : D} {l : List Nat} {n : Nat} {fs : List D} (e : d_parts_behind [dS l, .int n] = .exc "BadRow" fs []) : e_read_game_0 [w, .unb, .int n, dS l, .unb, .unb] = .ex "BadRow" fs [w, .unb, .int n, dS l, .unb, .unb] := by
  unfold e_read_game_0
  simp -implicitDefEqProofs [e]
theorem lx_step {w y : D} {l : List Nat} {n : Nat} {ds acc : List D} (hw : isOwn w = false) (e : e_read_game_0 [w, .unb, .int n, dS l, .unb, .unb] = .ok y [w, .unb, .int n, dS l, .unb, .unb]) :
    LX (.tup [.int n, dS l] :: ds) acc [w, .unb, .unb, .unb, .unb, .unb] = LX ds (acc ++ [y]) [w, .unb, .unb, .unb, .unb, .unb] := by
  unfold LX
  conv => lhs; unfold lcGoX
  simp only [gTupD_ap, gConsD_ap, gnD_ap, gNilD_ap, List.set_cons_succ, List.set_cons_zero]
  simp [yesD, e, wipeD]
theorem lx_stop {w : D} {fs : List D} {l : List Nat} {n : Nat} {ds acc : List D} (hw : isOwn w = false) (e : e_read_game_0 [w, .unb, .int n, dS l, .unb, .unb] = .ex "BadRow" fs [w, .unb, .int n, dS l, .unb, .unb]) :
    LX (.tup [.int n, dS l] :: ds) acc [w, .unb, .unb, .unb, .unb, .unb] = .ex "BadRow" fs [w, .unb, .unb, .unb, .unb, .unb] := by
  unfold LX
  conv => lhs; unfold lcGoX
  simp only [gTupD_ap, gConsD_ap, gnD_ap, gNilD_ap, List.set_cons_succ, List.set_cons_zero]
  simp [yesD, e, wipeD]
theorem lx_rows {w : D} (hw : isOwn w = false) : ∀ (T : List (List (Int × Int))) (k : Nat) (acc : List D), 2 ≤ k → (∀ r ∈ T, r ≠ [] ∧ r.length ≤ 8 ∧ ∀ p ∈ r, SmP p) →
    LX (enumL k (T.map fun r => dS (rowText r))) acc [w, .unb, .unb, .unb, .unb, .unb] = match badR k T with
      | none => .ok (acc ++ T.map cutsD) [w, .unb, .unb, .unb, .unb, .unb]
      | some q => .ex "BadRow" [.int q.1, .int (q.2 + 1 : Nat)] [w, .unb, .unb, .unb, .unb, .unb]
  | [], k, acc, _, _ => by simp [badR, LX, lcGoX, enumL]
  | r :: T, k, acc, hk, h => by
    obtain ⟨h1, h2, h3⟩ := h r (by simp)
    have e := parts_pairs hk h1 h3 h2
    rw [← lineT_two hk] at e
    unfold badR
    show LX (.tup [.int k, dS (rowText r)] :: enumL (k + 1) (T.map fun r => dS (rowText r))) acc _ = _
    cases hb : badP 0 r with
    | none =>
      rw [hb] at e
      rw [lx_step hw (elt_ok e), lx_rows hw T (k + 1) _ (by omega) fun q hq => h q (List.mem_cons_of_mem _ hq)]
      cases badR (k + 1) T with
      | none => simp
      | some q => rfl
    | some i =>
      rw [hb] at e
      exact lx_stop hw (elt_ex e)
/-- of a game's rows -/
structure RowsOk (ns ms : List (List Nat)) (T : List (List (Int × Int))) : Prop where
  g : GOk ns ms T
  pn : Parts ns
  pm : Parts ms
  pt : ∀ r ∈ T, r ≠ [] ∧ r.length ≤ 8 ∧ ∀ p ∈ r, SmP p
theorem badR_none : ∀ {T : List (List (Int × Int))} {k : Nat}, badR k T = none → ∀ r ∈ T, badP 0 r = none
  | [], _, _, r, hr => absurd hr (List.not_mem_nil)
  | q :: T, k, h, r, hr => by
    unfold badR at h
    cases hb : badP 0 q with
    | some i => rw [hb] at h; cases h
    | none =>
      rw [hb] at h
      rcases List.mem_cons.mp hr with rfl | hr
      · exact hb
      · exact badR_none h r hr
theorem badP_none : ∀ {r : List (Int × Int)} {k : Nat}, badP k r = none → ∀ p ∈ r, smallP p = true
  | [], _, _, p, hp => absurd hp (List.not_mem_nil)
  | q :: r, k, h, p, hp => by
    unfold badP at h
    cases hq : smallP q with
    | false => rw [hq, if_neg (by decide)] at h; cases h
    | true =>
      rw [hq, if_pos rfl] at h
      rcases List.mem_cons.mp hp with rfl | hp
      · exact hq
      · exact badP_none h p hp
theorem pays_row {w f n q z : D} {r : List (Int × Int)} (hb : badP 0 r = none) (hr : ∀ p ∈ r, SmP p) (hl : r.length ≤ 8) (hz : (if isOwn z = true then D.unb else z) = z) :
    e_read_game_2 [w, f, n, q, cutsD r, z] = .ok (rowD r) [w, f, n, q, cutsD r, z] := by
  have e : lcD (itS (varD 4)) (gnD 5) yesD e_read_game_1 [5] [w, f, n, q, cutsD r, z] = .ok (.ml (r.map pairD)) [w, f, n, q, cutsD r, z] := by
    refine lcD_mapA (xs := r) (env1 := [w, f, n, q, cutsD r, z]) (fun p => dS (pairL p)) (fun p => [w, f, n, q, cutsD r, dS (pairL p)]) _ ?_ (by omega) (fun p hp => ⟨?_, ?_, ?_⟩) ?_
    · have em : (pairsT r).map dS = r.map fun p => dS (pairL p) := by rw [List.map_map]; rfl
      simp [em]
    · simp
    · have e1 := pair_in_ev (hr p hp)
      rw [badP_none hb p hp, if_pos rfl] at e1
      simp [e_read_game_1, e1]
    · simp
    · simp [hz]
  have e2 : frzL (r.map pairD) = r.map pairD := frzL_id (fun _ => rfl) _
  unfold e_read_game_2
  simp -implicitDefEqProofs [e, e2]
theorem pays_all {w n q : D} {ns ms : List (List Nat)} {T : List (List (Int × Int))} (hb : badR 2 T = none) (hT : ∀ r ∈ T, r ≠ [] ∧ r.length ≤ 8 ∧ ∀ p ∈ r, SmP p) (hl : T.length ≤ 8) :
    lcD (itS (sliceD (varD 1) (partD (constD (.int 2))) (noPartD))) (gnD 4) yesD e_read_game_2 [4, 5] [w, .lst (.lst (ns.map dS) :: .lst (ms.map dS) :: T.map cutsD), n, q, .unb, .unb]
      = .ok (.ml (T.map rowD)) [w, .lst (.lst (ns.map dS) :: .lst (ms.map dS) :: T.map cutsD), n, q, .unb, .unb] := by
  refine lcD_mapA (xs := T) (env1 := [w, .lst (.lst (ns.map dS) :: .lst (ms.map dS) :: T.map cutsD), n, q, .unb, .unb]) cutsD (fun r => [w, .lst (.lst (ns.map dS) :: .lst (ms.map dS) :: T.map cutsD), n, q, cutsD r, .unb]) _ ?_ (by omega) (fun r hr => ⟨?_, ?_, ?_⟩) ?_
  · have c := cutL_from (l := .lst (ns.map dS) :: .lst (ms.map dS) :: T.map cutsD) (a := 2) (by decide)
    have c : cutL (.lst (ns.map dS) :: .lst (ms.map dS) :: T.map cutsD) (some 2) none = T.map cutsD := c
    simp [c]
  · simp
  · exact pays_row (badR_none hb r hr) (hT r hr).2.2 (hT r hr).2.1 rfl
  · simp
  · simp
theorem read_game_ev {ns ms : List (List Nat)} {T : List (List (Int × Int))} (h : RowsOk ns ms T) {w : D} (ho : isOwn w = false) (hs : srcOf w = some ((textsOf ns ms T).map dS)) :
    d_read_game [w] = match badR 2 T with
      | none => .ret (.mi "Game" (gameL ns ms T)) []
      | some q => .exc "BadRow" [.int q.1, .int (q.2 + 1 : Nat)] [] := by
  have hT8 : T.length ≤ 8 := by have := h.g.tab.tall; have := h.g.n4; omega
  have hT1 : 1 ≤ T.length := by have := h.g.tab.tall; have := h.g.n1; omega
  have x0 : LX (enumL 0 ((textsOf ns ms T).map dS)) [] [w, .unb, .unb, .unb, .unb, .unb] = LX (enumL 2 (T.map fun r => dS (rowText r))) [.lst (ns.map dS), .lst (ms.map dS)] [w, .unb, .unb, .unb, .unb, .unb] := by
    have em : (T.map rowText).map dS = T.map fun r => dS (rowText r) := by rw [List.map_map]; rfl
    have a0 := lx_step (w := w) (n := 0) (l := lineT 0 ns) (ds := enumL 1 (dS (lineT 1 ms) :: T.map fun r => dS (rowText r))) (acc := []) ho (elt_ok (parts_names (n := 0) (by decide) h.pn))
    have a1 := lx_step (w := w) (n := 1) (l := lineT 1 ms) (ds := enumL 2 (T.map fun r => dS (rowText r))) (acc := [.lst (ns.map dS)]) ho (elt_ok (parts_names (n := 1) (by decide) h.pm))
    show LX (enumL 0 (dS (lineT 0 ns) :: dS (lineT 1 ms) :: (T.map rowText).map dS)) [] _ = _
    rw [em]
    exact a0.trans a1
  have x1 := lx_rows ho T 2 [.lst (ns.map dS), .lst (ms.map dS)] (by decide) h.pt
  have xl : (textsOf ns ms T).length ≤ 1000000 := by simp [textsOf]; omega
  have xe : (enumL 0 ((textsOf ns ms T).map dS)).length ≤ 1000000 := by
    rw [enumL_len, List.length_map]
    exact xl
  unfold d_read_game
  cases hb : badR 2 T with
  | some q =>
    rw [hb] at x1
    have lx : lcXD (enumD (varD 0)) (gTupD (gConsD (gnD 2) (gConsD (gnD 3) (gNilD)))) (yesD) e_read_game_0 [2, 3] [w, .unb, .unb, .unb, .unb, .unb] = .ex "BadRow" [.int q.1, .int (q.2 + 1 : Nat)] [w, .unb, .unb, .unb, .unb, .unb] := by
      rw [lcXD_ap]
      have : enumD (varD 0) [w, .unb, .unb, .unb, .unb, .unb] = .ok (enumL 0 ((textsOf ns ms T).map dS)) [w, .unb, .unb, .unb, .unb, .unb] := by simp [ho, hs]
      rw [this, bindR_ok, if_pos xe]
      have e : wipeD [w, .unb, .unb, .unb, .unb, .unb] [2, 3] = [w, .unb, .unb, .unb, .unb, .unb] := rfl
      rw [e, show lcGoX _ _ _ _ (enumL 0 ((textsOf ns ms T).map dS)) [] [w, .unb, .unb, .unb, .unb, .unb] = _ from x0.trans x1]
      simp [lcFin, ho]
    exact runE (seqX (by
      unfold asgD frzD
      show bindS (bindR (lcXD _ _ _ _ _ [w, .unb, .unb, .unb, .unb, .unb]) _) _ = _
      rw [lx]
      rfl))
  | none =>
    rw [hb] at x1
    have lx : lcXD (enumD (varD 0)) (gTupD (gConsD (gnD 2) (gConsD (gnD 3) (gNilD)))) (yesD) e_read_game_0 [2, 3] [w, .unb, .unb, .unb, .unb, .unb] = .ok (.ml (.lst (ns.map dS) :: .lst (ms.map dS) :: T.map cutsD)) [w, .unb, .unb, .unb, .unb, .unb] := by
      rw [lcXD_ap]
      have : enumD (varD 0) [w, .unb, .unb, .unb, .unb, .unb] = .ok (enumL 0 ((textsOf ns ms T).map dS)) [w, .unb, .unb, .unb, .unb, .unb] := by simp [ho, hs]
      rw [this, bindR_ok, if_pos xe]
      have e : wipeD [w, .unb, .unb, .unb, .unb, .unb] [2, 3] = [w, .unb, .unb, .unb, .unb, .unb] := rfl
      rw [e, show lcGoX _ _ _ _ (enumL 0 ((textsOf ns ms T).map dS)) [] [w, .unb, .unb, .unb, .unb, .unb] = _ from x0.trans x1]
      simp [lcFin, ho]
    have fz : frz (.ml (.lst (ns.map dS) :: .lst (ms.map dS) :: T.map cutsD)) = .lst (.lst (ns.map dS) :: .lst (ms.map dS) :: T.map cutsD) := congrArg D.lst (by
      show _ :: _ :: frzL (T.map cutsD) = _
      rw [frzL_id (fun _ => rfl) T]
      rfl)
    refine runR (env := [w, .lst (.lst (ns.map dS) :: .lst (ms.map dS) :: T.map cutsD), .unb, .unb, .unb, .unb]) (seqN [w, .lst (.lst (ns.map dS) :: .lst (ms.map dS) :: T.map cutsD), .unb, .unb, .unb, .unb] ?_ (seqN [w, .lst (.lst (ns.map dS) :: .lst (ms.map dS) :: T.map cutsD), .unb, .unb, .unb, .unb] (ifF (env1 := [w, .lst (.lst (ns.map dS) :: .lst (ms.map dS) :: T.map cutsD), .unb, .unb, .unb, .unb]) ?_ rfl) (retR (env1 := [w, .lst (.lst (ns.map dS) :: .lst (ms.map dS) :: T.map cutsD), .unb, .unb, .unb, .unb]) ?_)))
    · unfold asgD frzD
      show bindS (bindR (lcXD _ _ _ _ _ [w, .unb, .unb, .unb, .unb, .unb]) _) _ = _
      rw [lx, bindR_ok, fz]
      rfl
    · simp
      omega
    · have e1 : d_Game_init [.mi "Game" [], .lst (ns.map dS), .lst (ms.map dS), .lst (T.map rowD)] = _ := init_ev h.g (NmD.l ns) (NmD.l ms)
      have e2 := pays_all (w := w) (n := .unb) (q := .unb) (ns := ns) (ms := ms) hb h.pt hT8
      have e3 : frzL (T.map rowD) = T.map rowD := frzL_id (fun _ => rfl) _
      simp -implicitDefEqProofs [e1, e2, e3]
end K04
namespace K04
open PySem DL FR MX L2 SX PyProof.Rows
theorem map_gd {α : Type} (l : List α) (d : α) : (List.range l.length).map (fun i => gd l i d) = l := by
  refine List.ext_getElem? fun i => ?_
  rw [List.getElem?_map]
  by_cases h : i < l.length
  · rw [List.getElem?_range h]
    simp [gd, List.getD_eq_getElem?_getD, List.getElem?_eq_getElem h]
  · rw [List.getElem?_eq_none (by simpa using h), List.getElem?_eq_none (by omega)]
    rfl
theorem map_gd2 {α β : Type} (l : List α) (d : α) {n : Nat} (hn : l.length = n) (f : α → β) : (List.range n).map (fun i => f (gd l i d)) = l.map f := by
  subst hn
  conv => rhs; rw [← map_gd l d]
  rw [List.map_map]
  rfl
theorem join_line {n : Nat} {ps : List (List Nat)} (h : ∀ p ∈ ps, p.length ≤ 100) (hl : ps.length ≤ 8) : joinD (S [32]) (.lst (dS (kwT n) :: ps.map dS)) = some (dS (lineT n ps)) := by
  refine joinS (s := [32]) (ps := kwT n :: ps) ?_
  have h2 := sum_le (B := 100) (ps := ps) h
  have h3 := kw_len n
  simp only [List.map_cons, List.sum_cons, List.length_cons, List.length_nil]
  omega
theorem small_int {a : Int} (h : a.natAbs < 10 ^ 40) : a.natAbs < 2 ^ 1900 := Nat.lt_trans h (by decide +kernel)
theorem fmt_pair {p : Int × Int} (hp : SmP p) (g f r q c : D) : e_game_rows_1 [g, f, r, q, c, .int p.1, .int p.2] = .ok (dS (pairL p)) [g, f, r, q, c, .int p.1, .int p.2] := by
  have t1 : fmtD (.int p.1) = some (dS (intL p.1)) := strI (small_int hp.1)
  have t2 : fmtD (.int p.2) = some (dS (intL p.2)) := strI (small_int hp.2)
  have h1 := intL_len (k := 40) (by decide) hp.1
  have h2 := intL_len (k := 40) (by decide) hp.2
  have em : PySem.Str.empty = S [] := by decide
  unfold e_game_rows_1 pairL
  simp [-fmtD_int, t1, t2, em, commaS, S_cat, S_len]
  rw [if_pos (len_line (by omega)), if_pos (len_line (by omega)), if_pos (len_line (by omega))]
theorem line_pays {r : List (Int × Int)} (hr : ∀ p ∈ r, SmP p) (hl : r.length ≤ 8) (g f i c : D) : lcD (itS (varD 3)) (gTupD (gConsD (gnD 5) (gConsD (gnD 6) (gNilD)))) yesD e_game_rows_1 [5, 6] [g, f, i, .lst (r.map pairD), c, .unb, .unb] = .ok (.ml ((pairsT r).map dS)) [g, f, i, .lst (r.map pairD), c, .unb, .unb] := by
  have e : lcD (itS (varD 3)) (gTupD (gConsD (gnD 5) (gConsD (gnD 6) (gNilD)))) yesD e_game_rows_1 [5, 6] [g, f, i, .lst (r.map pairD), c, .unb, .unb] = .ok (.ml (r.map fun p => dS (pairL p))) [g, f, i, .lst (r.map pairD), c, .unb, .unb] := by
    refine lcD_mapA (xs := r) (env1 := [g, f, i, .lst (r.map pairD), c, .unb, .unb]) pairD (fun p => [g, f, i, .lst (r.map pairD), c, .int p.1, .int p.2]) _ ?_ (by omega) (fun p hp => ⟨?_, ?_, ?_⟩) ?_
    · simp
    · simp
    · exact fmt_pair (hr p hp) g f i _ c
    · simp
    · simp
  rw [e, List.map_map]
  rfl
theorem asg_frz {i : Nat} {da : List D → R D} {env env1 : List D} {d : D} (h : da env = .ok d env1) : asgD i (frzD da) env = .nx (env1.set i (frz d)) := by
  unfold asgD frzD
  rw [h]
  rfl
theorem row_cells {ns ms : List (List Nat)} {T : List (List (Int × Int))} (h : GOk ns ms T) {i : Nat} (hi : i < ns.length) {p : D} (hp : (if isOwn p = true then D.unb else p) = p) {acc : List D} :
    lcD (range1D (frzD (methO "Game" 2 [] d_Game_size (varD 0) (consA (constD (.int 1)) (nilA))))) (gnD 4) yesD e_game_rows_0 [4] [gameD ns ms T, .ml acc, .int i, p, .unb, .unb, .unb] = .ok (.ml ((gd T i []).map pairD)) [gameD ns ms T, .ml acc, .int i, p, .unb, .unb, .unb] := by
  have hm := h.m4
  have e1 := size_ev ns ms T (s := 1) (.inr rfl)
  have ez : sz ns ms 1 = ms.length := rfl
  rw [ez] at e1
  have hw : (gd T i []).length = ms.length := h.tab.wide _ (gd_mem (by rw [h.tab.tall]; exact hi) _)
  have e : lcD (range1D (frzD (methO "Game" 2 [] d_Game_size (varD 0) (consA (constD (.int 1)) (nilA))))) (gnD 4) yesD e_game_rows_0 [4] [gameD ns ms T, .ml acc, .int i, p, .unb, .unb, .unb] = .ok (.ml ((List.range ms.length).map fun j => pairD (cell T i j))) [gameD ns ms T, .ml acc, .int i, p, .unb, .unb, .unb] := by
    refine lcD_mapA (xs := List.range ms.length) (env1 := [gameD ns ms T, .ml acc, .int i, p, .unb, .unb, .unb]) (fun j : Nat => D.int j) (fun j => [gameD ns ms T, .ml acc, .int i, p, .int j, .unb, .unb]) _ ?_ (by simp; omega) (fun j hj => ⟨?_, ?_, ?_⟩) ?_
    · rw [range1_nat (n := ms.length) (env1 := [gameD ns ms T, .ml acc, .int i, p, .unb, .unb, .unb]) (by simp -implicitDefEqProofs [e1]) (by omega), range1]
    · simp
    · have e2 := pay_ev h hi (List.mem_range.mp hj)
      simp -implicitDefEqProofs [e_game_rows_0, e2]
    · simp
    · simp [hp]
  rw [e]
  have em := map_gd2 (gd T i []) (0, 0) hw pairD
  exact congrArg (fun l => R.ok (D.ml l) [gameD ns ms T, D.ml acc, D.int i, p, .unb, .unb, .unb]) em
theorem game_rows_go {ns ms : List (List Nat)} {T : List (List (Int × Int))} (h : RowsOk ns ms T) : ∀ (is : List Nat) (acc : List D) (z p : D), (if isOwn p = true then D.unb else p) = p → (∀ i ∈ is, i < ns.length) → acc.length + is.length ≤ 100000 →
    ∃ z' p', forGo (gnD 2) b_game_rows_0 (is.map fun i : Nat => D.int i) [gameD ns ms T, .ml acc, z, p, .unb, .unb, .unb] = .nx [gameD ns ms T, .ml (acc ++ is.map fun i => dS (rowText (gd T i []))), z', p', .unb, .unb, .unb]
  | [], acc, z, p, _, _, _ => ⟨z, p, by simp [forGo]⟩
  | i :: is, acc, z, p, hp, hi, hl => by
    have hi0 := hi i (by simp)
    have hr := h.pt (gd T i []) (gd_mem (by rw [h.g.tab.tall]; exact hi0) _)
    obtain ⟨z', p', e⟩ := game_rows_go h is (acc ++ [dS (rowText (gd T i []))]) (.int i) (.lst ((gd T i []).map pairD)) rfl (fun k hk => hi k (List.mem_cons_of_mem _ hk)) (by simp at hl ⊢; omega)
    refine ⟨z', p', ?_⟩
    have e1 := row_cells h.g hi0 hp (acc := acc)
    have e2 := line_pays hr.2.2 hr.2.1 (gameD ns ms T) (.ml acc) (.int i) .unb
    have e3 := join_line (n := 2) (ps := pairsT (gd T i [])) (fun q hq => by
      obtain ⟨x, hx, rfl⟩ := List.mem_map.mp hq
      have := pairL_len (hr.2.2 x hx)
      omega) (by simpa [pairsT] using hr.2.1)
    have f1 : frzL ((gd T i []).map pairD) = (gd T i []).map pairD := frzL_id (fun _ => rfl) _
    have f2 : frzL ((pairsT (gd T i [])).map dS) = (pairsT (gd T i [])).map dS := frz_names _
    have ha : acc.length < sizeLine := lt_line (by simp at hl; omega)
    have k2 : kwT 2 = kwP := rfl
    have hz : 1 + (gd T i []).length ≤ sizeLine := len_line (by omega)
    rw [k2] at e3
    have eb : b_game_rows_0 [gameD ns ms T, .ml acc, .int i, p, .unb, .unb, .unb] = .nx [gameD ns ms T, .ml (acc ++ [dS (rowText (gd T i []))]), .int i, .lst ((gd T i []).map pairD), .unb, .unb, .unb] := by
      unfold b_game_rows_0
      refine seqN [gameD ns ms T, .ml acc, .int i, .lst ((gd T i []).map pairD), .unb, .unb, .unb] ?_ ?_
      · rw [asg_frz e1]
        show O.nx [gameD ns ms T, .ml acc, .int i, .lst (frzL ((gd T i []).map pairD)), .unb, .unb, .unb] = _
        rw [f1]
      · simp -implicitDefEqProofs [-List.map_map, e2, f2, blankS, kwPS, hz, e3, ha]
    rw [List.map_cons, forGo_nx (e1 := [gameD ns ms T, .ml acc, .int i, p, .unb, .unb, .unb]) rfl eb, e]
    simp
theorem rows_of_game (ns ms : List (List Nat)) (T : List (List (Int × Int))) : d_Game_rows [gameD ns ms T] = .ret (.lst (namesD ns)) [] ∧ d_Game_columns [gameD ns ms T] = .ret (.lst (namesD ms)) [] := by
  constructor
  · simp [d_Game_rows, runD_ap]
  · simp [d_Game_columns, runD_ap]
theorem game_rows_ev {ns ms : List (List Nat)} {T : List (List (Int × Int))} (h : RowsOk ns ms T) : d_game_rows [gameD ns ms T] = .ret (.ml ((textsOf ns ms T).map dS)) [] := by
  have hn := h.g.n4
  have e1 := (rows_of_game ns ms T).1
  have e2 := (rows_of_game ns ms T).2
  have j1 := join_line (n := 0) (ps := ns) (fun p hp => (h.pn.each p hp).2.2.2) h.pn.len
  have j2 := join_line (n := 1) (ps := ms) (fun p hp => (h.pm.each p hp).2.2.2) h.pm.len
  have k0 : kwT 0 = kwR := rfl
  have k1 : kwT 1 = kwC := rfl
  rw [k0] at j1
  rw [k1] at j2
  have f1 : frz (.lst (namesD ns)) = .lst (ns.map dS) := rfl
  have f2 : frz (.lst (namesD ms)) = .lst (ms.map dS) := rfl
  have e3 := size_ev ns ms T (s := 0) (.inl rfl)
  have ez : sz ns ms 0 = ns.length := rfl
  rw [ez] at e3
  obtain ⟨z', p', ef⟩ := game_rows_go h (List.range ns.length) [dS (lineT 0 ns), dS (lineT 1 ms)] .unb .unb rfl (fun i hi => List.mem_range.mp hi) (by simp; omega)
  rw [map_gd2 T [] h.g.tab.tall fun r => dS (rowText r)] at ef
  have et : [dS (lineT 0 ns), dS (lineT 1 ms)] ++ T.map (fun r => dS (rowText r)) = (textsOf ns ms T).map dS := by
    show _ = dS (lineT 0 ns) :: dS (lineT 1 ms) :: (T.map rowText).map dS
    rw [List.map_map]
    rfl
  rw [et] at ef
  unfold d_game_rows
  refine runR (env := [gameD ns ms T, .unb, z', p', .unb, .unb, .unb]) ?_
  refine seqN [gameD ns ms T, .ml [dS (lineT 0 ns), dS (lineT 1 ms)], .unb, .unb, .unb, .unb, .unb] ?_ (seqN _ (forN (ds := (List.range ns.length).map fun i : Nat => D.int i) (env1 := [gameD ns ms T, .ml [dS (lineT 0 ns), dS (lineT 1 ms)], .unb, .unb, .unb, .unb, .unb]) ?_ ef) rfl)
  · have z1 : 1 + ns.length ≤ sizeLine := len_line (by omega)
    have z2 : 1 + ms.length ≤ sizeLine := len_line (by have := h.g.m4; omega)
    simp -implicitDefEqProofs [e1, e2, f1, f2, blankS, kwRS, kwCS, z1, z2, j1, j2]
  · rw [range1_nat (n := ns.length) (env1 := [gameD ns ms T, .ml [dS (lineT 0 ns), dS (lineT 1 ms)], .unb, .unb, .unb, .unb, .unb]) (by simp -implicitDefEqProofs [e3]) (by omega), range1]
end K04
namespace K04
open PySem DL FR MX L2 SX PyProof.Rows
abbrev gD (ns ms : List (List Nat)) (T : List (List (Int × Int))) : D := .tup [.lst (namesD ns), .lst (namesD ms), .lst (T.map rowD)]
theorem str_pair {p : Int × Int} (hp : SmP p) (g f l : D) : e__law_rows_of_0 [g, f, l, .int p.1, .int p.2] = .ok (dS (pairL p)) [g, f, l, .int p.1, .int p.2] := by
  have t1 : strD [.int p.1] = some (dS (intL p.1)) := strI (small_int hp.1)
  have t2 : strD [.int p.2] = some (dS (intL p.2)) := strI (small_int hp.2)
  have h1 := intL_len (k := 40) (by decide) hp.1
  have h2 := intL_len (k := 40) (by decide) hp.2
  unfold e__law_rows_of_0 pairL
  simp [-strD_int, t1, t2, commaS, S_cat, S_len]
  rw [if_pos (len_line (by omega))]
  simp [-strD_int, t2, S_cat, S_len]
  rw [if_pos (len_line (by omega))]
  rfl
theorem str_line {r : List (Int × Int)} (hr : ∀ p ∈ r, SmP p) (hl : r.length ≤ 8) (g f : D) : e__law_rows_of_1 [g, f, rowD r, .unb, .unb] = .ok (dS (rowText r)) [g, f, rowD r, .unb, .unb] := by
  have e : lcD (itS (varD 2)) (gTupD (gConsD (gnD 3) (gConsD (gnD 4) (gNilD)))) yesD e__law_rows_of_0 [3, 4] [g, f, rowD r, .unb, .unb] = .ok (.ml (r.map fun p => dS (pairL p))) [g, f, rowD r, .unb, .unb] := by
    refine lcD_mapA (xs := r) (env1 := [g, f, rowD r, .unb, .unb]) pairD (fun p => [g, f, rowD r, .int p.1, .int p.2]) _ ?_ (by omega) (fun p hp => ⟨?_, ?_, ?_⟩) ?_
    · simp
    · simp
    · exact str_pair (hr p hp) g f _
    · simp
    · simp
  have em : (pairsT r).map dS = r.map fun p => dS (pairL p) := by rw [List.map_map]; rfl
  have e3 := join_line (n := 2) (ps := pairsT r) (fun q hq => by
      obtain ⟨x, hx, rfl⟩ := List.mem_map.mp hq
      have := pairL_len (hr x hx)
      omega) (by simpa [pairsT] using hl)
  have k2 : kwT 2 = kwP := rfl
  rw [k2, em] at e3
  have f2 : frzL (r.map fun p => dS (pairL p)) = r.map fun p => dS (pairL p) := frzL_id (fun _ => rfl) _
  have hz : 1 + r.length ≤ sizeLine := len_line (by omega)
  unfold e__law_rows_of_1
  simp -implicitDefEqProofs [e, f2, blankS, kwPS, hz, e3]
theorem law_rows_ev {ns ms : List (List Nat)} {T : List (List (Int × Int))} (h : RowsOk ns ms T) : d__law_rows_of [gD ns ms T] = .ret (.lst ((textsOf ns ms T).map dS)) [] := by
  have hn := h.g.n4
  have hm := h.g.m4
  have tall := h.g.tab.tall
  have j1 := join_line (n := 0) (ps := ns) (fun p hp => (h.pn.each p hp).2.2.2) h.pn.len
  have j2 := join_line (n := 1) (ps := ms) (fun p hp => (h.pm.each p hp).2.2.2) h.pm.len
  have k0 : kwT 0 = kwR := rfl
  have k1 : kwT 1 = kwC := rfl
  rw [k0] at j1
  rw [k1] at j2
  have z1 : 1 + (namesD ns).length ≤ sizeLine := len_line (by simp [namesD]; omega)
  have z2 : 1 + (namesD ms).length ≤ sizeLine := len_line (by simp [namesD]; omega)
  have z3 : 2 + T.length ≤ sizeLine := len_line (by omega)
  have j1 : joinD (S [32]) (.lst (dS kwR :: namesD ns)) = _ := j1
  have j2 : joinD (S [32]) (.lst (dS kwC :: namesD ms)) = _ := j2
  have e : lcD (itS (binD ixD (varD 0) (constD (.int 2)))) (gnD 2) yesD e__law_rows_of_1 [2, 3, 4] [gD ns ms T, .lst [dS (lineT 0 ns), dS (lineT 1 ms)], .unb, .unb, .unb] = .ok (.ml (T.map fun r => dS (rowText r))) [gD ns ms T, .lst [dS (lineT 0 ns), dS (lineT 1 ms)], .unb, .unb, .unb] := by
    refine lcD_mapA (xs := T) (env1 := [gD ns ms T, .lst [dS (lineT 0 ns), dS (lineT 1 ms)], .unb, .unb, .unb]) rowD (fun r => [gD ns ms T, .lst [dS (lineT 0 ns), dS (lineT 1 ms)], rowD r, .unb, .unb]) _ ?_ (by omega) (fun r hr => ⟨?_, ?_, ?_⟩) ?_
    · simp
    · simp
    · exact str_line (h.pt r hr).2.2 (h.pt r hr).2.1 _ _
    · simp
    · simp
  have f2 : frzL (T.map fun r => dS (rowText r)) = T.map fun r => dS (rowText r) := frzL_id (fun _ => rfl) _
  have et : [dS (lineT 0 ns), dS (lineT 1 ms)] ++ T.map (fun r => dS (rowText r)) = (textsOf ns ms T).map dS := by
    show _ = dS (lineT 0 ns) :: dS (lineT 1 ms) :: (T.map rowText).map dS
    rw [List.map_map]
    rfl
  unfold d__law_rows_of
  refine runR (env := [gD ns ms T, .lst [dS (lineT 0 ns), dS (lineT 1 ms)], .unb, .unb, .unb]) (seqN [gD ns ms T, .lst [dS (lineT 0 ns), dS (lineT 1 ms)], .unb, .unb, .unb] ?_ (retR (env1 := [gD ns ms T, .lst [dS (lineT 0 ns), dS (lineT 1 ms)], .unb, .unb, .unb]) ?_))
  · simp -implicitDefEqProofs [blankS, kwRS, kwCS, z1, z2, j1, j2]
  · rw [← et]
    simp -implicitDefEqProofs [e, f2, z3]
end K04
namespace K04
open PySem DL FR MX L2 SX PyProof.Rows
theorem nine_sm {a : Int} (h : a.natAbs < 10 ^ 9) : Sm 100 a := Nat.lt_trans h (by decide +kernel)
theorem pay_drawn {x y z : Int} (h : StOk x y z) : ∃ (a x' y' : Int), StOk x' y' z ∧ a.natAbs < 10 ^ 9 ∧ d__law_pay [stD x y z] = .ret (.int a) [stD x' y' z] := by
  obtain ⟨k, x1, y1, h1, p1, q1, e1⟩ := digit_ev (b := 8) h (by decide) (by decide)
  unfold d__law_pay
  by_cases h7 : k = 7
  · subst h7
    obtain ⟨r, x2, y2, h2, p2, q2, e2⟩ := digit_ev (b := 1999999997) h1 (by decide) (by decide)
    refine ⟨r - 1000000000 + 2, x2, y2, h2, by omega, ?_⟩
    simp [runD_ap, e1, fitsPow_lit, fitsMul_l, e2]
  · have hk : k % 3 = 0 ∨ k % 3 = 1 ∨ k % 3 = 2 := by omega
    rcases hk with hk | hk | hk
    · obtain ⟨r, x2, y2, h2, p2, q2, e2⟩ := digit_ev (b := 3) h1 (by decide) (by decide)
      refine ⟨r - 1, x2, y2, h2, by omega, ?_⟩
      have a1 : atI [D.int 3, D.int 5, D.int 9] 0 = some (.int 3) := rfl
      have a2 : atI [D.int 1, D.int 2, D.int 4] 0 = some (.int 1) := rfl
      rw [← Int.fmod_eq_emod_of_nonneg _ (by decide)] at hk
      simp [runD_ap, e1, h7, hk, e2, a1, a2]
    · obtain ⟨r, x2, y2, h2, p2, q2, e2⟩ := digit_ev (b := 5) h1 (by decide) (by decide)
      refine ⟨r - 2, x2, y2, h2, by omega, ?_⟩
      have a1 : atI [D.int 3, D.int 5, D.int 9] 1 = some (.int 5) := rfl
      have a2 : atI [D.int 1, D.int 2, D.int 4] 1 = some (.int 2) := rfl
      rw [← Int.fmod_eq_emod_of_nonneg _ (by decide)] at hk
      simp [runD_ap, e1, h7, hk, e2, a1, a2]
    · obtain ⟨r, x2, y2, h2, p2, q2, e2⟩ := digit_ev (b := 9) h1 (by decide) (by decide)
      refine ⟨r - 4, x2, y2, h2, by omega, ?_⟩
      have a1 : atI [D.int 3, D.int 5, D.int 9] 2 = some (.int 9) := rfl
      have a2 : atI [D.int 1, D.int 2, D.int 4] 2 = some (.int 4) := rfl
      rw [← Int.fmod_eq_emod_of_nonneg _ (by decide)] at hk
      simp [runD_ap, e1, h7, hk, e2, a1, a2]
theorem name_parts {ts : List (List Nat)} (h : ∀ t ∈ ts, isName t = true) (h1 : 1 ≤ ts.length) (h8 : ts.length ≤ 8) : Parts ts where
  ne := by intro z; rw [z] at h1; simp at h1
  each := fun t ht => by
    have hn := h t ht
    have hl := isName_len hn
    refine ⟨fun hc => ?_, fun z => by rw [z] at hl; simp at hl, isName_ok hn, by omega⟩
    unfold isName at hn
    simp only [Bool.and_eq_true] at hn
    have := List.all_eq_true.mp hn.2 32 hc
    exact absurd this (by decide)
  len := h8
theorem sm_sp {p : Int × Int} (h : Sm 100 p.1 ∧ Sm 100 p.2) : SmP p := ⟨Nat.lt_trans h.1 (by decide +kernel), Nat.lt_trans h.2 (by decide +kernel)⟩
theorem rows_ok {ns ms : List (List Nat)} {T : List (List (Int × Int))} (h : GOk ns ms T) : RowsOk ns ms T where
  g := h
  pn := name_parts h.an h.n1 (by have := h.n4; omega)
  pm := name_parts h.am h.m1 (by have := h.m4; omega)
  pt := fun r hr => by
    have hw := h.tab.wide r hr
    have h1 := h.m1
    have h4 := h.m4
    exact ⟨fun z => by rw [z] at hw; simp at hw; omega, by omega, fun p hp => sm_sp (h.tab.sm r hr p hp)⟩
/-- pays of nine figures at most -/
def Small (T : List (List (Int × Int))) : Prop := ∀ r ∈ T, ∀ p ∈ r, smallP p = true
theorem badP_all : ∀ {r : List (Int × Int)} {k : Nat}, (∀ p ∈ r, smallP p = true) → badP k r = none
  | [], _, _ => rfl
  | p :: r, k, h => by
    unfold badP
    rw [if_pos (h p (by simp))]
    exact badP_all fun q hq => h q (List.mem_cons_of_mem _ hq)
theorem badR_all : ∀ {T : List (List (Int × Int))} {k : Nat}, Small T → badR k T = none
  | [], _, _ => rfl
  | r :: T, k, h => by
    unfold badR
    rw [badP_all (h r (by simp))]
    exact badR_all fun q hq => h q (List.mem_cons_of_mem _ hq)
theorem two_names {x y z : Int} (h : StOk x y z) : ∃ (ns ms : List (List Nat)) (x' y' : Int), StOk x' y' z ∧ (∀ t ∈ ns, isName t = true) ∧ (∀ t ∈ ms, isName t = true) ∧ ns.Nodup ∧ ms.Nodup ∧ (1 ≤ ns.length ∧ ns.length ≤ 4) ∧ (1 ≤ ms.length ∧ ms.length ≤ 4) ∧
    lcD (range1D (constD (.int 2))) (gnD 3) (yesD) e__law_game_0 [3] [stD x y z, .int 4, .unb, .unb, .unb, .unb, .unb] = .ok (.ml [.lst (namesD ns), .lst (namesD ms)]) [stD x' y' z, .int 4, .unb, .unb, .unb, .unb, .unb] := by
  obtain ⟨ys, E', e2, e3, e4, x2, y2, h2, rfl⟩ := lcD_inv (de := e__law_game_0) (vs := [3]) (g := gnD 3) (di := range1D (constD (.int 2))) (env := [stD x y z, .int 4, .unb, .unb, .unb, .unb, .unb]) (fun E => ∃ x y, StOk x y z ∧ E = [stD x y z, .int 4, .unb, .unb, .unb, .unb, .unb])
    (fun d => ∃ ts : List (List Nat), d = .lst (namesD ts) ∧ ((∀ t ∈ ts, isName t = true) ∧ ts.Nodup ∧ 1 ≤ ts.length ∧ ts.length ≤ 4)) (range1_nat (n := 2) (env1 := [stD x y z, .int 4, .unb, .unb, .unb, .unb, .unb]) (by simp) (by omega)) (by rw [rangeL_len]; omega) ⟨x, y, h, by simp⟩
    fun d hd E hE => by
      obtain ⟨x3, y3, h3, rfl⟩ := hE
      obtain ⟨r, x4, y4, h4, p4, q4, e4⟩ := digit_ev (b := 6) h3 (by decide) (by decide)
      obtain ⟨m, rfl⟩ := Int.eq_ofNat_of_zero_le p4
      have e5 := atI_map D.int (xs := [2, 3, 2, 3, 1, 4]) (i := m) (by show m < 6; omega) 0
      have key : ∀ m < 6, 1 ≤ gd [2, 3, 2, 3, 1, 4] m (0 : Int) ∧ gd [2, 3, 2, 3, 1, 4] m (0 : Int) ≤ 4 := by decide
      have key := key m (by omega)
      simp only [List.map_cons, List.map_nil] at e5
      generalize hv : gd [2, 3, 2, 3, 1, 4] m (0 : Int) = v at e5 key
      obtain ⟨n, rfl⟩ := Int.eq_ofNat_of_zero_le (show 0 ≤ v by omega)
      obtain ⟨ts, x5, y5, h5, l5, n5, d5, e6⟩ := names_ev h4 (n := n) (by omega)
      have hm : minX [.int 4, .int (n : Int)] = some (.int n) := by
        rw [minX_two]
        by_cases h4 : (n : Int) < 4
        · rw [if_pos h4]
        · rw [if_neg h4, show (n : Int) = 4 by omega]
      have hf : frz (.ml (namesD ts)) = .lst (namesD ts) := congrArg D.lst (frz_names ts)
      refine ⟨[stD x3 y3 z, .int 4, .unb, d, .unb, .unb, .unb], .lst (namesD ts), [stD x5 y5 z, .int 4, .unb, d, .unb, .unb, .unb], rfl, ?_, ⟨ts, rfl, n5, d5, by omega, by omega⟩, x5, y5, h5, by simp⟩
      have he : e__law_game_0 [stD x3 y3 z, .int 4, .unb, d, .unb, .unb, .unb] = .ok (frz (.ml (namesD ts))) [stD x5 y5 z, .int 4, .unb, d, .unb, .unb, .unb] := by
        unfold e__law_game_0
        generalize d__law_names = q at e6 ⊢
        generalize d__law_digit = q2 at e4 ⊢
        generalize namesD ts = A at e6 ⊢
        simp -implicitDefEqProofs [e4, e5, -minX_two, hm, e6]
      rw [he, hf]
  rw [rangeL_len] at e3
  obtain ⟨xs, rfl, hx⟩ := map_of e4
  rw [List.length_map] at e3
  match xs, e3, hx with
  | [ns, ms], _, hx =>
    have a := hx ns (by simp)
    have b := hx ms (by simp)
    refine ⟨ns, ms, x2, y2, h2, a.1, b.1, a.2.1, b.2.1, a.2.2, b.2.2, ?_⟩
    rw [e2]
    simp
end K04
namespace K04
open PySem DL FR MX L2 SX PyProof.Rows
def SmallP (p : Int × Int) : Prop := p.1.natAbs < 10 ^ 9 ∧ p.2.natAbs < 10 ^ 9
theorem pay_row {x y z : Int} (h : StOk x y z) (A B i : D) (w : Nat) (bs : List D) (hB : B = .lst bs) (hw : bs.length = w) (w4 : w ≤ 4) : ∃ (r : List (Int × Int)) (x' y' : Int), StOk x' y' z ∧ r.length = w ∧ (∀ p ∈ r, SmallP p) ∧
    e__law_game_2 [stD x y z, .int 4, .lst [A, B], .unb, .unb, i, .unb] = .ok (rowD r) [stD x' y' z, .int 4, .lst [A, B], .unb, .unb, i, .unb] := by
  subst hB
  obtain ⟨ys, E', e2, e3, e4, x2, y2, h2, rfl⟩ := lcD_inv (de := e__law_game_1) (vs := [6]) (g := gnD 6) (di := itS (binD ixD (varD 2) (constD (.int 1)))) (env := [stD x y z, .int 4, .lst [A, .lst bs], .unb, .unb, i, .unb]) (ds := bs) (env1 := [stD x y z, .int 4, .lst [A, .lst bs], .unb, .unb, i, .unb]) (fun E => ∃ x y, StOk x y z ∧ E = [stD x y z, .int 4, .lst [A, .lst bs], .unb, .unb, i, .unb])
    (fun d => ∃ p : Int × Int, d = pairD p ∧ SmallP p) (by simp) (by omega) ⟨x, y, h, by simp⟩
    fun d hd E hE => by
      obtain ⟨x3, y3, h3, rfl⟩ := hE
      obtain ⟨a, x4, y4, h4, s4, f4⟩ := pay_drawn h3
      obtain ⟨b, x5, y5, h5, s5, f5⟩ := pay_drawn h4
      refine ⟨[stD x3 y3 z, .int 4, .lst [A, .lst bs], .unb, .unb, i, d], pairD (a, b), [stD x5 y5 z, .int 4, .lst [A, .lst bs], .unb, .unb, i, d], rfl, ?_, ⟨(a, b), rfl, s4, s5⟩, x5, y5, h5, by simp⟩
      unfold e__law_game_1
      generalize d__law_pay = q at f4 f5 ⊢
      simp -implicitDefEqProofs [f4, f5]
  obtain ⟨r, rfl, hr⟩ := map_of e4
  rw [List.length_map] at e3
  refine ⟨r, x2, y2, h2, by omega, hr, ?_⟩
  have f : frzL (r.map pairD) = r.map pairD := frzL_id (fun _ => rfl) _
  unfold e__law_game_2
  generalize lcD (itS (binD ixD (varD 2) (constD (.int 1)))) (gnD 6) yesD e__law_game_1 [6] = q at e2 ⊢
  unfold frzD
  rw [e2]
  show R.ok (D.lst (frzL (r.map pairD))) _ = _
  rw [f]
  simp
theorem law_game_ev {x y z : Int} (h : StOk x y z) : ∃ (ns ms : List (List Nat)) (T : List (List (Int × Int))) (x' y' : Int), StOk x' y' z ∧ GOk ns ms T ∧ (∀ r ∈ T, ∀ p ∈ r, SmallP p) ∧ d__law_game [stD x y z, .int 4] = .ret (gD ns ms T) [stD x' y' z] := by
  obtain ⟨ns, ms, x1, y1, h1, an, am, dn, dm, n1, m1, e1⟩ := two_names h
  have ln : (namesD ns).length = ns.length := by simp [namesD]
  have lm : (namesD ms).length = ms.length := by simp [namesD]
  obtain ⟨ys, E', e2, e3, e4, x2, y2, h2, rfl⟩ := lcD_inv (de := e__law_game_2) (vs := [5, 6]) (g := gnD 5) (di := itS (binD ixD (varD 2) (constD (.int 0)))) (env := [stD x1 y1 z, .int 4, .lst [.lst (namesD ns), .lst (namesD ms)], .unb, .unb, .unb, .unb]) (ds := namesD ns) (env1 := [stD x1 y1 z, .int 4, .lst [.lst (namesD ns), .lst (namesD ms)], .unb, .unb, .unb, .unb]) (fun E => ∃ x y, StOk x y z ∧ E = [stD x y z, .int 4, .lst [.lst (namesD ns), .lst (namesD ms)], .unb, .unb, .unb, .unb])
    (fun d => ∃ r : List (Int × Int), d = rowD r ∧ (r.length = ms.length ∧ ∀ p ∈ r, SmallP p)) (by simp) (by omega) ⟨x1, y1, h1, by simp⟩
    fun d hd E hE => by
      obtain ⟨x3, y3, h3, rfl⟩ := hE
      obtain ⟨r, x4, y4, h4, l4, s4, f4⟩ := pay_row h3 (.lst (namesD ns)) _ d ms.length (namesD ms) rfl lm (by omega)
      exact ⟨_, rowD r, _, rfl, f4, ⟨r, rfl, l4, s4⟩, x4, y4, h4, by simp⟩
  obtain ⟨T, rfl, hT⟩ := map_of e4
  rw [List.length_map, ln] at e3
  have sm : ∀ r ∈ T, ∀ p ∈ r, SmallP p := fun r hr => (hT r hr).2
  have tab : Tab T ns.length ms.length := ⟨e3, fun r hr => (hT r hr).1, fun r hr p hp => ⟨nine_sm (sm r hr p hp).1, nine_sm (sm r hr p hp).2⟩⟩
  refine ⟨ns, ms, T, x2, y2, h2, ⟨an, am, dn, dm, n1.1, n1.2, m1.1, m1.2, tab⟩, sm, ?_⟩
  have f : frzL (T.map rowD) = T.map rowD := frzL_id (fun _ => rfl) _
  have a1 := asg_frz (i := 2) e1
  have a2 := asg_frz (i := 4) e2
  unfold d__law_game
  generalize lcD (range1D (constD (.int 2))) (gnD 3) yesD e__law_game_0 [3] = q1 at a1 ⊢
  generalize lcD (itS (binD ixD (varD 2) (constD (.int 0)))) (gnD 5) yesD e__law_game_2 [5, 6] = q2 at a2 ⊢
  refine runR (env := [stD x2 y2 z, .int 4, .lst [.lst (namesD ns), .lst (namesD ms)], .unb, .lst (T.map rowD), .unb, .unb]) (seqN _ a1 (seqN [stD x2 y2 z, .int 4, .lst [.lst (namesD ns), .lst (namesD ms)], .unb, .lst (T.map rowD), .unb, .unb] ?_ (retR (env1 := [stD x2 y2 z, .int 4, .lst [.lst (namesD ns), .lst (namesD ms)], .unb, .lst (T.map rowD), .unb, .unb]) ?_)))
  · refine a2.trans ?_
    show O.nx ((backD _ _ _).set 4 (.lst (frzL (T.map rowD)))) = _
    rw [f]
    simp
  · simp
end K04
namespace K04
open PySem DL FR MX L2 SX PyProof.Rows
abbrev mlT (T : List (List (Int × Int))) : D := .ml (T.map fun r => .ml (r.map pairD))
def setT (T : List (List (Int × Int))) (a p : Nat) (v : Int × Int) : List (List (Int × Int)) := T.set a ((gd T a []).set p v)
theorem set2_ev {T : List (List (Int × Int))} {m w : Nat} (h : Tab T m w) {a p : Nat} (ha : a < m) (hp : p < w) {v : Int × Int} {i : Nat} {env env1 : List D} {dv da : List D → R D} {q : List D → Option Int} (h0 : dv env = .ok (pairD v) env1) (h1 : env1.getD i .unb = mlT T) (h2 : da env1 = .ok (.int a) env1) (h3 : q env1 = some (p : Int)) :
    setO2 i dv da q env = .nx (env1.set i (mlT (setT T a p v))) := by
  have hT : a < T.length := by rw [h.tall]; exact ha
  have hr : (gd T a []).length = w := h.wide _ (gd_mem hT _)
  have e1 : DL.listAt env1 i = some (T.map fun r => .ml (r.map pairD)) := by
    unfold DL.listAt
    rw [h1]
  have e2 : rowI (T.map fun r => .ml (r.map pairD)) (a : Int) = some (a, (gd T a []).map pairD) := rowI_nat (f := fun r : List (Int × Int) => r.map pairD) hT []
  have e3 : ixN ((gd T a []).map pairD).length (p : Int) = some p := DL.ixN_nat (by rw [List.length_map, hr]; exact hp)
  have e4 : (T.map fun r => D.ml (r.map pairD)).set a (.ml (((gd T a []).map pairD).set p (pairD v))) = (setT T a p v).map fun r => .ml (r.map pairD) := by
    unfold setT
    rw [List.map_set, List.map_set]
  unfold setO2
  rw [h0]
  simp only [bindS]
  rw [e1, h2]
  simp only [Option.isSome_some, if_true]
  rw [e1]
  simp only
  rw [e2]
  simp only
  rw [h3]
  simp only
  rw [e3]
  simp only
  rw [e4]
theorem frzL_mlT (L : List (List (Int × Int))) : frzL (L.map fun r => D.ml (r.map pairD)) = L.map rowD := by
  have e : ∀ r : List (Int × Int), frz (.ml (r.map pairD)) = rowD r := fun r => by rw [frz_ml, frzL_id (fun _ => rfl)]
  induction L with
  | nil => simp
  | cons r L ih =>
    rw [List.map_cons, List.map_cons]
    simp only [frzL_cons]
    rw [ih, e]
theorem setT_tab {T : List (List (Int × Int))} {m w : Nat} (h : Tab T m w) {a p : Nat} (ha : a < m) {v : Int × Int} (hv : Sm 100 v.1 ∧ Sm 100 v.2) : Tab (setT T a p v) m w := by
  have hr := gd_mem (l := T) (k := a) (by rw [h.tall]; exact ha) []
  refine ⟨by simp [setT, h.tall], fun r q => ?_, fun r q => ?_⟩
  · rcases List.mem_or_eq_of_mem_set q with q | rfl
    · exact h.wide r q
    · rw [List.length_set]
      exact h.wide _ hr
  · rcases List.mem_or_eq_of_mem_set q with q | rfl
    · exact h.sm r q
    · intro x hx
      rcases List.mem_or_eq_of_mem_set hx with hx | rfl
      · exact h.sm _ hr x hx
      · exact hv
theorem badP_set : ∀ {r : List (Int × Int)} {k p : Nat} {v : Int × Int}, (∀ q ∈ r, smallP q = true) → p < r.length → smallP v = false → badP k (r.set p v) = some (k + p)
  | [], _, _, _, _, h, _ => absurd h (by simp)
  | q :: r, k, 0, v, h, _, hv => by
    show badP k (v :: r) = _
    unfold badP
    rw [hv]
    rfl
  | q :: r, k, p + 1, v, h, hp, hv => by
    show badP k (q :: r.set p v) = _
    unfold badP
    rw [if_pos (h q (by simp)), badP_set (fun x hx => h x (List.mem_cons_of_mem _ hx)) (by simpa using hp) hv]
    congr 1
    omega
theorem badR_set : ∀ {T : List (List (Int × Int))} {k a p : Nat} {v : Int × Int}, Small T → a < T.length → p < (gd T a []).length → smallP v = false → badR k (setT T a p v) = some (k + a, p)
  | [], _, _, _, _, _, h, _, _ => absurd h (by simp)
  | r :: T, k, 0, p, v, h, _, hp, hv => by
    show badR k (r.set p v :: T) = _
    unfold badR
    rw [badP_set (h r (by simp)) hp hv, Nat.zero_add]
    rfl
  | r :: T, k, a + 1, p, v, h, ha, hp, hv => by
    show badR k (r :: setT T a p v) = _
    unfold badR
    rw [badP_all (h r (by simp))]
    show badR (k + 1) (setT T a p v) = _
    rw [badR_set (fun x hx => h x (List.mem_cons_of_mem _ hx)) (by simpa using ha) hp hv]
    congr 2
    omega
theorem small_of {T : List (List (Int × Int))} (h : ∀ r ∈ T, ∀ p ∈ r, SmallP p) : Small T := fun r hr p hp => by
  have := h r hr p hp
  unfold smallP
  rw [decide_eq_true this.1, decide_eq_true this.2]
  rfl
theorem refused_ev {ns ms : List (List Nat)} {T : List (List (Int × Int))} (h : RowsOk ns ms T) {w : D} (ho : isOwn w = false) (hs : srcOf w = some ((textsOf ns ms T).map dS)) {q : Nat × Nat} (hb : badR 2 T = some q) :
    d__law_refused [w] = .ret (.tup [.int q.1, .int (q.2 + 1 : Nat)]) [] := by
  have e := read_game_ev h ho hs
  rw [hb] at e
  have m1 : mtOf [("BadCount", false), ("NoName", false), ("Twice", false), ("BadRow", true)] ("BadRow" : Str) = some true := by decide +kernel
  unfold d__law_refused
  generalize d_read_game = f at e ⊢
  generalize mtOf [("BadCount", false), ("NoName", false), ("Twice", false), ("BadRow", true)] = mt at m1 ⊢
  simp -implicitDefEqProofs [runD_ap, e, m1, ho]
theorem eq_game {ns ms : List (List Nat)} {T : List (List (Int × Int))} (h : GOk ns ms T) : d_Game_eq [gameD ns ms T, gameD ns ms T] = .ret (.bl true) [] := by
  have p1 : ∀ {ts : List (List Nat)}, (∀ t ∈ ts, isName t = true) → pd 1 (.tup (namesD ts)) = true := fun {ts} ht => by
    unfold pd
    exact pdL_map fun t q => pdS (isName_ok (ht t q)) 0
  have up : ∀ {n : Nat} {l : List D}, pdL n l = true → pd (n + 1) (.tup l) = true := fun {n l} z => by
    unfold pd
    exact z
  have n1 : pd 3 (.tup [.tup (namesD ns), .tup (namesD ms)]) = true := up (by
    have a : pd 2 (.tup (namesD ns)) = true := up (pdL_map fun t q => pdS (isName_ok (h.an t q)) 1)
    have b : pd 2 (.tup (namesD ms)) = true := up (pdL_map fun t q => pdS (isName_ok (h.am t q)) 1)
    unfold pdL pdL pdL
    rw [a, b]
    rfl)
  have n2 : pd 3 (.tup (T.map tupR)) = true := up (pdL_map fun r _ => up (pdL_map fun p _ => up (by
    unfold pdL pdL pdL pd
    rfl)))
  have q : eqD (.tup [.tup [.tup (namesD ns), .tup (namesD ms)], .tup (T.map tupR)]) (.tup [.tup [.tup (namesD ns), .tup (namesD ms)], .tup (T.map tupR)]) = some (.bl true) := eqD_self (n := 4) (up (by
    unfold pdL pdL pdL
    rw [n1, n2]
    rfl))
  unfold d_Game_eq
  simp -implicitDefEqProofs [runD_ap, -eqD_ap, q]
theorem ne_game {ns ms : List (List Nat)} {T : List (List (Int × Int))} (h : GOk ns ms T) : neI "Game" d_Game_eq (gameD ns ms T) (gameD ns ms T) = some (.bl false) := by
  have e := eq_game h
  rw [neI_ap]
  show (match d_Game_eq [gameD ns ms T, gameD ns ms T] with
    | .ret (.bl b) [] => some (D.bl (!b))
    | _ => none) = _
  rw [e]
  rfl
end K04
namespace K04
open PySem DL FR MX L2 SX PyProof.Rows
theorem eq_texts {ts : List (List Nat)} (h : ∀ t ∈ ts, okS t) : eqD (.lst (ts.map dS)) (.lst (ts.map dS)) = some (.bl true) := eqD_self (pd_names h)
theorem texts_ok {ns ms : List (List Nat)} {T : List (List (Int × Int))} (h : RowsOk ns ms T) : ∀ t ∈ textsOf ns ms T, okS t := fun t ht => by
  rcases List.mem_cons.mp ht with rfl | ht
  · exact h.pn.ok 0
  · rcases List.mem_cons.mp ht with rfl | ht
    · exact h.pm.ok 1
    · obtain ⟨r, hr, rfl⟩ := List.mem_map.mp ht
      have := h.pt r hr
      exact (pairs_parts this.1 this.2.2 this.2.1).ok 2
theorem great_right_ev {x y z : Int} (h : StOk x y z) {ns ms : List (List Nat)} {T : List (List (Int × Int))} (hG : GOk ns ms T) (sm : ∀ r ∈ T, ∀ p ∈ r, SmallP p) :
    ∃ x' y', StOk x' y' z ∧ d__law_great_right [stD x y z, gD ns ms T] = .ret (.bl true) [stD x' y' z] := by
  have ln : (namesD ns).length = ns.length := by simp [namesD]
  have lm : (namesD ms).length = ms.length := by simp [namesD]
  obtain ⟨i, x1, y1, h1, p1, q1, e1⟩ := digit_ev (b := ns.length) h (by have := hG.n1; omega) (by have := hG.n4; omega)
  obtain ⟨j, x2, y2, h2, p2, q2, e2⟩ := digit_ev (b := ms.length) h1 (by have := hG.m1; omega) (by have := hG.m4; omega)
  obtain ⟨i, rfl⟩ := Int.eq_ofNat_of_zero_le p1
  obtain ⟨j, rfl⟩ := Int.eq_ofNat_of_zero_le p2
  have hi : i < ns.length := by omega
  have hj : j < ms.length := by omega
  obtain ⟨g, x3, y3, h3, p3, q3, e3⟩ := digit_ev (b := 4) h2 (by decide) (by decide)
  obtain ⟨gr, sg, bg, eg⟩ : ∃ gr : Int, Sm 100 gr ∧ ¬ gr.natAbs < 10 ^ 9 ∧ atI [D.int 1000000000, .int (-1000000000), .int 1000000000000000000000000000007, .int (-1000000000001)] g = some (.int gr) := by
    obtain ⟨d, hd, e⟩ := atI_in (l := [D.int 1000000000, .int (-1000000000), .int 1000000000000000000000000000007, .int (-1000000000001)]) p3 (by simpa using q3)
    simp only [List.mem_cons, List.not_mem_nil, or_false] at hd
    rcases hd with rfl | rfl | rfl | rfl
    · exact ⟨_, by unfold Sm; decide +kernel, by decide, e⟩
    · exact ⟨_, by unfold Sm; decide +kernel, by decide, e⟩
    · exact ⟨_, by unfold Sm; decide +kernel, by decide, e⟩
    · exact ⟨_, by unfold Sm; decide +kernel, by decide, e⟩
  obtain ⟨c, x4, y4, h4, p4, q4, e4⟩ := digit_ev (b := 2) h3 (by decide) (by decide)
  obtain ⟨v, sv, bv, ev⟩ : ∃ v : Int × Int, (Sm 100 v.1 ∧ Sm 100 v.2) ∧ smallP v = false ∧ atI [D.tup [.int gr, .int 0], .tup [.int 0, .int gr]] c = some (pairD v) := by
    obtain ⟨d, hd, e⟩ := atI_in (l := [D.tup [.int gr, .int 0], .tup [.int 0, .int gr]]) p4 (by simpa using q4)
    have z0 : Sm 100 (0 : Int) := by unfold Sm; decide
    simp only [List.mem_cons, List.not_mem_nil, or_false] at hd
    rcases hd with rfl | rfl
    · exact ⟨(gr, 0), ⟨sg, z0⟩, by unfold smallP; rw [decide_eq_false bg]; rfl, e⟩
    · exact ⟨(0, gr), ⟨z0, sg⟩, by unfold smallP; rw [decide_eq_false bg]; simp, e⟩
  have tall := hG.tab.tall
  have hT := setT_tab hG.tab hi (p := j) sv
  have hG2 : GOk ns ms (setT T i j v) := ⟨hG.an, hG.am, hG.dn, hG.dm, hG.n1, hG.n4, hG.m1, hG.m4, hT⟩
  have hR := rows_ok hG2
  have bad := badR_set (k := 2) (small_of sm) (a := i) (p := j) (v := v) (by omega) (by rw [hG.tab.wide _ (gd_mem (by omega) _)]; exact hj) bv
  have f1 := init_ev hG2 (NmD.l ns) (NmD.l ms)
  have f2 := game_rows_ev hR
  have f3 := law_rows_ev hR
  have f4 := refused_ev hR (w := .lst ((textsOf ns ms (setT T i j v)).map dS)) rfl rfl bad
  have f5 := eq_texts (texts_ok hR)
  have f6 : frz (.ml ((textsOf ns ms (setT T i j v)).map dS)) = .lst ((textsOf ns ms (setT T i j v)).map dS) := congrArg D.lst (frz_names _)
  have f7 : frz (mlT (setT T i j v)) = .lst ((setT T i j v).map rowD) := congrArg D.lst (frzL_mlT _)
  have f8 : eqD (.tup [.int (2 + (i : Int)), .int ((j : Int) + 1)]) (.tup [.int (2 + (i : Int)), .int (1 + (j : Int))]) = some (.bl true) := by
    rw [Int.add_comm (j : Int) 1]
    exact eqD_self (n := 1) (by unfold pd pdL pdL pdL pd; rfl)
  refine ⟨x4, y4, h4, ?_⟩
  have lc : lcoD (itS (binD ixD (varD 1) (constD (.int 2)))) (gnD 6) yesD e__law_great_right_0 [6] [stD x3 y3 z, gD ns ms T, .int i, .int j, .int gr, .unb, .unb, .unb] = .ok (mlT T) [stD x3 y3 z, gD ns ms T, .int i, .int j, .int gr, .unb, .unb, .unb] := by
    refine lcoD_mapA (xs := T) (env1 := [stD x3 y3 z, gD ns ms T, .int i, .int j, .int gr, .unb, .unb, .unb]) rowD (fun r => [stD x3 y3 z, gD ns ms T, .int i, .int j, .int gr, .unb, rowD r, .unb]) (fun r => r.map pairD) ?_ (by have := hG.n4; omega) (fun r hr => ⟨?_, ?_, ?_, ?_⟩) ?_
    · simp
    · simp
    · simp [e__law_great_right_0]
    · exact flatL_map (fun _ => rfl) r
    · simp
    · simp
  have s5 : setO2 5 (binD ixD (lstD (consD (tupD (consD (varD 4) (consD (constD (.int 0)) (nilD)))) (consD (tupD (consD (constD (.int 0)) (consD (varD 4) (nilD)))) (nilD)))) (frzD (callO 2 [0] d__law_digit (ioA 0 (consA (constD (.int 2)) (nilA)))))) (varD 2) (qVar 3) [stD x3 y3 z, gD ns ms T, .int i, .int j, .int gr, mlT T, .unb, .unb]
      = .nx [stD x4 y4 z, gD ns ms T, .int i, .int j, .int gr, mlT (setT T i j v), .unb, .unb] := by
    refine set2_ev hG.tab hi hj (env1 := [stD x4 y4 z, gD ns ms T, .int i, .int j, .int gr, mlT T, .unb, .unb]) ?_ rfl (by simp) rfl
    generalize mlT T = M
    simp -implicitDefEqProofs [e4, ev]
  have hgd : isOwn (gD ns ms T) = false := rfl
  have hg0 : ixD (gD ns ms T) (.int 0) = some (.lst (namesD ns)) := rfl
  have hg1 : ixD (gD ns ms T) (.int 1) = some (.lst (namesD ms)) := rfl
  have ln0 : lenD [.lst (namesD ns)] = some (.int ns.length) := by rw [lenD_lst, ln]
  have lm0 : lenD [.lst (namesD ms)] = some (.int ms.length) := by rw [lenD_lst, lm]
  have f7 : frz (mlT (setT T i j v)) = .lst ((setT T i j v).map rowD) := f7
  have hm : mlT (setT T i j v) = .ml ((setT T i j v).map fun r => .ml (r.map pairD)) := rfl
  have hog : ownd (.mi "Game" (gameL ns ms (setT T i j v))) = true := rfl
  have hfr : frz (.mi "Game" (gameL ns ms (setT T i j v))) = gameD ns ms (setT T i j v) := rfl
  unfold d__law_great_right
  refine runR (env := [stD x4 y4 z, gD ns ms T, .int i, .int j, .int gr, .lst ((setT T i j v).map rowD), .unb, .lst ((textsOf ns ms (setT T i j v)).map dS)]) ?_
  refine seqN [stD x1 y1 z, gD ns ms T, .int i, .unb, .unb, .unb, .unb, .unb] ?_ ?_
  · generalize gD ns ms T = G at hgd hg0 ⊢
    generalize namesD ns = A at *
    simp -implicitDefEqProofs [hgd, hg0, ln0, e1]
  refine seqN [stD x2 y2 z, gD ns ms T, .int i, .int j, .unb, .unb, .unb, .unb] ?_ ?_
  · generalize gD ns ms T = G at hgd hg1 ⊢
    generalize namesD ms = A at *
    simp -implicitDefEqProofs [hgd, hg1, lm0, e2]
  refine seqN [stD x3 y3 z, gD ns ms T, .int i, .int j, .int gr, .unb, .unb, .unb] ?_ ?_
  · generalize gD ns ms T = G
    simp -implicitDefEqProofs [e3, fitsPow_lit, eg]
  refine seqN [stD x3 y3 z, gD ns ms T, .int i, .int j, .int gr, mlT T, .unb, .unb] ?_ ?_
  · rw [asgN lc]
    rfl
  refine seqN _ s5 ?_
  have f1 : d_Game_init [.mi "Game" [], .lst (namesD ns), .lst (namesD ms), .lst ((setT T i j v).map rowD)] = .ret .non [.mi "Game" (gameL ns ms (setT T i j v))] := f1
  have hg3 : D.tup [.lst (namesD ns), .lst (namesD ms), .lst ((setT T i j v).map rowD)] = gD ns ms (setT T i j v) := rfl
  have hfl : frz (.lst ((setT T i j v).map rowD)) = .lst ((setT T i j v).map rowD) := rfl
  have hfx : frz (.lst ((textsOf ns ms (setT T i j v)).map dS)) = .lst ((textsOf ns ms (setT T i j v)).map dS) := rfl
  have hfy : frz (.tup [.int (2 + i : Nat), .int (j + 1 : Nat)]) = .tup [.int (2 + i : Nat), .int (j + 1 : Nat)] := rfl
  refine seqN [stD x4 y4 z, gD ns ms T, .int i, .int j, .int gr, .lst ((setT T i j v).map rowD), .unb, .lst ((textsOf ns ms (setT T i j v)).map dS)] ?_ ?_
  · generalize gD ns ms T = G at hgd hg0 hg1 ⊢
    rw [hm] at f7 ⊢
    generalize (setT T i j v).map (fun r => D.ml (r.map pairD)) = M at f7 ⊢
    generalize D.mi "Game" (gameL ns ms (setT T i j v)) = V at f1 hog hfr
    generalize gameD ns ms (setT T i j v) = GD at hfr f2
    generalize (textsOf ns ms (setT T i j v)).map dS = X at f2 f6 ⊢
    generalize (setT T i j v).map rowD = RD at *
    generalize namesD ns = A at *
    generalize namesD ms = B at *
    generalize d_Game_init = q1 at *
    generalize d_game_rows = q2 at *
    simp -implicitDefEqProofs [hgd, hg0, hg1, f7, f1, hog, hfr, f2, f6]
  · refine retR (env1 := [stD x4 y4 z, gD ns ms T, .int i, .int j, .int gr, .lst ((setT T i j v).map rowD), .unb, .lst ((textsOf ns ms (setT T i j v)).map dS)]) ?_
    generalize gD ns ms (setT T i j v) = G3 at hg3 f3
    generalize gD ns ms T = G at hgd hg0 hg1 ⊢
    generalize (textsOf ns ms (setT T i j v)).map dS = X at *
    generalize (setT T i j v).map rowD = RD at *
    generalize namesD ns = A at *
    generalize namesD ms = B at *
    simp -implicitDefEqProofs [hgd, hg0, hg1, hfl, hg3, f3, f5, f4, hfy, f8, -eqD_ap]
end K04
namespace K04
open PySem DL FR MX L2 SX PyProof.Rows
theorem noLs_map {α : Type} {f : α → D} (h : ∀ x, noL (f x) = true) : ∀ xs : List α, noLs (xs.map f) = true
  | [] => by unfold noLs; rfl
  | x :: xs => by
    rw [List.map_cons]
    unfold noLs
    rw [h x, noLs_map h xs]
    rfl
theorem noL_game (ns ms : List (List Nat)) (T : List (List (Int × Int))) : noL (gameD ns ms T) = true := by
  have t : ∀ l : List D, noLs l = true → noL (.tup l) = true := fun l h => by unfold noL; exact h
  have a1 : ∀ ts : List (List Nat), noL (.tup (namesD ts)) = true := fun ts => t _ (noLs_map (fun _ => by unfold noL; rfl) ts)
  have a2 : noL (.tup (T.map tupR)) = true := t _ (noLs_map (fun r => t _ (noLs_map (fun p => t _ (by unfold noLs noLs noLs noL; rfl)) r)) T)
  unfold noL
  unfold noLs noLs noLs
  rw [a2, t _ (by unfold noLs noLs noLs; rw [a1, a1]; rfl)]
  rfl
theorem turn_ev {ns ms : List (List Nat)} {T : List (List (Int × Int))} (hG : GOk ns ms T) (sm : ∀ r ∈ T, ∀ p ∈ r, SmallP p) (sc c st G k d8 : D) :
    b_law_0 [sc, c, st, G, .lst ((textsOf ns ms T).map dS), gameD ns ms T, .ml ((textsOf ns ms T).map dS), k, d8] = .nx [sc, c, st, G, .lst ((textsOf ns ms T).map dS), gameD ns ms T, .ml ((textsOf ns ms T).map dS), k, gameD ns ms T] := by
  have hR := rows_ok hG
  have e4 := game_rows_ev hR
  have e5 := read_game_ev hR (w := .lst ((textsOf ns ms T).map dS)) rfl rfl
  rw [badR_all (small_of sm)] at e5
  have e5 : d_read_game [.lst ((textsOf ns ms T).map dS)] = .ret (.mi "Game" (gameL ns ms T)) [] := e5
  have e7 := ne_game hG
  have e8 : neD (.lst ((textsOf ns ms T).map dS)) (.lst ((textsOf ns ms T).map dS)) = some (.bl false) := neD_self (pd_names (texts_ok hR))
  have f4 : frz (.ml ((textsOf ns ms T).map dS)) = .lst ((textsOf ns ms T).map dS) := congrArg D.lst (frz_names _)
  have fl : flatL ((textsOf ns ms T).map dS) = true := flatL_map (fun _ => rfl) _
  have f5 : frz (.mi "Game" (gameL ns ms T)) = gameD ns ms T := rfl
  have nl := noL_game ns ms T
  have hi : isG "Game" (gameD ns ms T) = some (.bl true) := rfl
  have ho : isOwn (gameD ns ms T) = false := rfl
  have le : lendN 6 (frzD (callO 1 [] d_read_game (consA (varD 6) (nilA)))) [sc, c, st, G, .lst ((textsOf ns ms T).map dS), gameD ns ms T, .ml ((textsOf ns ms T).map dS), k, d8] = .ok (gameD ns ms T) [sc, c, st, G, .lst ((textsOf ns ms T).map dS), gameD ns ms T, .ml ((textsOf ns ms T).map dS), k, d8] := by
    generalize gameD ns ms T = GD at *
    generalize D.mi "Game" (gameL ns ms T) = V at *
    generalize (textsOf ns ms T).map dS = X at *
    generalize d_read_game = q at *
    simp -implicitDefEqProofs [DL.listAt, fl, hidE, e5, f5, nl]
  unfold b_law_0
  refine seqN [sc, c, st, G, .lst ((textsOf ns ms T).map dS), gameD ns ms T, .ml ((textsOf ns ms T).map dS), k, gameD ns ms T] ?_ ?_
  · rw [asgN le]
    rfl
  · refine ifF (env1 := [sc, c, st, G, .lst ((textsOf ns ms T).map dS), gameD ns ms T, .ml ((textsOf ns ms T).map dS), k, gameD ns ms T]) ?_ rfl
    generalize gameD ns ms T = GD at *
    generalize (textsOf ns ms T).map dS = X at *
    generalize d_game_rows = q at *
    simp -implicitDefEqProofs [hi, ho, e7, e4, f4, e8, -neD_ap, -neI_ap]
end K04
namespace K04
open PySem DL FR MX L2 SX PyProof.Rows
theorem body_ev (n : Int) (sc d2 d3 d4 d5 d6 d7 d8 : D) : ∃ E, b_law_1 [sc, .int n, d2, d3, d4, d5, d6, d7, d8] = .nx (sc :: E) ∧ E.length = 8 := by
  obtain ⟨x, y, z, h0, e0⟩ := state_ev n
  obtain ⟨ns, ms, T, x1, y1, h1, hG, sm, e1⟩ := law_game_ev h0
  obtain ⟨c, x2, y2, h2, p2, q2, e2⟩ := digit_ev (b := 4) h1 (by decide) (by decide)
  obtain ⟨x3, y3, h3, e3⟩ := great_right_ev h2 hG sm
  have hR := rows_ok hG
  have r1 := law_rows_ev hR
  have r2 := init_ev hG (NmD.l ns) (NmD.l ms)
  have r2 : d_Game_init [.mi "Game" [], .lst (namesD ns), .lst (namesD ms), .lst (T.map rowD)] = .ret .non [.mi "Game" (gameL ns ms T)] := r2
  have r3 := game_rows_ev hR
  have r4 := read_game_ev hR (w := .tup ((textsOf ns ms T).map dS)) rfl rfl
  rw [badR_all (small_of sm)] at r4
  have r4 : d_read_game [.tup ((textsOf ns ms T).map dS)] = .ret (.mi "Game" (gameL ns ms T)) [] := r4
  have r5 := ne_game hG
  have r6 : neD (.lst ((textsOf ns ms T).map dS)) (.lst ((textsOf ns ms T).map dS)) = some (.bl false) := neD_self (pd_names (texts_ok hR))
  have f4 : frz (.ml ((textsOf ns ms T).map dS)) = .lst ((textsOf ns ms T).map dS) := congrArg D.lst (frz_names _)
  have f5 : frz (.mi "Game" (gameL ns ms T)) = gameD ns ms T := rfl
  have f6 : frz (.lst ((textsOf ns ms T).map dS)) = .lst ((textsOf ns ms T).map dS) := rfl
  have f7 : frz (gD ns ms T) = gD ns ms T := rfl
  have ho : isOwn (gameD ns ms T) = false := rfl
  have hog : ownd (.mi "Game" (gameL ns ms T)) = true := rfl
  have hgd : isOwn (gD ns ms T) = false := rfl
  have hg0 : ixD (gD ns ms T) (.int 0) = some (.lst (namesD ns)) := rfl
  have hg1 : ixD (gD ns ms T) (.int 1) = some (.lst (namesD ms)) := rfl
  have hg2 : ixD (gD ns ms T) (.int 2) = some (.lst (T.map rowD)) := rfl
  have hl : ((textsOf ns ms T).map dS).length < sizeLine := lt_line (by
    have := hG.tab.tall
    have := hG.n4
    simp [textsOf]
    omega)
  have t0 := fun k d8 => turn_ev hG sm sc (.int n) (stD x1 y1 z) (gD ns ms T) k d8
  have s1 : asgD 2 (callO 1 [] d__law_state (consA (varD 1) (nilA))) [sc, .int n, d2, d3, d4, d5, d6, d7, d8] = .nx [sc, .int n, stD x y z, d3, d4, d5, d6, d7, d8] := by
    generalize d__law_state = q at e0 ⊢
    simp -implicitDefEqProofs [e0]
  have s2 : asgD 3 (frzD (callO 2 [0] d__law_game (ioA 2 (consA (constD (.int 4)) (nilA))))) [sc, .int n, stD x y z, d3, d4, d5, d6, d7, d8] = .nx [sc, .int n, stD x1 y1 z, gD ns ms T, d4, d5, d6, d7, d8] := by
    generalize gD ns ms T = G at *
    generalize d__law_game = q at e1 ⊢
    simp -implicitDefEqProofs [e1, f7]
  have s3 : asgD 4 (frzD (callO 1 [] d__law_rows_of (consA (varD 3) (nilA)))) [sc, .int n, stD x1 y1 z, gD ns ms T, d4, d5, d6, d7, d8] = .nx [sc, .int n, stD x1 y1 z, gD ns ms T, .lst ((textsOf ns ms T).map dS), d5, d6, d7, d8] := by
    generalize gD ns ms T = G at *
    generalize (textsOf ns ms T).map dS = X at *
    generalize d__law_rows_of = q at r1 ⊢
    simp -implicitDefEqProofs [hgd, r1, f6]
  have s4 : asgD 5 (frzD (makeO "Game" 4 d_Game_init (consD (binD ixD (varD 3) (constD (.int 0))) (consD (binD ixD (varD 3) (constD (.int 1))) (consD (binD ixD (varD 3) (constD (.int 2))) (nilD)))))) [sc, .int n, stD x1 y1 z, gD ns ms T, .lst ((textsOf ns ms T).map dS), d5, d6, d7, d8]
      = .nx [sc, .int n, stD x1 y1 z, gD ns ms T, .lst ((textsOf ns ms T).map dS), gameD ns ms T, d6, d7, d8] := by
    generalize gD ns ms T = G at *
    generalize (textsOf ns ms T).map dS = X at *
    generalize D.mi "Game" (gameL ns ms T) = V at *
    generalize gameD ns ms T = GD at *
    generalize namesD ns = A at *
    generalize namesD ms = B at *
    generalize T.map rowD = RD at *
    generalize d_Game_init = q at r2 ⊢
    simp -implicitDefEqProofs [hgd, hg0, hg1, hg2, r2, hog, f5]
  have s8 : forGo (gnD 7) b_law_0 (rangeL 0 2) [sc, .int n, stD x1 y1 z, gD ns ms T, .lst ((textsOf ns ms T).map dS), gameD ns ms T, .ml ((textsOf ns ms T).map dS), d7, d8]
      = .nx [sc, .int n, stD x1 y1 z, gD ns ms T, .lst ((textsOf ns ms T).map dS), gameD ns ms T, .ml ((textsOf ns ms T).map dS), .int 1, gameD ns ms T] := by
    show forGo (gnD 7) b_law_0 [.int 0, .int (0 + 1)] _ = _
    rw [forGo_nx (e1 := [sc, .int n, stD x1 y1 z, gD ns ms T, .lst ((textsOf ns ms T).map dS), gameD ns ms T, .ml ((textsOf ns ms T).map dS), .int 0, d8]) rfl (t0 (.int 0) d8),
      forGo_nx (e1 := [sc, .int n, stD x1 y1 z, gD ns ms T, .lst ((textsOf ns ms T).map dS), gameD ns ms T, .ml ((textsOf ns ms T).map dS), .int (0 + 1), gameD ns ms T]) rfl (t0 (.int (0 + 1)) _)]
    rfl
  obtain ⟨xe, ye, s11⟩ : ∃ xe ye, ifS (andD (testD (binD eqD (frzD (callO 2 [0] d__law_digit (ioA 2 (consA (constD (.int 4)) (nilA))))) (constD (.int 0)))) (notD (testD (frzD (callO 2 [0] d__law_great_right (ioA 2 (consA (varD 3) (nilA)))))))) (retD (constD (.bl false))) (skipD)
      [sc, .int n, stD x1 y1 z, gD ns ms T, .lst ((textsOf ns ms T).map dS), gameD ns ms T, .ml [], .int 1, gameD ns ms T] = .nx [sc, .int n, stD xe ye z, gD ns ms T, .lst ((textsOf ns ms T).map dS), gameD ns ms T, .ml [], .int 1, gameD ns ms T] := by
    generalize gD ns ms T = G at *
    generalize (textsOf ns ms T).map dS = X at *
    generalize gameD ns ms T = GD at *
    generalize d__law_digit = q1 at e2 ⊢
    generalize d__law_great_right = q2 at e3 ⊢
    by_cases hc : c = 0
    · subst hc
      exact ⟨x3, y3, by simp -implicitDefEqProofs [e2, e3, hgd]⟩
    · exact ⟨x2, y2, by simp -implicitDefEqProofs [e2, hc]⟩
  refine ⟨[.int n, stD xe ye z, gD ns ms T, .lst ((textsOf ns ms T).map dS), gameD ns ms T, .ml [], .int 1, gameD ns ms T], ?_, rfl⟩
  unfold b_law_1
  refine seqN _ s1 (seqN _ s2 (seqN _ s3 (seqN _ s4 ?_)))
  generalize gD ns ms T = G at *
  generalize D.mi "Game" (gameL ns ms T) = V at *
  generalize gameD ns ms T = GD at *
  generalize (textsOf ns ms T).map dS = X at *
  generalize hq1 : d_game_rows = q1 at r3 ⊢
  generalize hq2 : d_read_game = q2 at r4 ⊢
  refine seqN [sc, .int n, stD x1 y1 z, G, .lst X, GD, d6, d7, d8] (ifF (env1 := [sc, .int n, stD x1 y1 z, G, .lst X, GD, d6, d7, d8]) ?_ rfl) ?_
  · simp -implicitDefEqProofs [ho, r3, f4, r6, -neD_ap]
  refine seqN [sc, .int n, stD x1 y1 z, G, .lst X, GD, d6, d7, d8] ?_ ?_
  · simp -implicitDefEqProofs [ho, r3, hl]
  refine seqN [sc, .int n, stD x1 y1 z, G, .lst X, GD, .ml X, d7, d8] ?_ ?_
  · simp -implicitDefEqProofs
  refine seqN [sc, .int n, stD x1 y1 z, G, .lst X, GD, .ml X, .int 1, GD] (forN (ds := rangeL 0 2) (env1 := [sc, .int n, stD x1 y1 z, G, .lst X, GD, .ml X, d7, d8]) (range1_nat (n := 2) (by simp) (by decide)) s8) ?_
  refine seqN [sc, .int n, stD x1 y1 z, G, .lst X, GD, .ml [], .int 1, GD] ?_ ?_
  · simp -implicitDefEqProofs [nodeQ, setAt]
  refine seqN [sc, .int n, stD x1 y1 z, G, .lst X, GD, .ml [], .int 1, GD] (ifF (env1 := [sc, .int n, stD x1 y1 z, G, .lst X, GD, .ml [], .int 1, GD]) ?_ rfl) s11
  simp -implicitDefEqProofs [ho, r3, f4, r6, r4, f5, r5, -neD_ap, -neI_ap]
theorem loop_ev (sc : D) : ∀ (l : List Int) (E : List D), E.length = 8 → ∃ E', forGo (gnD 1) b_law_1 (l.map D.int) (sc :: E) = .nx (sc :: E')
  | [], E, _ => ⟨E, rfl⟩
  | n :: l, E, hE => by
    match E, hE with
    | [d1, d2, d3, d4, d5, d6, d7, d8], _ =>
      obtain ⟨E2, e, l2⟩ := body_ev n sc d2 d3 d4 d5 d6 d7 d8
      obtain ⟨E3, e3⟩ := loop_ev sc l E2 l2
      exact ⟨E3, (forGo_nx rfl e).trans e3⟩
theorem law_eq (ns : List Int) (hl : ns.length ≤ 63) (_ : ∀ z ∈ ns, PySem.Builtin.Int.intBits z ≤ 1048576) : ∃ outs, d_law [.lst (ns.map D.int)] = .ret (.bl true) outs := by
  have hc : cutL ((ns ++ [0]).map D.int) none (some 8) = ((ns ++ [0]).take 8).map D.int := by rw [cutL_to (by decide), List.map_take]; rfl
  obtain ⟨E, e⟩ := loop_ev (.lst (ns.map D.int)) ((ns ++ [0]).take 8) [.unb, .unb, .unb, .unb, .unb, .unb, .unb, .unb] rfl
  rw [← hc] at e
  have ad : addD (.lst (ns.map D.int)) (.lst [.int 0]) = some (.lst ((ns ++ [0]).map D.int)) := addL (u := D.int) (a := ns) (b := [0]) (len_line (by simp; omega))
  refine ⟨[], ?_⟩
  unfold d_law
  generalize (ns ++ [0]).map D.int = os at *
  generalize b_law_1 = q at e ⊢
  simp -implicitDefEqProofs [-addD_lst, runD_ap, ad, e]
end K04
namespace K04
open PySem PySem.Spec PyProof.Rows L2 DL
noncomputable section
abbrev Cx (K : PySem.W.Frag) (mg : Str → Option Value) : Prop := Ctx facts fns exB K mg
theorem exf {K : PySem.W.Frag} {mg : Str → Option Value} (c : Cx K mg) (i : Nat) {b : Bool} (e : (exL K)[i]? = some b := by rfl) : b = true := List.all_eq_true.mp c.ex b (List.mem_of_getElem? e)
end
section
variable {P : Program} {w : World} {K : PySem.W.Frag} {mg : Str → Option Value} {base : Heap}
theorem sc_NoName_init : FnScope ["self", "name"] ["self", "name"] (defScope sd_NoName_init) := ⟨rfl, rfl, rfl, by decide +kernel, rfl, by decide +kernel, by decide +kernel⟩
theorem ini_NoName (c : Cx K mg) : ∃ fd, FnOk P w K mg base CX0 1 (He.ma K (He.ga K "NoName") "__init__") fd ["self", "name"] (spX K (He.ga K "NoName") (eflds "NoName")) ∧ Binds K fd ["self", "name"] [] := by
  obtain ⟨fd, F⟩ := c.d.def_ 27 (d := a_NoName_init) rfl
  exact ⟨fd, initD1 F sc_NoName_init rfl (.inl rfl) (.inl rfl) (by decide) (by decide), F.bindsN fun _ _ _ _ _ _ us hl => match us, hl with | [_, _], _ => rfl⟩
theorem sc_Twice_init : FnScope ["self", "name"] ["self", "name"] (defScope sd_Twice_init) := ⟨rfl, rfl, rfl, by decide +kernel, rfl, by decide +kernel, by decide +kernel⟩
theorem ini_Twice (c : Cx K mg) : ∃ fd, FnOk P w K mg base CX0 1 (He.ma K (He.ga K "Twice") "__init__") fd ["self", "name"] (spX K (He.ga K "Twice") (eflds "Twice")) ∧ Binds K fd ["self", "name"] [] := by
  obtain ⟨fd, F⟩ := c.d.def_ 28 (d := a_Twice_init) rfl
  exact ⟨fd, initD1 F sc_Twice_init rfl (.inl rfl) (.inl rfl) (by decide) (by decide), F.bindsN fun _ _ _ _ _ _ us hl => match us, hl with | [_, _], _ => rfl⟩
theorem sc_BadCount_init : FnScope ["self", "what", "count"] ["self", "what", "count"] (defScope sd_BadCount_init) := ⟨rfl, rfl, rfl, by decide +kernel, rfl, by decide +kernel, by decide +kernel⟩
theorem ini_BadCount (c : Cx K mg) : ∃ fd, FnOk P w K mg base CX0 1 (He.ma K (He.ga K "BadCount") "__init__") fd ["self", "what", "count"] (spX K (He.ga K "BadCount") (eflds "BadCount")) ∧ Binds K fd ["self", "what", "count"] [] := by
  obtain ⟨fd, F⟩ := c.d.def_ 29 (d := a_BadCount_init) rfl
  exact ⟨fd, initD2 F sc_BadCount_init rfl (.inl rfl) (.inl rfl) (.inl rfl) (by decide) (by decide) (by decide) (by decide), F.bindsN fun _ _ _ _ _ _ us hl => match us, hl with | [_, _, _], _ => rfl⟩
theorem sc_NoSide_init : FnScope ["self", "side"] ["self", "side"] (defScope sd_NoSide_init) := ⟨rfl, rfl, rfl, by decide +kernel, rfl, by decide +kernel, by decide +kernel⟩
theorem ini_NoSide (c : Cx K mg) : ∃ fd, FnOk P w K mg base CX0 1 (He.ma K (He.ga K "NoSide") "__init__") fd ["self", "side"] (spX K (He.ga K "NoSide") (eflds "NoSide")) ∧ Binds K fd ["self", "side"] [] := by
  obtain ⟨fd, F⟩ := c.d.def_ 30 (d := a_NoSide_init) rfl
  exact ⟨fd, initD1 F sc_NoSide_init rfl (.inl rfl) (.inl rfl) (by decide) (by decide), F.bindsN fun _ _ _ _ _ _ us hl => match us, hl with | [_, _], _ => rfl⟩
theorem sc_NoChoice_init : FnScope ["self", "side", "choice"] ["self", "side", "choice"] (defScope sd_NoChoice_init) := ⟨rfl, rfl, rfl, by decide +kernel, rfl, by decide +kernel, by decide +kernel⟩
theorem ini_NoChoice (c : Cx K mg) : ∃ fd, FnOk P w K mg base CX0 1 (He.ma K (He.ga K "NoChoice") "__init__") fd ["self", "side", "choice"] (spX K (He.ga K "NoChoice") (eflds "NoChoice")) ∧ Binds K fd ["self", "side", "choice"] [] := by
  obtain ⟨fd, F⟩ := c.d.def_ 31 (d := a_NoChoice_init) rfl
  exact ⟨fd, initD2 F sc_NoChoice_init rfl (.inl rfl) (.inl rfl) (.inl rfl) (by decide) (by decide) (by decide) (by decide), F.bindsN fun _ _ _ _ _ _ us hl => match us, hl with | [_, _, _], _ => rfl⟩
theorem sc_BadRow_init : FnScope ["self", "row", "place"] ["self", "row", "place"] (defScope sd_BadRow_init) := ⟨rfl, rfl, rfl, by decide +kernel, rfl, by decide +kernel, by decide +kernel⟩
theorem ini_BadRow (c : Cx K mg) : ∃ fd, FnOk P w K mg base CX0 1 (He.ma K (He.ga K "BadRow") "__init__") fd ["self", "row", "place"] (spX K (He.ga K "BadRow") (eflds "BadRow")) ∧ Binds K fd ["self", "row", "place"] [] := by
  obtain ⟨fd, F⟩ := c.d.def_ 32 (d := a_BadRow_init) rfl
  exact ⟨fd, initD2 F sc_BadRow_init rfl (.inl rfl) (.inl rfl) (.inl rfl) (by decide) (by decide) (by decide) (by decide), F.bindsN fun _ _ _ _ _ _ us hl => match us, hl with | [_, _, _], _ => rfl⟩
theorem sc__law_state : FnScope ["cell"] ["cell"] (defScope sd__law_state) := ⟨rfl, rfl, rfl, by decide +kernel, rfl, by decide +kernel, by decide +kernel⟩
theorem ok__law_state (c : Cx K mg) : ∃ fd, Df P w K mg base a__law_state fd ["cell"] [] d__law_state 1 ∧ Binds K fd ["cell"] [] := by
  obtain ⟨fd, F⟩ := c.d.def_ 0 (d := a__law_state) rfl
  refine ⟨fd, ⟨F, fn_denD (k := 0) F sc__law_state (by decide) fun cdv A outer s H E j hr W => ?_, outLen_run⟩, F.bindsN fun _ _ _ _ _ _ us hl => match us, hl with | [_], _ => rfl⟩
  exact (ss_cons (s_set 0 W.nd (W.pin 0 (by decide)) (e_callB cd_abs rfl (c.free 0) rfl (l_cons (e_var 0 (pv 0)) l_nil)))
    (ss_one (s_retO (o_lstO (l_cons (e_bin od_mulX (e_var 0 (pv 0)) (e_callT cd_intX rfl (c.free 1) rfl (l_cons (e_cmp od_ge (e_var 0 (pv 0)) (e_bin od_pow e_int e_int) (nomark _)) l_nil))) (l_cons (e_bin od_add (e_bin od_mod (e_var 0 (pv 0)) e_int) e_int) (l_cons (e_bin od_mod (e_var 0 (pv 0)) e_int) l_nil)))))))
theorem sc__law_digit : FnScope ["state", "base", "found", "more"] ["state", "base"] (defScope sd__law_digit) := ⟨rfl, rfl, rfl, by decide +kernel, rfl, by decide +kernel, by decide +kernel⟩
theorem ok__law_digit (c : Cx K mg) : ∃ fd, Df P w K mg base a__law_digit fd ["state", "base"] [0] d__law_digit 1 ∧ Binds K fd ["state", "base"] [] := by
  obtain ⟨fd, F⟩ := c.d.def_ 1 (d := a__law_digit) rfl
  refine ⟨fd, ⟨F, fn_denD (k := 0) F sc__law_digit (by decide) fun cdv A outer s H E j hr W => ?_, outLen_run⟩, F.bindsN fun _ _ _ _ _ _ us hl => match us, hl with | [_, _], _ => rfl⟩
  exact (ss_cons (s_if (t_cmp od_gt (e_ixO 0 (pv 0) e_int (fun _ _ => rfl)) e_int (nomark _)) (ss_cons (s_set 2 W.nd (W.pin 2 (by decide)) (e_bin od_mod (e_ixO 0 (pv 0) e_int (fun _ _ => rfl)) (e_var 1 (pv 1))))
    (ss_cons (s_setix 0 (e_bin od_fdiv (e_ixO 0 (pv 0) e_int (fun _ _ => rfl)) (e_var 1 (pv 1))) (pv 0) e_int)
    (ss_one (s_ret (e_var 2 (pv 2)))))) ss_nil)
    (ss_cons (s_set 3 W.nd (W.pin 3 (by decide)) (e_bin od_mulX (e_ixO 0 (pv 0) e_int (fun _ _ => rfl)) (e_bin od_add (e_bin od_fdiv (e_ixO 0 (pv 0) e_int (fun _ _ => rfl)) e_int) e_int)))
    (ss_cons (s_setix 0 (e_bin od_add (e_bin od_mod (e_bin od_add (e_var 3 (pv 3)) (e_ixO 0 (pv 0) e_int (fun _ _ => rfl))) e_int) e_int) (pv 0) e_int)
    (ss_one (s_ret (e_bin od_mod (e_bin od_fdiv (e_ixO 0 (pv 0) e_int (fun _ _ => rfl)) e_int) (e_var 1 (pv 1))))))))
theorem sc__law_name : FnScope ["s", "taken", "some", "kind", "stem", "k", "words", "found", "n"] ["s", "taken"] (defScope sd__law_name) := ⟨rfl, rfl, rfl, by decide +kernel, rfl, by decide +kernel, by decide +kernel⟩
theorem ok__law_name (c : Cx K mg) : ∃ fd, Df P w K mg base a__law_name fd ["s", "taken"] [0, 1] d__law_name 2 ∧ Binds K fd ["s", "taken"] [] := by
  obtain ⟨fd, F⟩ := c.d.def_ 2 (d := a__law_name) rfl
  obtain ⟨fd__law_digit, D__law_digit, B__law_digit⟩ := ok__law_digit (P := P) (w := w) (base := base) c
  refine ⟨fd, ⟨F, fn_denD (k := 1) F sc__law_name (by decide) fun cdv A outer s H E j hr W => ?_, outLen_run⟩, F.bindsN fun _ _ _ _ _ _ us hl => match us, hl with | [_, _], _ => rfl⟩
  exact (ss_cons (s_set 2 W.nd (W.pin 2 (by decide)) e_str)
    (ss_cons (s_set 3 W.nd (W.pin 3 (by decide)) (e_frzo (o_fn D__law_digit B__law_digit hr (c.glo 2) W.take (a_io 0 (pv 0) (a_cons e_int a_nil)))))
    (ss_cons (s_set 4 W.nd (W.pin 4 (by decide)) (e_ix (e_var 2 (pv 2)) (e_frzo (o_fn D__law_digit B__law_digit hr (c.glo 2) W.take (a_io 0 (pv 0) (a_cons e_int a_nil)))) (fun _ _ => rfl)))
    (ss_cons (s_for W.pass W.calm (i_range1 rfl (c.free 3) (e_frzo (o_fn D__law_digit B__law_digit hr (c.glo 2) W.take (a_io 0 (pv 0) (a_cons e_int a_nil))))) (g_name 5 W.nd (W.pin 5 (by decide))) (ss_one (s_set 4 W.nd (W.pin 4 (by decide)) (e_bin od_add (e_var 4 (pv 4)) (e_ix (e_var 2 (pv 2)) (e_frzo (o_fn D__law_digit B__law_digit hr (c.glo 2) W.take (a_io 0 (pv 0) (a_cons e_int a_nil)))) (fun _ _ => rfl))))))
    (ss_cons (s_if (t_cmp (od_eq hr.units) (e_var 3 (pv 3)) e_int (nomark _)) (ss_cons (s_set 6 W.nd (W.pin 6 (by decide)) (e_lst (l_cons e_str (l_cons e_str (l_cons e_str (l_cons e_str (l_cons e_str (l_cons e_str (l_cons e_str (l_cons e_str (l_cons e_str (l_cons e_str (l_cons e_str l_nil)))))))))))))
    (ss_one (s_set 4 W.nd (W.pin 4 (by decide)) (e_ix (e_var 6 (pv 6)) (e_frzo (o_fn D__law_digit B__law_digit hr (c.glo 2) W.take (a_io 0 (pv 0) (a_cons e_int a_nil)))) (fun _ _ => rfl))))) ss_nil)
    (ss_cons (s_set 7 W.nd (W.pin 7 (by decide)) (e_var 4 (pv 4)))
    (ss_cons (s_set 8 W.nd (W.pin 8 (by decide)) e_int)
    (ss_cons (s_while W.pass (t_cmpR (od_in (Room.units65 hr)) 1 (e_var 7 (pv 7)) (pv 1) (by rfl)) (ss_cons (s_set 8 W.nd (W.pin 8 (by decide)) (e_bin od_add (e_var 8 (pv 8)) e_int))
    (ss_one (s_set 7 W.nd (W.pin 7 (by decide)) (e_bin od_add (e_var 4 (pv 4)) (e_callT cd_str rfl (c.free 4) rfl (l_cons (e_var 8 (pv 8)) l_nil)))))))
    (ss_one (s_ret (e_var 7 (pv 7))))))))))))
theorem sc__law_names : FnScope ["s", "many", "found", "k"] ["s", "many"] (defScope sd__law_names) := ⟨rfl, rfl, rfl, by decide +kernel, rfl, by decide +kernel, by decide +kernel⟩
theorem ok__law_names (c : Cx K mg) : ∃ fd, Df P w K mg base a__law_names fd ["s", "many"] [0] d__law_names 3 ∧ Binds K fd ["s", "many"] [] := by
  obtain ⟨fd, F⟩ := c.d.def_ 3 (d := a__law_names) rfl
  obtain ⟨fd__law_name, D__law_name, B__law_name⟩ := ok__law_name (P := P) (w := w) (base := base) c
  refine ⟨fd, ⟨F, fn_denD (k := 2) F sc__law_names (by decide) fun cdv A outer s H E j hr W => ?_, outLen_run⟩, F.bindsN fun _ _ _ _ _ _ us hl => match us, hl with | [_, _], _ => rfl⟩
  exact (ss_cons (s_setO 2 W.nd (W.pin 2 (by decide)) (o_lstO l_nil))
    (ss_cons (s_for W.pass W.calm (i_range1 rfl (c.free 3) (e_var 1 (pv 1))) (g_name 3 W.nd (W.pin 3 (by decide))) (ss_one (s_app 2 (pv 2) (e_frzo (o_fn D__law_name B__law_name hr (c.glo 5) W.take (a_io 0 (pv 0) (a_io 2 (pv 2) a_nil)))))))
    (ss_one (s_retV 2 (pv 2) (W.pin 2 (by decide))))))
theorem sc__law_pay : FnScope ["s", "kind"] ["s"] (defScope sd__law_pay) := ⟨rfl, rfl, rfl, by decide +kernel, rfl, by decide +kernel, by decide +kernel⟩
theorem ok__law_pay (c : Cx K mg) : ∃ fd, Df P w K mg base a__law_pay fd ["s"] [0] d__law_pay 2 ∧ Binds K fd ["s"] [] := by
  obtain ⟨fd, F⟩ := c.d.def_ 4 (d := a__law_pay) rfl
  obtain ⟨fd__law_digit, D__law_digit, B__law_digit⟩ := ok__law_digit (P := P) (w := w) (base := base) c
  refine ⟨fd, ⟨F, fn_denD (k := 1) F sc__law_pay (by decide) fun cdv A outer s H E j hr W => ?_, outLen_run⟩, F.bindsN fun _ _ _ _ _ _ us hl => match us, hl with | [_], _ => rfl⟩
  exact (ss_cons (s_set 1 W.nd (W.pin 1 (by decide)) (e_frzo (o_fn D__law_digit B__law_digit hr (c.glo 2) W.take (a_io 0 (pv 0) (a_cons e_int a_nil)))))
    (ss_cons (s_if (t_cmp (od_eq hr.units) (e_var 1 (pv 1)) e_int (nomark _)) (ss_one (s_ret (e_bin od_add (e_bin od_sub (e_frzo (o_fn D__law_digit B__law_digit hr (c.glo 2) W.take (a_io 0 (pv 0) (a_cons (e_bin od_sub (e_bin od_mulX e_int (e_bin od_pow e_int e_int)) e_int) a_nil)))) (e_bin od_pow e_int e_int)) e_int))) ss_nil)
    (ss_one (s_ret (e_bin od_sub (e_frzo (o_fn D__law_digit B__law_digit hr (c.glo 2) W.take (a_io 0 (pv 0) (a_cons (e_ix (e_lst (l_cons e_int (l_cons e_int (l_cons e_int l_nil)))) (e_bin od_mod (e_var 1 (pv 1)) e_int) (fun _ _ => rfl)) a_nil)))) (e_ix (e_lst (l_cons e_int (l_cons e_int (l_cons e_int l_nil)))) (e_bin od_mod (e_var 1 (pv 1)) e_int) (fun _ _ => rfl)))))))
theorem sc__law_game : FnScope ["s", "high", "names", "k", "pays", "i", "j"] ["s", "high"] (defScope sd__law_game) := ⟨rfl, rfl, rfl, by decide +kernel, rfl, by decide +kernel, by decide +kernel⟩
theorem ok__law_game (c : Cx K mg) : ∃ fd, Df P w K mg base a__law_game fd ["s", "high"] [0] d__law_game 4 ∧ Binds K fd ["s", "high"] [] := by
  obtain ⟨fd, F⟩ := c.d.def_ 5 (d := a__law_game) rfl
  obtain ⟨fd__law_names, D__law_names, B__law_names⟩ := ok__law_names (P := P) (w := w) (base := base) c
  obtain ⟨fd__law_digit, D__law_digit, B__law_digit⟩ := ok__law_digit (P := P) (w := w) (base := base) c
  obtain ⟨fd__law_pay, D__law_pay, B__law_pay⟩ := ok__law_pay (P := P) (w := w) (base := base) c
  refine ⟨fd, ⟨F, fn_denD (k := 3) F sc__law_game (by decide) fun cdv A outer s H E j hr W => ?_, outLen_run⟩, F.bindsN fun _ _ _ _ _ _ us hl => match us, hl with | [_, _], _ => rfl⟩
  exact (ss_cons (s_set 2 W.nd (W.pin 2 (by decide)) (e_frzo (o_lc (own := [("k", 3)]) W.calm W.nd (fun i hi => W.pin i (by revert i; decide)) (by decide) (i_range1 rfl (c.free 3) e_int) (blkOk_by (by rfl)) (fun s1 H1 C1 cl1 fp1 eb1 hE1 => (w_name 3 W.nd (hE1 3 (by decide)))) (fun s1 H1 C1 cl1 fp1 eb1 hE1 => ts_nil) (fun s1 H1 C1 cl1 fp1 eb1 hE1 => (e_frzo (o_fn D__law_names B__law_names hr (c.glo 7) takes_noX (a_io 0 (pv 0) (a_cons (e_callB (cd_minX W.calm) rfl (c.free 6) rfl (l_cons (e_var 1 (pv 1)) (l_cons (e_ix (e_lst (l_cons e_int (l_cons e_int (l_cons e_int (l_cons e_int (l_cons e_int (l_cons e_int l_nil))))))) (e_frzo (o_fn D__law_digit B__law_digit hr (c.glo 2) takes_noX (a_io 0 (pv 0) (a_cons e_int a_nil)))) (fun _ _ => rfl)) l_nil))) a_nil))))))))
    (ss_cons (s_setLcF (own := [("i", 5), ("j", 6)]) 4 W.calm W.nd (W.pin 4 (by decide)) (fun i hi => W.pin i (by revert i; decide)) (by decide) (i_src (e_ix (e_var 2 (pv 2)) e_int (fun _ _ => rfl))) (blkOk_by (by rfl)) (fun s3 H3 C3 cl3 fp3 eb3 hE2 => (w_name 5 W.nd (hE2 5 (by decide)))) (fun s3 H3 C3 cl3 fp3 eb3 hE2 => ts_nil) (fun s3 H3 C3 cl3 fp3 eb3 hE2 => (e_frzo (o_lc (own := [("j", 6)]) W.calm W.nd (fun i hi => hE2 i (by revert i; decide)) (by decide) (i_src (e_ix (e_var 2 (pv 2)) e_int (fun _ _ => rfl))) (blkOk_by (by rfl)) (fun s3 H3 C3 cl3 fp3 eb3 hE3 => (w_name 6 W.nd (hE3 6 (by decide)))) (fun s3 H3 C3 cl3 fp3 eb3 hE3 => ts_nil) (fun s3 H3 C3 cl3 fp3 eb3 hE3 => (e_tup (l_cons (e_frzo (o_fn D__law_pay B__law_pay hr (c.glo 8) takes_noX (a_io 0 (pv 0) a_nil))) (l_cons (e_frzo (o_fn D__law_pay B__law_pay hr (c.glo 8) takes_noX (a_io 0 (pv 0) a_nil))) l_nil))))))))
    (ss_one (s_ret (e_tup (l_cons (e_ix (e_var 2 (pv 2)) e_int (fun _ _ => rfl)) (l_cons (e_ix (e_var 2 (pv 2)) e_int (fun _ _ => rfl)) (l_cons (e_var 4 (pv 4)) l_nil))))))))
theorem sc__law_rows_of : FnScope ["g", "found", "line", "one", "other"] ["g"] (defScope sd__law_rows_of) := ⟨rfl, rfl, rfl, by decide +kernel, rfl, by decide +kernel, by decide +kernel⟩
theorem ok__law_rows_of (c : Cx K mg) : ∃ fd, Df P w K mg base a__law_rows_of fd ["g"] [] d__law_rows_of 1 ∧ Binds K fd ["g"] [] := by
  obtain ⟨fd, F⟩ := c.d.def_ 6 (d := a__law_rows_of) rfl
  refine ⟨fd, ⟨F, fn_denD (k := 0) F sc__law_rows_of (by decide) fun cdv A outer s H E j hr W => ?_, outLen_run⟩, F.bindsN fun _ _ _ _ _ _ us hl => match us, hl with | [_], _ => rfl⟩
  exact (ss_cons (s_set 1 W.nd (W.pin 1 (by decide)) (e_lst (l_cons (e_join e_str (e_bin od_add (e_lst (l_cons e_str l_nil)) (e_ix (e_var 0 (pv 0)) e_int (fun _ _ => rfl)))) (l_cons (e_join e_str (e_bin od_add (e_lst (l_cons e_str l_nil)) (e_ix (e_var 0 (pv 0)) e_int (fun _ _ => rfl)))) l_nil))))
    (ss_one (s_ret (e_bin od_add (e_var 1 (pv 1)) (e_frzo (o_lc (own := [("line", 2), ("one", 3), ("other", 4)]) W.calm W.nd (fun i hi => W.pin i (by revert i; decide)) (by decide) (i_src (e_ix (e_var 0 (pv 0)) e_int (fun _ _ => rfl))) (blkOk_by (by rfl)) (fun s2 H2 C2 cl2 fp2 eb2 hE1 => (w_name 2 W.nd (hE1 2 (by decide)))) (fun s2 H2 C2 cl2 fp2 eb2 hE1 => ts_nil) (fun s2 H2 C2 cl2 fp2 eb2 hE1 => (e_join e_str (e_bin od_add (e_lst (l_cons e_str l_nil)) (e_frzo (o_lc (own := [("one", 3), ("other", 4)]) W.calm W.nd (fun i hi => hE1 i (by revert i; decide)) (by decide) (i_src (e_var 2 (pv 2))) (blkOk_by (by rfl)) (fun s2 H2 C2 cl2 fp2 eb2 hE2 => (w_tup W.calm (ws_cons (w_name 3 W.nd (hE2 3 (by decide))) (ws_cons (w_name 4 W.nd (hE2 4 (by decide))) ws_nil)) (fun _ _ _ e => gConsD_len (fun _ _ _ e => gConsD_len (fun _ _ _ e => gNilD_len e) e) e))) (fun s2 H2 C2 cl2 fp2 eb2 hE2 => ts_nil) (fun s2 H2 C2 cl2 fp2 eb2 hE2 => (e_bin od_add (e_bin od_add (e_callT cd_str rfl (c.free 4) rfl (l_cons (e_var 3 (pv 3)) l_nil)) e_str) (e_callT cd_str rfl (c.free 4) rfl (l_cons (e_var 4 (pv 4)) l_nil)))))))))))))))
theorem sc_is_name : FnScope ["text", "sign"] ["text"] (defScope sd_is_name) := ⟨rfl, rfl, rfl, by decide +kernel, rfl, by decide +kernel, by decide +kernel⟩
theorem ok_is_name (c : Cx K mg) : ∃ fd, Df P w K mg base a_is_name fd ["text"] [] d_is_name 1 ∧ Binds K fd ["text"] [] := by
  obtain ⟨fd, F⟩ := c.d.def_ 7 (d := a_is_name) rfl
  refine ⟨fd, ⟨F, fn_denD (k := 0) F sc_is_name (by decide) fun cdv A outer s H E j hr W => ?_, outLen_run⟩, F.bindsN fun _ _ _ _ _ _ us hl => match us, hl with | [_], _ => rfl⟩
  exact (ss_cons (s_if (t_pw (t_or (t_not (t_chain od_le od_le e_int (e_callB cd_len rfl (c.free 9) rfl (l_cons (e_var 0 (pv 0)) l_nil)) (g_int c 10))) (t_or1 (t_cmp (od_notIn (Room.units65 hr)) (e_ix (e_var 0 (pv 0)) e_int (fun _ _ => rfl)) (g_str c 11) (by rfl))))) (ss_one (s_ret e_bl)) ss_nil)
    (ss_one (s_ret (e_callB (cd_all W.calm) rfl (c.free 13) rfl (l_cons (e_frzo (o_lc (own := [("sign", 1)]) W.calm W.nd (fun i hi => W.pin i (by revert i; decide)) (by decide) (i_src (e_var 0 (pv 0))) (blkOk_by (by rfl)) (fun s1 H1 C1 cl1 fp1 eb1 hE1 => (w_name 1 W.nd (hE1 1 (by decide)))) (fun s1 H1 C1 cl1 fp1 eb1 hE1 => ts_nil) (fun s1 H1 C1 cl1 fp1 eb1 hE1 => (e_or (e_cmp (od_in (Room.units65 hr)) (e_var 1 (pv 1)) (g_str c 11) (by rfl)) (e_one (e_cmp (od_in (Room.units65 hr)) (e_var 1 (pv 1)) (g_str c 12) (by rfl))))))) l_nil)))))
theorem sc_asked_names : FnScope ["texts", "text"] ["texts"] (defScope sd_asked_names) := ⟨rfl, rfl, rfl, by decide +kernel, rfl, by decide +kernel, by decide +kernel⟩
theorem ok_asked_names (c : Cx K mg) : ∃ fd, Df P w K mg base a_asked_names fd ["texts"] [] d_asked_names 3 ∧ Binds K fd ["texts"] [] := by
  obtain ⟨fd, F⟩ := c.d.def_ 8 (d := a_asked_names) rfl
  obtain ⟨fd_is_name, D_is_name, B_is_name⟩ := ok_is_name (P := P) (w := w) (base := base) c
  obtain ⟨fd_NoName, I_NoName, J_NoName⟩ := ini_NoName (P := P) (w := w) (base := base) c
  refine ⟨fd, ⟨F, fn_denD (k := 2) F sc_asked_names (by decide) fun cdv A outer s H E j hr W => ?_, outLen_run⟩, F.bindsN fun _ _ _ _ _ _ us hl => match us, hl with | [_], _ => rfl⟩
  exact (ss_one (s_for W.pass W.calm (i_src (e_var 0 (pv 0))) (g_name 1 W.nd (W.pin 1 (by decide))) (ss_one (s_if (t_not (t_val (e_frzo (o_fn D_is_name B_is_name hr (c.glo 14) W.take (a_cons (e_var 1 (pv 1)) a_nil))))) (ss_one (s_raise W.calm W.take (xkfB_ok (exf c 0) (c.glo 15)) I_NoName (hr.mono (by decide)) J_NoName (l_cons (e_var 1 (pv 1)) l_nil) (consD_len (fun _ _ _ => nilD_len)))) ss_nil))))
theorem sc_asked_once : FnScope ["names", "seen", "name"] ["names"] (defScope sd_asked_once) := ⟨rfl, rfl, rfl, by decide +kernel, rfl, by decide +kernel, by decide +kernel⟩
theorem ok_asked_once (c : Cx K mg) : ∃ fd, Df P w K mg base a_asked_once fd ["names"] [] d_asked_once 3 ∧ Binds K fd ["names"] [] := by
  obtain ⟨fd, F⟩ := c.d.def_ 9 (d := a_asked_once) rfl
  obtain ⟨fd_Twice, I_Twice, J_Twice⟩ := ini_Twice (P := P) (w := w) (base := base) c
  refine ⟨fd, ⟨F, fn_denD (k := 2) F sc_asked_once (by decide) fun cdv A outer s H E j hr W => ?_, outLen_run⟩, F.bindsN fun _ _ _ _ _ _ us hl => match us, hl with | [_], _ => rfl⟩
  exact (ss_cons (s_setO 1 W.nd (W.pin 1 (by decide)) o_dict0)
    (ss_one (s_for W.pass W.calm (i_src (e_var 0 (pv 0))) (g_name 2 W.nd (W.pin 2 (by decide))) (ss_cons (s_if (t_din 1 (Room.units1 hr) (e_var 2 (pv 2)) (pv 1)) (ss_one (s_raise W.calm W.take (xkfB_ok (exf c 1) (c.glo 16)) I_Twice (hr.mono (by decide)) J_Twice (l_cons (e_var 2 (pv 2)) l_nil) (consD_len (fun _ _ _ => nilD_len)))) ss_nil)
    (ss_one (s_dput 1 (Room.units1 hr) (pv 1) (e_var 2 (pv 2)) e_bl))))))
theorem sc_asked_some : FnScope ["what", "names"] ["what", "names"] (defScope sd_asked_some) := ⟨rfl, rfl, rfl, by decide +kernel, rfl, by decide +kernel, by decide +kernel⟩
theorem ok_asked_some (c : Cx K mg) : ∃ fd, Df P w K mg base a_asked_some fd ["what", "names"] [] d_asked_some 4 ∧ Binds K fd ["what", "names"] [] := by
  obtain ⟨fd, F⟩ := c.d.def_ 10 (d := a_asked_some) rfl
  obtain ⟨fd_asked_names, D_asked_names, B_asked_names⟩ := ok_asked_names (P := P) (w := w) (base := base) c
  obtain ⟨fd_asked_once, D_asked_once, B_asked_once⟩ := ok_asked_once (P := P) (w := w) (base := base) c
  obtain ⟨fd_BadCount, I_BadCount, J_BadCount⟩ := ini_BadCount (P := P) (w := w) (base := base) c
  refine ⟨fd, ⟨F, fn_denD (k := 3) F sc_asked_some (by decide) fun cdv A outer s H E j hr W => ?_, outLen_run⟩, F.bindsN fun _ _ _ _ _ _ us hl => match us, hl with | [_, _], _ => rfl⟩
  exact (ss_cons (s_if (t_not (t_chain od_le od_le e_int (e_callB cd_len rfl (c.free 9) rfl (l_cons (e_var 1 (pv 1)) l_nil)) (g_int c 17))) (ss_one (s_raise W.calm W.take (xkfB_ok (exf c 2) (c.glo 18)) I_BadCount (hr.mono (by decide)) J_BadCount (l_cons (e_var 0 (pv 0)) (l_cons (e_callB cd_len rfl (c.free 9) rfl (l_cons (e_var 1 (pv 1)) l_nil)) l_nil)) (consD_len (consD_len (fun _ _ _ => nilD_len))))) ss_nil)
    (ss_cons (s_expr (e_frzo (o_fn D_asked_names B_asked_names hr (c.glo 19) W.take (a_cons (e_var 1 (pv 1)) a_nil))))
    (ss_one (s_expr (e_frzo (o_fn D_asked_once B_asked_once hr (c.glo 20) W.take (a_cons (e_var 1 (pv 1)) a_nil)))))))
theorem sc_asked_pays : FnScope ["pays", "tall", "wide", "row"] ["pays", "tall", "wide"] (defScope sd_asked_pays) := ⟨rfl, rfl, rfl, by decide +kernel, rfl, by decide +kernel, by decide +kernel⟩
theorem ok_asked_pays (c : Cx K mg) : ∃ fd, Df P w K mg base a_asked_pays fd ["pays", "tall", "wide"] [] d_asked_pays 3 ∧ Binds K fd ["pays", "tall", "wide"] [] := by
  obtain ⟨fd, F⟩ := c.d.def_ 11 (d := a_asked_pays) rfl
  obtain ⟨fd_BadCount, I_BadCount, J_BadCount⟩ := ini_BadCount (P := P) (w := w) (base := base) c
  refine ⟨fd, ⟨F, fn_denD (k := 2) F sc_asked_pays (by decide) fun cdv A outer s H E j hr W => ?_, outLen_run⟩, F.bindsN fun _ _ _ _ _ _ us hl => match us, hl with | [_, _, _], _ => rfl⟩
  exact (ss_cons (s_if (t_cmp (od_ne hr.units) (e_callB cd_len rfl (c.free 9) rfl (l_cons (e_var 0 (pv 0)) l_nil)) (e_var 1 (pv 1)) (nomark _)) (ss_one (s_raise W.calm W.take (xkfB_ok (exf c 2) (c.glo 18)) I_BadCount (hr.mono (by decide)) J_BadCount (l_cons e_str (l_cons (e_callB cd_len rfl (c.free 9) rfl (l_cons (e_var 0 (pv 0)) l_nil)) l_nil)) (consD_len (consD_len (fun _ _ _ => nilD_len))))) ss_nil)
    (ss_one (s_for W.pass W.calm (i_src (e_var 0 (pv 0))) (g_name 3 W.nd (W.pin 3 (by decide))) (ss_one (s_if (t_cmp (od_ne hr.units) (e_callB cd_len rfl (c.free 9) rfl (l_cons (e_var 3 (pv 3)) l_nil)) (e_var 2 (pv 2)) (nomark _)) (ss_one (s_raise W.calm W.take (xkfB_ok (exf c 2) (c.glo 18)) I_BadCount (hr.mono (by decide)) J_BadCount (l_cons e_str (l_cons (e_callB cd_len rfl (c.free 9) rfl (l_cons (e_var 3 (pv 3)) l_nil)) l_nil)) (consD_len (consD_len (fun _ _ _ => nilD_len))))) ss_nil)))))
theorem sc_Game_init : FnScope ["self", "rows", "columns", "pays", "row", "one", "other"] ["self", "rows", "columns", "pays"] (defScope sd_Game_init) := ⟨rfl, rfl, rfl, by decide +kernel, rfl, by decide +kernel, by decide +kernel⟩
theorem ok_Game_init (c : Cx K mg) : ∃ fd, Df P w K mg base a_Game_init fd ["self", "rows", "columns", "pays"] [0] d_Game_init 5 ∧ Binds K fd ["self", "rows", "columns", "pays"] [] := by
  obtain ⟨fd, F⟩ := c.d.def_ 12 (d := a_Game_init) rfl
  obtain ⟨fd_asked_some, D_asked_some, B_asked_some⟩ := ok_asked_some (P := P) (w := w) (base := base) c
  obtain ⟨fd_asked_pays, D_asked_pays, B_asked_pays⟩ := ok_asked_pays (P := P) (w := w) (base := base) c
  refine ⟨fd, ⟨F, fn_denD (k := 4) F sc_Game_init (by decide) fun cdv A outer s H E j hr W => ?_, outLen_run⟩, F.bindsN fun _ _ _ _ _ _ us hl => match us, hl with | [_, _, _, _], _ => rfl⟩
  exact (ss_cons (s_expr (e_frzo (o_fn D_asked_some B_asked_some hr (c.glo 21) W.take (a_cons e_str (a_cons (e_var 1 (pv 1)) a_nil)))))
    (ss_cons (s_expr (e_frzo (o_fn D_asked_some B_asked_some hr (c.glo 21) W.take (a_cons e_str (a_cons (e_var 2 (pv 2)) a_nil)))))
    (ss_cons (s_expr (e_frzo (o_fn D_asked_pays B_asked_pays hr (c.glo 22) W.take (a_cons (e_var 3 (pv 3)) (a_cons (e_callB cd_len rfl (c.free 9) rfl (l_cons (e_var 1 (pv 1)) l_nil)) (a_cons (e_callB cd_len rfl (c.free 9) rfl (l_cons (e_var 2 (pv 2)) l_nil)) a_nil))))))
    (ss_cons (s_setf (c.fld 24 25 26) (by decide) 0 (pv 0) (e_tup (l_cons (e_callT cd_tuple rfl (c.free 23) rfl (l_cons (e_var 1 (pv 1)) l_nil)) (l_cons (e_callT cd_tuple rfl (c.free 23) rfl (l_cons (e_var 2 (pv 2)) l_nil)) l_nil))))
    (ss_one (s_setf (c.fld 24 25 27) (by decide) 0 (pv 0) (e_callT cd_tuple rfl (c.free 23) rfl (l_cons (e_frzo (o_lc (own := [("row", 4), ("one", 5), ("other", 6)]) W.calm W.nd (fun i hi => W.pin i (by revert i; decide)) (by decide) (i_src (e_var 3 (pv 3))) (blkOk_by (by rfl)) (fun s2 H2 C2 cl2 fp2 eb2 hE1 => (w_name 4 W.nd (hE1 4 (by decide)))) (fun s2 H2 C2 cl2 fp2 eb2 hE1 => ts_nil) (fun s2 H2 C2 cl2 fp2 eb2 hE1 => (e_callT cd_tuple rfl (c.free 23) rfl (l_cons (e_frzo (o_lc (own := [("one", 5), ("other", 6)]) W.calm W.nd (fun i hi => hE1 i (by revert i; decide)) (by decide) (i_src (e_var 4 (pv 4))) (blkOk_by (by rfl)) (fun s2 H2 C2 cl2 fp2 eb2 hE2 => (w_tup W.calm (ws_cons (w_name 5 W.nd (hE2 5 (by decide))) (ws_cons (w_name 6 W.nd (hE2 6 (by decide))) ws_nil)) (fun _ _ _ e => gConsD_len (fun _ _ _ e => gConsD_len (fun _ _ _ e => gNilD_len e) e) e))) (fun s2 H2 C2 cl2 fp2 eb2 hE2 => ts_nil) (fun s2 H2 C2 cl2 fp2 eb2 hE2 => (e_tup (l_cons (e_var 5 (pv 5)) (l_cons (e_var 6 (pv 6)) l_nil)))))) l_nil))))) l_nil))))))))
theorem sc_Game_size : FnScope ["self", "side"] ["self", "side"] (defScope sd_Game_size) := ⟨rfl, rfl, rfl, by decide +kernel, rfl, by decide +kernel, by decide +kernel⟩
theorem ok_Game_size (c : Cx K mg) : ∃ fd, Df P w K mg base a_Game_size fd ["self", "side"] [] d_Game_size 3 ∧ Binds K fd ["self", "side"] [] := by
  obtain ⟨fd, F⟩ := c.d.def_ 13 (d := a_Game_size) rfl
  obtain ⟨fd_NoSide, I_NoSide, J_NoSide⟩ := ini_NoSide (P := P) (w := w) (base := base) c
  refine ⟨fd, ⟨F, fn_denD (k := 2) F sc_Game_size (by decide) fun cdv A outer s H E j hr W => ?_, outLen_run⟩, F.bindsN fun _ _ _ _ _ _ us hl => match us, hl with | [_, _], _ => rfl⟩
  exact (ss_cons (s_if (t_cmp (od_notIn (Room.units65 hr)) (e_var 1 (pv 1)) (e_tup (l_cons e_int (l_cons e_int l_nil))) (by rfl)) (ss_one (s_raise W.calm W.take (xkfB_ok (exf c 3) (c.glo 28)) I_NoSide (hr.mono (by decide)) J_NoSide (l_cons (e_var 1 (pv 1)) l_nil) (consD_len (fun _ _ _ => nilD_len)))) ss_nil)
    (ss_one (s_ret (e_callB cd_len rfl (c.free 9) rfl (l_cons (e_ix (e_fld (c.fld 24 25 26) (e_var 0 (pv 0))) (e_var 1 (pv 1)) (fun _ _ => rfl)) l_nil)))))
theorem sc_Game_pay : FnScope ["self", "row", "column", "side", "choice"] ["self", "row", "column"] (defScope sd_Game_pay) := ⟨rfl, rfl, rfl, by decide +kernel, rfl, by decide +kernel, by decide +kernel⟩
theorem ok_Game_pay (c : Cx K mg) : ∃ fd, Df P w K mg base a_Game_pay fd ["self", "row", "column"] [] d_Game_pay 3 ∧ Binds K fd ["self", "row", "column"] [] := by
  obtain ⟨fd, F⟩ := c.d.def_ 14 (d := a_Game_pay) rfl
  obtain ⟨fd_NoChoice, I_NoChoice, J_NoChoice⟩ := ini_NoChoice (P := P) (w := w) (base := base) c
  refine ⟨fd, ⟨F, fn_denD (k := 2) F sc_Game_pay (by decide) fun cdv A outer s H E j hr W => ?_, outLen_run⟩, F.bindsN fun _ _ _ _ _ _ us hl => match us, hl with | [_, _, _], _ => rfl⟩
  exact (ss_cons (s_for W.pass W.calm (i_enum rfl (c.free 29) (e_tup (l_cons (e_var 1 (pv 1)) (l_cons (e_var 2 (pv 2)) l_nil)))) (g_tup W.calm (gs_cons (g_name 3 W.nd (W.pin 3 (by decide))) (gs_cons (g_name 4 W.nd (W.pin 4 (by decide))) gs_nil)) (fun _ _ _ e => gConsD_len (fun _ _ _ e => gConsD_len (fun _ _ _ e => gNilD_len e) e) e)) (ss_one (s_if (t_not (t_chain od_le od_lt e_int (e_var 4 (pv 4)) (e_callB cd_len rfl (c.free 9) rfl (l_cons (e_ix (e_fld (c.fld 24 25 26) (e_var 0 (pv 0))) (e_var 3 (pv 3)) (fun _ _ => rfl)) l_nil)))) (ss_one (s_raise W.calm W.take (xkfB_ok (exf c 4) (c.glo 30)) I_NoChoice (hr.mono (by decide)) J_NoChoice (l_cons (e_var 3 (pv 3)) (l_cons (e_var 4 (pv 4)) l_nil)) (consD_len (consD_len (fun _ _ _ => nilD_len))))) ss_nil)))
    (ss_one (s_ret (e_ix (e_ix (e_fld (c.fld 24 25 27) (e_var 0 (pv 0))) (e_var 1 (pv 1)) (fun _ _ => rfl)) (e_var 2 (pv 2)) (fun _ _ => rfl)))))
theorem sc_Game_rows : FnScope ["self"] ["self"] (defScope sd_Game_rows) := ⟨rfl, rfl, rfl, by decide +kernel, rfl, by decide +kernel, by decide +kernel⟩
theorem ok_Game_rows (c : Cx K mg) : ∃ fd, Df P w K mg base a_Game_rows fd ["self"] [] d_Game_rows 1 ∧ Binds K fd ["self"] [] := by
  obtain ⟨fd, F⟩ := c.d.def_ 15 (d := a_Game_rows) rfl
  refine ⟨fd, ⟨F, fn_denD (k := 0) F sc_Game_rows (by decide) fun cdv A outer s H E j hr W => ?_, outLen_run⟩, F.bindsN fun _ _ _ _ _ _ us hl => match us, hl with | [_], _ => rfl⟩
  exact (ss_one (s_ret (e_callT cd_list rfl (c.free 31) rfl (l_cons (e_ix (e_fld (c.fld 24 25 26) (e_var 0 (pv 0))) e_int (fun _ _ => rfl)) l_nil))))
theorem sc_Game_columns : FnScope ["self"] ["self"] (defScope sd_Game_columns) := ⟨rfl, rfl, rfl, by decide +kernel, rfl, by decide +kernel, by decide +kernel⟩
theorem ok_Game_columns (c : Cx K mg) : ∃ fd, Df P w K mg base a_Game_columns fd ["self"] [] d_Game_columns 1 ∧ Binds K fd ["self"] [] := by
  obtain ⟨fd, F⟩ := c.d.def_ 16 (d := a_Game_columns) rfl
  refine ⟨fd, ⟨F, fn_denD (k := 0) F sc_Game_columns (by decide) fun cdv A outer s H E j hr W => ?_, outLen_run⟩, F.bindsN fun _ _ _ _ _ _ us hl => match us, hl with | [_], _ => rfl⟩
  exact (ss_one (s_ret (e_callT cd_list rfl (c.free 31) rfl (l_cons (e_ix (e_fld (c.fld 24 25 26) (e_var 0 (pv 0))) e_int (fun _ _ => rfl)) l_nil))))
theorem sc_game_rows : FnScope ["game", "found", "row", "pairs", "column", "one", "other"] ["game"] (defScope sd_game_rows) := ⟨rfl, rfl, rfl, by decide +kernel, rfl, by decide +kernel, by decide +kernel⟩
theorem ok_game_rows (c : Cx K mg) : ∃ fd, Df P w K mg base a_game_rows fd ["game"] [] d_game_rows 4 ∧ Binds K fd ["game"] [] := by
  obtain ⟨fd, F⟩ := c.d.def_ 17 (d := a_game_rows) rfl
  obtain ⟨fd_Game_columns, D_Game_columns, B_Game_columns⟩ := ok_Game_columns (P := P) (w := w) (base := base) c
  obtain ⟨fd_Game_rows, D_Game_rows, B_Game_rows⟩ := ok_Game_rows (P := P) (w := w) (base := base) c
  obtain ⟨fd_Game_size, D_Game_size, B_Game_size⟩ := ok_Game_size (P := P) (w := w) (base := base) c
  obtain ⟨fd_Game_pay, D_Game_pay, B_Game_pay⟩ := ok_Game_pay (P := P) (w := w) (base := base) c
  refine ⟨fd, ⟨F, fn_denD (k := 3) F sc_game_rows (by decide) fun cdv A outer s H E j hr W => ?_, outLen_run⟩, F.bindsN fun _ _ _ _ _ _ us hl => match us, hl with | [_], _ => rfl⟩
  exact (ss_cons (s_setO 1 W.nd (W.pin 1 (by decide)) (o_lstO (l_cons (e_join e_str (e_bin od_add (e_lst (l_cons e_str l_nil)) (e_frzo (o_meth0 D_Game_rows B_Game_rows rfl (c.meth 24 25 33) hr W.take (e_var 0 (pv 0)))))) (l_cons (e_join e_str (e_bin od_add (e_lst (l_cons e_str l_nil)) (e_frzo (o_meth0 D_Game_columns B_Game_columns rfl (c.meth 24 25 32) hr W.take (e_var 0 (pv 0)))))) l_nil))))
    (ss_cons (s_for W.pass W.calm (i_range1 rfl (c.free 3) (e_frzo (o_meth D_Game_size B_Game_size rfl (c.meth 24 25 34) hr W.take (e_var 0 (pv 0)) (a_cons e_int a_nil)))) (g_name 2 W.nd (W.pin 2 (by decide))) (ss_cons (s_setLcF (own := [("column", 4)]) 3 W.calm W.nd (W.pin 3 (by decide)) (fun i hi => W.pin i (by revert i; decide)) (by decide) (i_range1 rfl (c.free 3) (e_frzo (o_meth D_Game_size B_Game_size rfl (c.meth 24 25 34) hr W.take (e_var 0 (pv 0)) (a_cons e_int a_nil)))) (blkOk_by (by rfl)) (fun s1 H1 C1 cl1 fp1 eb1 hE1 => (w_name 4 W.nd (hE1 4 (by decide)))) (fun s1 H1 C1 cl1 fp1 eb1 hE1 => ts_nil) (fun s1 H1 C1 cl1 fp1 eb1 hE1 => (e_frzo (o_meth D_Game_pay B_Game_pay rfl (c.meth 24 25 35) hr takes_noX (e_var 0 (pv 0)) (a_cons (e_var 2 (pv 2)) (a_cons (e_var 4 (pv 4)) a_nil))))))
    (ss_one (s_app 1 (pv 1) (e_join e_str (e_bin od_add (e_lst (l_cons e_str l_nil)) (e_frzo (o_lc (own := [("one", 5), ("other", 6)]) W.calm W.nd (fun i hi => W.pin i (by revert i; decide)) (by decide) (i_src (e_var 3 (pv 3))) (blkOk_by (by rfl)) (fun s2 H2 C2 cl2 fp2 eb2 hE2 => (w_tup W.calm (ws_cons (w_name 5 W.nd (hE2 5 (by decide))) (ws_cons (w_name 6 W.nd (hE2 6 (by decide))) ws_nil)) (fun _ _ _ e => gConsD_len (fun _ _ _ e => gConsD_len (fun _ _ _ e => gNilD_len e) e) e))) (fun s2 H2 C2 cl2 fp2 eb2 hE2 => ts_nil) (fun s2 H2 C2 cl2 fp2 eb2 hE2 => (e_joined (.cons (e_fmt (e_var 5 (pv 5))) (.cons e_str (.cons (e_fmt (e_var 6 (pv 6))) .nil)))))))))))))
    (ss_one (s_retV 1 (pv 1) (W.pin 1 (by decide))))))
theorem sc_is_figures : FnScope ["text", "sign"] ["text"] (defScope sd_is_figures) := ⟨rfl, rfl, rfl, by decide +kernel, rfl, by decide +kernel, by decide +kernel⟩
theorem ok_is_figures (c : Cx K mg) : ∃ fd, Df P w K mg base a_is_figures fd ["text"] [] d_is_figures 1 ∧ Binds K fd ["text"] [] := by
  obtain ⟨fd, F⟩ := c.d.def_ 18 (d := a_is_figures) rfl
  refine ⟨fd, ⟨F, fn_denD (k := 0) F sc_is_figures (by decide) fun cdv A outer s H E j hr W => ?_, outLen_run⟩, F.bindsN fun _ _ _ _ _ _ us hl => match us, hl with | [_], _ => rfl⟩
  exact (ss_cons (s_if (t_pw (t_or (t_not (t_chain od_le od_le e_int (e_callB cd_len rfl (c.free 9) rfl (l_cons (e_var 0 (pv 0)) l_nil)) (g_int c 36))) (t_or1 (t_not (t_val (e_callB (cd_all W.calm) rfl (c.free 13) rfl (l_cons (e_frzo (o_lc (own := [("sign", 1)]) W.calm W.nd (fun i hi => W.pin i (by revert i; decide)) (by decide) (i_src (e_var 0 (pv 0))) (blkOk_by (by rfl)) (fun s1 H1 C1 cl1 fp1 eb1 hE1 => (w_name 1 W.nd (hE1 1 (by decide)))) (fun s1 H1 C1 cl1 fp1 eb1 hE1 => ts_nil) (fun s1 H1 C1 cl1 fp1 eb1 hE1 => (e_cmp (od_in (Room.units65 hr)) (e_var 1 (pv 1)) (g_str c 12) (by rfl))))) l_nil))))))) (ss_one (s_ret e_bl)) ss_nil)
    (ss_one (s_ret (e_or (e_cmp (od_eq hr.units) (e_var 0 (pv 0)) e_str (nomark _)) (e_one (e_cmp (od_ne hr.units) (e_ix (e_var 0 (pv 0)) e_int (fun _ _ => rfl)) e_str (nomark _)))))))
theorem sc_is_number : FnScope ["text"] ["text"] (defScope sd_is_number) := ⟨rfl, rfl, rfl, by decide +kernel, rfl, by decide +kernel, by decide +kernel⟩
theorem ok_is_number (c : Cx K mg) : ∃ fd, Df P w K mg base a_is_number fd ["text"] [] d_is_number 2 ∧ Binds K fd ["text"] [] := by
  obtain ⟨fd, F⟩ := c.d.def_ 19 (d := a_is_number) rfl
  obtain ⟨fd_is_figures, D_is_figures, B_is_figures⟩ := ok_is_figures (P := P) (w := w) (base := base) c
  refine ⟨fd, ⟨F, fn_denD (k := 1) F sc_is_number (by decide) fun cdv A outer s H E j hr W => ?_, outLen_run⟩, F.bindsN fun _ _ _ _ _ _ us hl => match us, hl with | [_], _ => rfl⟩
  exact (ss_cons (s_if (t_val (e_starts (e_var 0 (pv 0)) e_str)) (ss_one (s_ret (e_and (e_frzo (o_fn D_is_figures B_is_figures hr (c.glo 37) W.take (a_cons (e_slice (e_var 0 (pv 0)) (p_some e_int) p_none) a_nil))) (e_one (e_cmp (od_ne hr.units) (e_var 0 (pv 0)) e_str (nomark _)))))) ss_nil)
    (ss_one (s_retO (o_fn D_is_figures B_is_figures hr (c.glo 37) W.take (a_cons (e_var 0 (pv 0)) a_nil)))))
theorem sc_pair_in : FnScope ["text", "parts", "part"] ["text"] (defScope sd_pair_in) := ⟨rfl, rfl, rfl, by decide +kernel, rfl, by decide +kernel, by decide +kernel⟩
theorem ok_pair_in (c : Cx K mg) : ∃ fd, Df P w K mg base a_pair_in fd ["text"] [] d_pair_in 3 ∧ Binds K fd ["text"] [] := by
  obtain ⟨fd, F⟩ := c.d.def_ 20 (d := a_pair_in) rfl
  obtain ⟨fd_is_number, D_is_number, B_is_number⟩ := ok_is_number (P := P) (w := w) (base := base) c
  refine ⟨fd, ⟨F, fn_denD (k := 2) F sc_pair_in (by decide) fun cdv A outer s H E j hr W => ?_, outLen_run⟩, F.bindsN fun _ _ _ _ _ _ us hl => match us, hl with | [_], _ => rfl⟩
  exact (ss_cons (s_set 1 W.nd (W.pin 1 (by decide)) (e_split (e_var 0 (pv 0)) e_str))
    (ss_cons (s_if (t_pw (t_or (t_cmp (od_ne hr.units) (e_callB cd_len rfl (c.free 9) rfl (l_cons (e_var 1 (pv 1)) l_nil)) e_int (nomark _)) (t_or1 (t_not (t_val (e_callB (cd_all W.calm) rfl (c.free 13) rfl (l_cons (e_frzo (o_lc (own := [("part", 2)]) W.calm W.nd (fun i hi => W.pin i (by revert i; decide)) (by decide) (i_src (e_var 1 (pv 1))) (blkOk_by (by rfl)) (fun s1 H1 C1 cl1 fp1 eb1 hE1 => (w_name 2 W.nd (hE1 2 (by decide)))) (fun s1 H1 C1 cl1 fp1 eb1 hE1 => ts_nil) (fun s1 H1 C1 cl1 fp1 eb1 hE1 => (e_frzo (o_fn D_is_number B_is_number hr (c.glo 38) takes_noX (a_cons (e_var 2 (pv 2)) a_nil)))))) l_nil))))))) (ss_one (s_ret e_non)) ss_nil)
    (ss_one (s_ret (e_tup (l_cons (e_callT cd_intX rfl (c.free 1) rfl (l_cons (e_ix (e_var 1 (pv 1)) e_int (fun _ _ => rfl)) l_nil)) (l_cons (e_callT cd_intX rfl (c.free 1) rfl (l_cons (e_ix (e_var 1 (pv 1)) e_int (fun _ _ => rfl)) l_nil)) l_nil)))))))
theorem sc_parts_behind : FnScope ["row", "number", "word", "parts", "place", "part"] ["row", "number"] (defScope sd_parts_behind) := ⟨rfl, rfl, rfl, by decide +kernel, rfl, by decide +kernel, by decide +kernel⟩
theorem ok_parts_behind (c : Cx K mg) : ∃ fd, Df P w K mg base a_parts_behind fd ["row", "number"] [] d_parts_behind 4 ∧ Binds K fd ["row", "number"] [] := by
  obtain ⟨fd, F⟩ := c.d.def_ 21 (d := a_parts_behind) rfl
  obtain ⟨fd_pair_in, D_pair_in, B_pair_in⟩ := ok_pair_in (P := P) (w := w) (base := base) c
  obtain ⟨fd_BadRow, I_BadRow, J_BadRow⟩ := ini_BadRow (P := P) (w := w) (base := base) c
  refine ⟨fd, ⟨F, fn_denD (k := 3) F sc_parts_behind (by decide) fun cdv A outer s H E j hr W => ?_, outLen_run⟩, F.bindsN fun _ _ _ _ _ _ us hl => match us, hl with | [_, _], _ => rfl⟩
  exact (ss_cons (s_star 2 3 W.calm W.nd (W.pin 2 (by decide)) (W.pin 3 (by decide)) (e_split (e_var 0 (pv 0)) e_str))
    (ss_cons (s_if (t_cmp (od_ne hr.units) (e_var 2 (pv 2)) (e_ix (g_tupC c 39 (vs := [.str "rows", .str "columns", .str "pay"]) (exf c 5)) (e_callB (cd_minX W.calm) rfl (c.free 6) rfl (l_cons (e_var 1 (pv 1)) (l_cons e_int l_nil))) (fun _ _ => rfl)) (nomark _)) (ss_one (s_raise W.calm W.take (xkfB_ok (exf c 6) (c.glo 40)) I_BadRow (hr.mono (by decide)) J_BadRow (l_cons (e_var 1 (pv 1)) (l_cons e_int l_nil)) (consD_len (consD_len (fun _ _ _ => nilD_len))))) ss_nil)
    (ss_cons (s_if (t_cmpL (od_eq hr.units) 3 (pv 3) (e_lst l_nil) (nomark _)) (ss_one (s_raise W.calm W.take (xkfB_ok (exf c 6) (c.glo 40)) I_BadRow (hr.mono (by decide)) J_BadRow (l_cons (e_var 1 (pv 1)) (l_cons e_int l_nil)) (consD_len (consD_len (fun _ _ _ => nilD_len))))) ss_nil)
    (ss_cons (s_for W.pass W.calm (i_enum rfl (c.free 29) (e_varF 3 (pv 3) (W.pin 3 (by decide)))) (g_tup W.calm (gs_cons (g_name 4 W.nd (W.pin 4 (by decide))) (gs_cons (g_name 5 W.nd (W.pin 5 (by decide))) gs_nil)) (fun _ _ _ e => gConsD_len (fun _ _ _ e => gConsD_len (fun _ _ _ e => gNilD_len e) e) e)) (ss_one (s_if (t_pw (t_or (t_cmp (od_eq hr.units) (e_var 5 (pv 5)) e_str (nomark _)) (t_or1 (t_pw (t_and (t_cmp od_gt (e_var 1 (pv 1)) e_int (nomark _)) (t_and1 (t_cmp od_isN (e_frzo (o_fn D_pair_in B_pair_in hr (c.glo 41) W.take (a_cons (e_var 5 (pv 5)) a_nil))) e_non (nomark _)))))))) (ss_one (s_raise W.calm W.take (xkfB_ok (exf c 6) (c.glo 40)) I_BadRow (hr.mono (by decide)) J_BadRow (l_cons (e_var 1 (pv 1)) (l_cons (e_bin od_add (e_var 4 (pv 4)) e_int) l_nil)) (consD_len (consD_len (fun _ _ _ => nilD_len))))) ss_nil)))
    (ss_one (s_retV 3 (pv 3) (W.pin 3 (by decide))))))))
theorem sc_read_game : FnScope ["rows", "found", "number", "row", "parts", "part"] ["rows"] (defScope sd_read_game) := ⟨rfl, rfl, rfl, by decide +kernel, rfl, by decide +kernel, by decide +kernel⟩
theorem ok_read_game (c : Cx K mg) : ∃ fd, Df P w K mg base a_read_game fd ["rows"] [] d_read_game 7 ∧ Binds K fd ["rows"] [] := by
  obtain ⟨fd, F⟩ := c.d.def_ 22 (d := a_read_game) rfl
  obtain ⟨fd_parts_behind, D_parts_behind, B_parts_behind⟩ := ok_parts_behind (P := P) (w := w) (base := base) c
  obtain ⟨fd_pair_in, D_pair_in, B_pair_in⟩ := ok_pair_in (P := P) (w := w) (base := base) c
  obtain ⟨fd_Game_init, D_Game_init, B_Game_init⟩ := ok_Game_init (P := P) (w := w) (base := base) c
  obtain ⟨fd_BadRow, I_BadRow, J_BadRow⟩ := ini_BadRow (P := P) (w := w) (base := base) c
  refine ⟨fd, ⟨F, fn_denD (k := 6) F sc_read_game (by decide) fun cdv A outer s H E j hr W => ?_, outLen_run⟩, F.bindsN fun _ _ _ _ _ _ us hl => match us, hl with | [_], _ => rfl⟩
  exact (ss_cons (s_setLcXF (own := [("number", 2), ("row", 3)]) 1 rfl rfl W.take W.calm W.nd (W.pin 1 (by decide)) (fun i hi => W.pin i (by revert i; decide)) (by decide) (i_enum rfl (c.free 29) (e_var 0 (pv 0))) (blkOk_by (by rfl)) (fun s1 H1 C1 cl1 fp1 eb1 hE1 => (w_tup W.calm (ws_cons (w_name 2 W.nd (hE1 2 (by decide))) (ws_cons (w_name 3 W.nd (hE1 3 (by decide))) ws_nil)) (fun _ _ _ e => gConsD_len (fun _ _ _ e => gConsD_len (fun _ _ _ e => gNilD_len e) e) e))) (fun s1 H1 C1 cl1 fp1 eb1 hE1 => ts_nil) (fun s1 H1 C1 cl1 fp1 eb1 wx1 pn1 xe1 hE1 tk1 => (e_frzo (o_fn D_parts_behind B_parts_behind hr (c.glo 42) tk1 (a_cons (e_var 3 (pv 3)) (a_cons (e_var 2 (pv 2)) a_nil))))))
    (ss_cons (s_if (t_cmp od_lt (e_callB cd_len rfl (c.free 9) rfl (l_cons (e_var 1 (pv 1)) l_nil)) (g_int c 43) (nomark _)) (ss_one (s_raise W.calm W.take (xkfB_ok (exf c 6) (c.glo 40)) I_BadRow (hr.mono (by decide)) J_BadRow (l_cons (e_callB cd_len rfl (c.free 9) rfl (l_cons (e_var 1 (pv 1)) l_nil)) (l_cons e_int l_nil)) (consD_len (consD_len (fun _ _ _ => nilD_len))))) ss_nil)
    (ss_one (s_retO (o_make D_Game_init B_Game_init rfl (c.make 24 44) hr W.take (l_cons (e_ix (e_var 1 (pv 1)) e_int (fun _ _ => rfl)) (l_cons (e_ix (e_var 1 (pv 1)) e_int (fun _ _ => rfl)) (l_cons (e_frzo (o_lc (own := [("parts", 4), ("part", 5)]) W.calm W.nd (fun i hi => W.pin i (by revert i; decide)) (by decide) (i_src (e_slice (e_var 1 (pv 1)) (p_some e_int) p_none)) (blkOk_by (by rfl)) (fun s3 H3 C3 cl3 fp3 eb3 hE2 => (w_name 4 W.nd (hE2 4 (by decide)))) (fun s3 H3 C3 cl3 fp3 eb3 hE2 => ts_nil) (fun s3 H3 C3 cl3 fp3 eb3 hE2 => (e_frzo (o_lc (own := [("part", 5)]) W.calm W.nd (fun i hi => hE2 i (by revert i; decide)) (by decide) (i_src (e_var 4 (pv 4))) (blkOk_by (by rfl)) (fun s3 H3 C3 cl3 fp3 eb3 hE3 => (w_name 5 W.nd (hE3 5 (by decide)))) (fun s3 H3 C3 cl3 fp3 eb3 hE3 => ts_nil) (fun s3 H3 C3 cl3 fp3 eb3 hE3 => (e_frzo (o_fn D_pair_in B_pair_in hr (c.glo 41) takes_noX (a_cons (e_var 5 (pv 5)) a_nil))))))))) l_nil))))))))
theorem sc_Game_eq : FnScope ["self", "other"] ["self", "other"] (defScope sd_Game_eq) := ⟨rfl, rfl, rfl, by decide +kernel, rfl, by decide +kernel, by decide +kernel⟩
theorem ok_Game_eq (c : Cx K mg) : ∃ fd, Df P w K mg base a_Game_eq fd ["self", "other"] [] d_Game_eq 1 ∧ Binds K fd ["self", "other"] [] := by
  obtain ⟨fd, F⟩ := c.d.def_ 23 (d := a_Game_eq) rfl
  refine ⟨fd, ⟨F, fn_denD (k := 0) F sc_Game_eq (by decide) fun cdv A outer s H E j hr W => ?_, outLen_run⟩, F.bindsN fun _ _ _ _ _ _ us hl => match us, hl with | [_, _], _ => rfl⟩
  exact (ss_one (s_ret (e_and (e_isG (c.meth 24 25 34) (exf c 7) rfl (c.free 45) (pe_glob (v := .ref (He.ga K "Game")) rfl (c.glo 24) rfl) (e_var 1 (pv 1))) (e_one (e_cmp (od_eq hr.units) (e_tup (l_cons (e_fld (c.fld 24 25 26) (e_var 0 (pv 0))) (l_cons (e_fld (c.fld 24 25 27) (e_var 0 (pv 0))) l_nil))) (e_tup (l_cons (e_fld (c.fld 24 25 26) (e_var 1 (pv 1))) (l_cons (e_fld (c.fld 24 25 27) (e_var 1 (pv 1))) l_nil))) (nomark _))))))
theorem sc__law_refused : FnScope ["lines", "e"] ["lines"] (defScope sd__law_refused) := ⟨rfl, rfl, rfl, by decide +kernel, rfl, by decide +kernel, by decide +kernel⟩
theorem ok__law_refused (c : Cx K mg) : ∃ fd, Df P w K mg base a__law_refused fd ["lines"] [] d__law_refused 8 ∧ Binds K fd ["lines"] [] := by
  obtain ⟨fd, F⟩ := c.d.def_ 24 (d := a__law_refused) rfl
  obtain ⟨fd_read_game, D_read_game, B_read_game⟩ := ok_read_game (P := P) (w := w) (base := base) c
  refine ⟨fd, ⟨F, fn_denD (k := 7) F sc__law_refused (by decide) fun cdv A outer s H E j hr W => ?_, outLen_run⟩, F.bindsN fun _ _ _ _ _ _ us hl => match us, hl with | [_], _ => rfl⟩
  exact (ss_cons (s_try_as 1 rfl rfl W.nd ⟨rfl, by decide, .inl (c.glo 40)⟩ W.take (fun i hi => W.pin i (by revert i; decide))
    (mtOf_ok (M := ⟨K, mg⟩) (.cons (c.glo 18) (c.exm 50) (.cons (c.glo 15) (c.exm 49) (.cons (c.glo 16) (c.exm 48) (.cons (c.glo 40) (c.exm 47) .nil)))))
    (fun V pn xe tk pw => (ss_one (s_expr (e_frzo (o_fn D_read_game B_read_game hr (c.glo 46) tk (a_cons (e_var 0 (pv 0)) a_nil))))))
    (fun a oe cls d pn es cn fs hC hA hM => by
    have hM := mtOf_mem hM
    simp only [takesOf, List.filter, List.map, List.mem_cons, List.not_mem_nil, or_false] at hM
    subst hM
    obtain rfl := caughtC hC (c.glo 40)
    exact (ss_one (s_ret (e_tup (l_cons (e_xfld 1 hC (xfsB_ok (exf c 8)).1 ((xfsB_ok (exf c 8)).2 _ (by decide)) (pv 1)) (l_cons (e_xfld 1 hC (xfsB_ok (exf c 8)).1 ((xfsB_ok (exf c 8)).2 _ (by decide)) (pv 1)) l_nil)))))))
    (ss_one (s_ret e_str)))
theorem sc__law_great_right : FnScope ["s", "g", "i", "j", "great", "pays", "line", "lines"] ["s", "g"] (defScope sd__law_great_right) := ⟨rfl, rfl, rfl, by decide +kernel, rfl, by decide +kernel, by decide +kernel⟩
theorem ok__law_great_right (c : Cx K mg) : ∃ fd, Df P w K mg base a__law_great_right fd ["s", "g"] [0] d__law_great_right 9 ∧ Binds K fd ["s", "g"] [] := by
  obtain ⟨fd, F⟩ := c.d.def_ 25 (d := a__law_great_right) rfl
  obtain ⟨fd__law_digit, D__law_digit, B__law_digit⟩ := ok__law_digit (P := P) (w := w) (base := base) c
  obtain ⟨fd_game_rows, D_game_rows, B_game_rows⟩ := ok_game_rows (P := P) (w := w) (base := base) c
  obtain ⟨fd_Game_init, D_Game_init, B_Game_init⟩ := ok_Game_init (P := P) (w := w) (base := base) c
  obtain ⟨fd__law_rows_of, D__law_rows_of, B__law_rows_of⟩ := ok__law_rows_of (P := P) (w := w) (base := base) c
  obtain ⟨fd__law_refused, D__law_refused, B__law_refused⟩ := ok__law_refused (P := P) (w := w) (base := base) c
  refine ⟨fd, ⟨F, fn_denD (k := 8) F sc__law_great_right (by decide) fun cdv A outer s H E j hr W => ?_, outLen_run⟩, F.bindsN fun _ _ _ _ _ _ us hl => match us, hl with | [_, _], _ => rfl⟩
  exact (ss_cons (s_set 2 W.nd (W.pin 2 (by decide)) (e_frzo (o_fn D__law_digit B__law_digit hr (c.glo 2) W.take (a_io 0 (pv 0) (a_cons (e_callB cd_len rfl (c.free 9) rfl (l_cons (e_ix (e_var 1 (pv 1)) e_int (fun _ _ => rfl)) l_nil)) a_nil)))))
    (ss_cons (s_set 3 W.nd (W.pin 3 (by decide)) (e_frzo (o_fn D__law_digit B__law_digit hr (c.glo 2) W.take (a_io 0 (pv 0) (a_cons (e_callB cd_len rfl (c.free 9) rfl (l_cons (e_ix (e_var 1 (pv 1)) e_int (fun _ _ => rfl)) l_nil)) a_nil)))))
    (ss_cons (s_set 4 W.nd (W.pin 4 (by decide)) (e_ix (e_lst (l_cons (e_bin od_pow e_int e_int) (l_cons (e_un ud_neg (e_bin od_pow e_int e_int)) (l_cons (e_bin od_add (e_bin od_pow e_int e_int) e_int) (l_cons (e_bin od_sub (e_un ud_neg (e_bin od_pow e_int e_int)) e_int) l_nil))))) (e_frzo (o_fn D__law_digit B__law_digit hr (c.glo 2) W.take (a_io 0 (pv 0) (a_cons e_int a_nil)))) (fun _ _ => rfl)))
    (ss_cons (s_setLco (own := [("line", 6)]) 5 W.calm W.nd (W.pin 5 (by decide)) (fun i hi => W.pin i (by revert i; decide)) (by decide) (i_src (e_ix (e_var 1 (pv 1)) e_int (fun _ _ => rfl))) (blkOk_by (by rfl)) (fun s1 H1 C1 cl1 fp1 eb1 hE1 => (w_name 6 W.nd (hE1 6 (by decide)))) (fun s1 H1 C1 cl1 fp1 eb1 hE1 => ts_nil) (fun s1 H1 C1 cl1 fp1 eb1 hE1 => (o_list rfl (c.free 31) rfl (l_cons (e_var 6 (pv 6)) l_nil))))
    (ss_cons (s_setix2 5 (e_ix (e_lst (l_cons (e_tup (l_cons (e_var 4 (pv 4)) (l_cons e_int l_nil))) (l_cons (e_tup (l_cons e_int (l_cons (e_var 4 (pv 4)) l_nil))) l_nil))) (e_frzo (o_fn D__law_digit B__law_digit hr (c.glo 2) W.take (a_io 0 (pv 0) (a_cons e_int a_nil)))) (fun _ _ => rfl)) (pv 5) (e_var 2 (pv 2)) (fun _ _ => rfl) (qi_var 3 (pv 3)))
    (ss_cons (s_set 7 W.nd (W.pin 7 (by decide)) (e_frzo (o_fn D_game_rows B_game_rows hr (c.glo 51) W.take (a_cons (e_frzo (o_make D_Game_init B_Game_init rfl (c.make 24 44) hr W.take (l_cons (e_ix (e_var 1 (pv 1)) e_int (fun _ _ => rfl)) (l_cons (e_ix (e_var 1 (pv 1)) e_int (fun _ _ => rfl)) (l_cons (e_varF 5 (pv 5) (W.pin 5 (by decide))) l_nil))))) a_nil))))
    (ss_one (s_ret (e_and (e_cmp (od_eq hr.units) (e_var 7 (pv 7)) (e_frzo (o_fn D__law_rows_of B__law_rows_of hr (c.glo 52) W.take (a_cons (e_tup (l_cons (e_ix (e_var 1 (pv 1)) e_int (fun _ _ => rfl)) (l_cons (e_ix (e_var 1 (pv 1)) e_int (fun _ _ => rfl)) (l_cons (e_varF 5 (pv 5) (W.pin 5 (by decide))) l_nil)))) a_nil))) (nomark _)) (e_one (e_cmp (od_eq hr.units) (e_frzo (o_fn D__law_refused B__law_refused hr (c.glo 53) W.take (a_cons (e_var 7 (pv 7)) a_nil))) (e_tup (l_cons (e_bin od_add e_int (e_var 2 (pv 2))) (l_cons (e_bin od_add e_int (e_var 3 (pv 3))) l_nil))) (nomark _))))))))))))
theorem sc_law : FnScope ["script", "number", "s", "g", "lines", "house", "handed", "turn", "found"] ["script"] (defScope sd_law) := ⟨rfl, rfl, rfl, by decide +kernel, rfl, by decide +kernel, by decide +kernel⟩
theorem ok_law (c : Cx K mg) : ∃ fd, Df P w K mg base a_law fd ["script"] [] d_law 10 ∧ Binds K fd ["script"] [] := by
  obtain ⟨fd, F⟩ := c.d.def_ 26 (d := a_law) rfl
  obtain ⟨fd__law_state, D__law_state, B__law_state⟩ := ok__law_state (P := P) (w := w) (base := base) c
  obtain ⟨fd__law_game, D__law_game, B__law_game⟩ := ok__law_game (P := P) (w := w) (base := base) c
  obtain ⟨fd__law_rows_of, D__law_rows_of, B__law_rows_of⟩ := ok__law_rows_of (P := P) (w := w) (base := base) c
  obtain ⟨fd_Game_init, D_Game_init, B_Game_init⟩ := ok_Game_init (P := P) (w := w) (base := base) c
  obtain ⟨fd_game_rows, D_game_rows, B_game_rows⟩ := ok_game_rows (P := P) (w := w) (base := base) c
  obtain ⟨fd_read_game, D_read_game, B_read_game⟩ := ok_read_game (P := P) (w := w) (base := base) c
  obtain ⟨fd_Game_eq, D_Game_eq, B_Game_eq⟩ := ok_Game_eq (P := P) (w := w) (base := base) c
  obtain ⟨fd__law_digit, D__law_digit, B__law_digit⟩ := ok__law_digit (P := P) (w := w) (base := base) c
  obtain ⟨fd__law_great_right, D__law_great_right, B__law_great_right⟩ := ok__law_great_right (P := P) (w := w) (base := base) c
  refine ⟨fd, ⟨F, fn_denD (k := 9) F sc_law (by decide) fun cdv A outer s H E j hr W => ?_, outLen_run⟩, F.bindsN fun _ _ _ _ _ _ us hl => match us, hl with | [_], _ => rfl⟩
  exact (ss_cons (s_for W.pass W.calm (i_src (e_slice (e_bin od_add (e_var 0 (pv 0)) (e_lst (l_cons e_int l_nil))) p_none (p_some e_int))) (g_name 1 W.nd (W.pin 1 (by decide))) (ss_cons (s_setO 2 W.nd (W.pin 2 (by decide)) (o_fn D__law_state B__law_state hr (c.glo 54) W.take (a_cons (e_var 1 (pv 1)) a_nil)))
    (ss_cons (s_set 3 W.nd (W.pin 3 (by decide)) (e_frzo (o_fn D__law_game B__law_game hr (c.glo 55) W.take (a_io 2 (pv 2) (a_cons e_int a_nil)))))
    (ss_cons (s_set 4 W.nd (W.pin 4 (by decide)) (e_frzo (o_fn D__law_rows_of B__law_rows_of hr (c.glo 52) W.take (a_cons (e_var 3 (pv 3)) a_nil))))
    (ss_cons (s_set 5 W.nd (W.pin 5 (by decide)) (e_frzo (o_make D_Game_init B_Game_init rfl (c.make 24 44) hr W.take (l_cons (e_ix (e_var 3 (pv 3)) e_int (fun _ _ => rfl)) (l_cons (e_ix (e_var 3 (pv 3)) e_int (fun _ _ => rfl)) (l_cons (e_ix (e_var 3 (pv 3)) e_int (fun _ _ => rfl)) l_nil))))))
    (ss_cons (s_if (t_cmp (od_ne hr.units) (e_frzo (o_fn D_game_rows B_game_rows hr (c.glo 51) W.take (a_cons (e_var 5 (pv 5)) a_nil))) (e_var 4 (pv 4)) (nomark _)) (ss_one (s_ret e_bl)) ss_nil)
    (ss_cons (s_appJ (o_fn D_game_rows B_game_rows hr (c.glo 51) W.take (a_cons (e_var 5 (pv 5)) a_nil)) pe_str)
    (ss_cons (s_setO 6 W.nd (W.pin 6 (by decide)) (o_list rfl (c.free 31) rfl (l_cons (e_var 4 (pv 4)) l_nil)))
    (ss_cons (s_for W.pass W.calm (i_range1 rfl (c.free 3) e_int) (g_name 7 W.nd (W.pin 7 (by decide))) (ss_cons (s_set 8 W.nd (W.pin 8 (by decide)) (e_lendN 6 (fun e1 hP1 => have W := W.ent hP1; (e_frzo (o_fn D_read_game B_read_game hr (c.glo 46) W.take (a_cons (e_var 6 (pv 6)) a_nil))))))
    (ss_one (s_if (t_pw (t_or (t_not (t_val (e_isG (c.meth 24 25 34) (exf c 7) rfl (c.free 45) (pe_glob (v := .ref (He.ga K "Game")) rfl (c.glo 24) rfl) (e_var 8 (pv 8))))) (t_or (t_cmp (od_neI D_Game_eq B_Game_eq rfl (c.meth 24 25 56) (exf c 9) rfl hr (by decide)) (e_var 8 (pv 8)) (e_var 5 (pv 5)) (nomark _)) (t_or (t_cmp (od_ne hr.units) (e_frzo (o_fn D_game_rows B_game_rows hr (c.glo 51) W.take (a_cons (e_var 8 (pv 8)) a_nil))) (e_var 4 (pv 4)) (nomark _)) (t_or1 (t_cmpL (od_ne hr.units) 6 (pv 6) (e_var 4 (pv 4)) (nomark _))))))) (ss_one (s_ret e_bl)) ss_nil))))
    (ss_cons (s_clrP 6 (pn_root 6 (pv 6)))
    (ss_cons (s_if (t_pw (t_or (t_cmp (od_ne hr.units) (e_frzo (o_fn D_game_rows B_game_rows hr (c.glo 51) W.take (a_cons (e_var 8 (pv 8)) a_nil))) (e_var 4 (pv 4)) (nomark _)) (t_or (t_cmp (od_ne hr.units) (e_frzo (o_fn D_game_rows B_game_rows hr (c.glo 51) W.take (a_cons (e_var 5 (pv 5)) a_nil))) (e_var 4 (pv 4)) (nomark _)) (t_or1 (t_cmp (od_neI D_Game_eq B_Game_eq rfl (c.meth 24 25 56) (exf c 9) rfl hr (by decide)) (e_frzo (o_fn D_read_game B_read_game hr (c.glo 46) W.take (a_cons (e_callT cd_tuple rfl (c.free 23) rfl (l_cons (e_var 4 (pv 4)) l_nil)) a_nil))) (e_var 5 (pv 5)) (nomark _)))))) (ss_one (s_ret e_bl)) ss_nil)
    (ss_one (s_if (t_pw (t_and (t_cmp (od_eq hr.units) (e_frzo (o_fn D__law_digit B__law_digit hr (c.glo 2) W.take (a_io 2 (pv 2) (a_cons e_int a_nil)))) e_int (nomark _)) (t_and1 (t_not (t_val (e_frzo (o_fn D__law_great_right B__law_great_right hr (c.glo 57) W.take (a_io 2 (pv 2) (a_cons (e_var 3 (pv 3)) a_nil))))))))) (ss_one (s_ret e_bl)) ss_nil)))))))))))))
    (ss_one (s_ret e_bl)))
end
end K04
namespace K04
open PySem PySem.Spec PyProof.Rows L2 DL
end K04
open PySem PySem.W PySem.Calls PyProof.Rows
theorem PySem.Challenge.cw_bestreply_k04_games_as_rows_holds : PySem.Challenge.rw_bestreply_k04_games_as_rows.Holds := by
  w_on; o_law
  refine HandSHeadRun.head_any (r := OpenLaw.row PySem.Challenge.rw_bestreply_k04_games_as_rows) (q := view (OpenLaw.row PySem.Challenge.rw_bestreply_k04_games_as_rows).prog [41]) (H := K04.hk) (ob := K04.ob) (M := 12000) (loose := K04.loose) (d := HandSHeadRun.topDef (OpenLaw.row PySem.Challenge.rw_bestreply_k04_games_as_rows).prog 41) (kwd := []) K04.ob_eq
    (by kernel_rfl) (fun s => by kernel_rfl) K04.run (by kernel_rfl) (by kernel_rfl) (by kernel_rfl) (by rfl) (by first | assumption | decide +kernel) (by decide +kernel) ⟨rfl, rfl, rfl, rfl, rfl, by decide +kernel⟩ ?hw ?hc
  case hw => w_witness2
  case hc =>
    exact DL.walk_end (l := PySem.Challenge.rw_bestreply_k04_games_as_rows) (k := 10) (i := 58) (a := K04.a_law) (g := K04.d_law) rfl (by kernel_rfl) ⟨rfl, by decide, by decide⟩ (by kernel_rfl) rfl rfl (fun _ _ _ _ _ _ us hl => match us, hl with | [_], _ => rfl) rfl (fun w base K mg c => let ⟨fd, D, _⟩ := K04.ok_law c; ⟨fd, D⟩) K04.law_eq

