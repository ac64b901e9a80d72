import PyProof.Rows.All
import Wide.All
import OpenK.AllK
import Wide.FinOn
import PySem.Challenge.RW_oj0029_01
section
open PySem PySem.W PySem.Calls PyProof.Rows
set_option Elab.async false
set_option linter.unusedVariables false
set_option maxRecDepth 1000000
set_option maxHeartbeats 0
namespace Mine
open PyData (keyHash)
noncomputable section
noncomputable section
abbrev pw : Program := PySem.Challenge.pw_oj0029_01
noncomputable def top (i : Nat) : Stmt := (pw.main.body[i]?).getD (.Pass ⟨0, 0, 0, 0⟩)
noncomputable abbrev aN : Arguments := ⟨[], [], none, [], [], none, []⟩
noncomputable abbrev sN : Arguments × List Stmt × Scope := (aN, [], ⟨.function, [], false, false, []⟩)
noncomputable def sX (s : Stmt) : Arguments × List Stmt × Scope := @Stmt.casesOn (fun _ => Arguments × List Stmt × Scope) s (fun _ a b _ _ _ c _ _ _ => (a, b, c)) (fun _ _ _ _ _ _ _ _ _ _ => sN) (fun _ _ _ b _ _ c _ _ _ _ => (aN, b, c)) (fun _ _ => sN) (fun _ _ => sN) (fun _ _ _ => sN) (fun _ _ _ _ _ _ _ => sN) (fun _ _ _ _ => sN) (fun _ _ _ _ _ => sN) (fun _ _ _ _ _ => sN) (fun _ _ _ _ _ => sN) (fun _ _ _ _ => sN) (fun _ _ _ _ => sN) (fun _ _ _ => sN) (fun _ _ _ => sN) (fun _ _ _ => sN) (fun _ _ _ => sN) (fun _ _ _ _ _ => sN) (fun _ _ _ _ _ => sN) (fun _ _ _ => sN) (fun _ _ => sN) (fun _ _ _ _ => sN) (fun _ _ => sN) (fun _ _ => sN) (fun _ _ => sN) (fun _ => sN) (fun _ => sN) (fun _ => sN)
noncomputable def mth (i j : Nat) : Stmt := ((sX (top i)).2.1[j]?).getD (.Pass ⟨0, 0, 0, 0⟩)
noncomputable def sA (s : Stmt) : Arguments := (sX s).1
noncomputable def sB (s : Stmt) : List Stmt := (sX s).2.1
noncomputable def sS (s : Stmt) : Scope := (sX s).2.2
noncomputable abbrev tu (a : Array Value) : Obj := .mk (.type "tuple") none (.seq a 0) #[]
noncomputable abbrev nn : Obj := .mk .none none (.fields #[]) #[]
noncomputable abbrev di (a : Array DictEntry) (n : Nat) : Obj := .mk (.type "dict") none (.dict a n) #[]
noncomputable abbrev en (P : Params) (k : Str) (t : Tok) (v : Value) : DictEntry := .mk (PyData.keyHash P k) (.str k t) v
noncomputable abbrev co (a : Str) (x : Tok) (b : Str) (y z : Tok) (l k m : Int) (r : Addr) (o : Bool) (i : Int) (r1 r2 r3 r4 : Addr) (t l2 : Int) (u : Tok) : Obj := .mk (.type "code") none (.fields #[.str a x, .str b y, .str "/claim/cut.py" z, .int l 0, .int k 0, .int 0 0, .int 0 0, .int m 0, .ref r, .bool o, .int i 0, .ref r1, .none, .ref r2, .ref r3, .ref r4, .int t 0, .int l2 0, .str "/claim/cut.py" u]) #[]
noncomputable abbrev fa (a b : Str) (s : Stmt) : Obj := .mk .none none (.func (.mk a b (sA s) (.stmts (sB s)) (sS s) 0 [] .none .none .none .none none .none .none 0)) #[]
noncomputable abbrev fb (a b : Str) (s : Stmt) (m : Str) (t : Tok) (r : Addr) : Obj := .mk (.type "function") none (.func (.mk a b (sA s) (.stmts (sB s)) (sS s) 3 [] .none .none .none (.str m t) none (.ref r) .none 0)) #[]
def sa11 (P : Params) : Obj := (tu #[])
def sa12 (P : Params) : Obj := nn
noncomputable def sa13 (P : Params) : Obj := (Obj.mk (.type "code") none (.fields #[.str "<module>" 182, .str "<module>" 183, .str "/claim/cut.py" 184, .int 1 0, .int 0 0, .int 0 0, .int 0 0, .int 0 0, .ref 11, .bool false, .int 181 0, .ref 12, .none, .none, .none, .none, .int 185 0, .int 1 0, .str "/claim/cut.py" 186]) #[])
noncomputable def sa14 (P : Params) : Obj := (Obj.mk (.type "frame") none .plain #[(some (.ref 13)), (some (.ref 3)), (some (.ref 3)), none, (some (.str "__main__" 164)), none, (some (.ref 0))])
noncomputable def Sa (P : Params) : Heap := { objs := #[(boot_o_0 P), (boot_o_1 P), (boot_o_2 P), (boot_o_3 P), (boot_o_4 P), (boot_o_5 P), (boot_o_6 P), (boot_o_7 P), (boot_o_8 P), (boot_o_9 P), (boot_o_10 P), (sa11 P), (sa12 P), (sa13 P), (sa14 P)] }
noncomputable def T0 (P : Params) : BT := (.node (boot_o_0 P) (.node (boot_o_1 P) (.node (boot_o_3 P) (.node (boot_o_7 P) .nil .nil) (.node (sa11 P) .nil .nil)) (.node (boot_o_5 P) (.node (boot_o_9 P) .nil .nil) (.node (sa13 P) .nil .nil))) (.node (boot_o_2 P) (.node (boot_o_4 P) (.node (boot_o_8 P) .nil .nil) (.node (sa12 P) .nil .nil)) (.node (boot_o_6 P) (.node (boot_o_10 P) .nil .nil) (.node (sa14 P) .nil .nil))))
def o2 (P : Params) : Obj := .mk .none none (.dict #[(en P "type.__subclasses__.Exception.0" 332 (.int 98 0)), (en P "type.__subclasses__.Exception.n" 333 (.int 1 0))] 2) #[]
def o22 (P : Params) : Obj := (tu #[.str "car" 196, .int 1 197])
def o23 (P : Params) : Obj := (tu #[.str "cdr" 198, .int 1 199])
def o24 (P : Params) : Obj := (tu #[.str "cons" 200, .int 2 201])
def o25 (P : Params) : Obj := (tu #[.str "nth" 202, .int 2 203])
def o26 (P : Params) : Obj := (tu #[.str "nthcdr" 204, .int 2 205])
def o27 (P : Params) : Obj := (tu #[.str "eq" 206, .int 2 207])
def o28 (P : Params) : Obj := (tu #[.str "equal" 208, .int 2 209])
def o29 (P : Params) : Obj := (tu #[.str "not" 210, .int 1 211])
def o30 (P : Params) : Obj := (tu #[.str "null" 212, .int 1 213])
def o31 (P : Params) : Obj := (tu #[.str "consp" 214, .int 1 215])
def o32 (P : Params) : Obj := (tu #[.str "symbolp" 216, .int 1 217])
def o33 (P : Params) : Obj := (tu #[.str "integerp" 218, .int 1 219])
def o34 (P : Params) : Obj := (tu #[.str "stringp" 220, .int 1 221])
def o35 (P : Params) : Obj := (tu #[.str "listp" 222, .int 1 223])
def o36 (P : Params) : Obj := (tu #[.str "length" 224, .int 1 225])
def o37 (P : Params) : Obj := (tu #[.str "memq" 226, .int 2 227])
def o38 (P : Params) : Obj := (tu #[.str "assq" 228, .int 2 229])
def o39 (P : Params) : Obj := (tu #[.str "nreverse" 230, .int 1 231])
def o40 (P : Params) : Obj := (tu #[.str "setcar" 232, .int 2 233])
def o41 (P : Params) : Obj := (tu #[.str "setcdr" 234, .int 2 235])
def o42 (P : Params) : Obj := (tu #[.str "+" 236, .int 2 237])
def o43 (P : Params) : Obj := (tu #[.str "-" 238, .int 2 239])
def o44 (P : Params) : Obj := (tu #[.str "*" 240, .int 2 241])
def o45 (P : Params) : Obj := (tu #[.str "1+" 242, .int 1 243])
def o46 (P : Params) : Obj := (tu #[.str "1-" 244, .int 1 245])
def o47 (P : Params) : Obj := (tu #[.str "=" 246, .int 2 247])
def o48 (P : Params) : Obj := (tu #[.str "<" 248, .int 2 249])
def o49 (P : Params) : Obj := (tu #[.str ">" 250, .int 2 251])
def o50 (P : Params) : Obj := (tu #[.str "<=" 252, .int 2 253])
def o51 (P : Params) : Obj := (tu #[.str ">=" 254, .int 2 255])
def o52 (P : Params) : Obj := (tu #[.str "max" 256, .int 2 257])
def o53 (P : Params) : Obj := (tu #[.str "min" 258, .int 2 259])
def o54 (P : Params) : Obj := (tu #[.str "aref" 260, .int 2 261])
def o55 (P : Params) : Obj := (tu #[.str "aset" 262, .int 3 263])
def o56 (P : Params) : Obj := (tu #[.str "list" 264, .int 1 265])
def o57 (P : Params) : Obj := (tu #[.str "list" 266, .int 2 267])
def o58 (P : Params) : Obj := (tu #[.str "list" 268, .int 3 269])
def o59 (P : Params) : Obj := (tu #[.str "concat" 270, .int 2 271])
def o60 (P : Params) : Obj := (tu #[.str "substring" 272, .int 3 273])
def o61 (P : Params) : Obj := (tu #[.str "symbol-value" 274, .int 1 275])
def o62 (P : Params) : Obj := (tu #[.str "set" 276, .int 2 277])
def o63 (P : Params) : Obj := (tu #[.str "point" 278, .int 0 279])
def o64 (P : Params) : Obj := (tu #[.str "goto-char" 280, .int 1 281])
def o65 (P : Params) : Obj := (tu #[.str "insert" 282, .int 1 283])
def o66 (P : Params) : Obj := (tu #[.str "char-after" 284, .int 1 285])
def o67 (P : Params) : Obj := (tu #[.ref 22, .ref 23, .ref 24, .ref 25, .ref 26, .ref 27, .ref 28, .ref 29, .ref 30, .ref 31, .ref 32, .ref 33, .ref 34, .ref 35, .ref 36, .ref 37, .ref 38, .ref 39, .ref 40, .ref 41, .ref 42, .ref 43, .ref 44, .ref 45, .ref 46, .ref 47, .ref 48, .ref 49, .ref 50, .ref 51, .ref 52, .ref 53, .ref 54, .ref 55, .ref 56, .ref 57, .ref 58, .ref 59, .ref 60, .ref 61, .ref 62, .ref 63, .ref 64, .ref 65, .ref 66])
def o95 (P : Params) : Obj := (fb "__init__" "LispSignal.__init__" (mth 6 0) "emacs.errors" 303 94)
def o97 (P : Params) : Obj := (di #[(en P "__module__" 312 (.str "emacs.errors" 303)), (en P "__firstlineno__" 316 (.int 14 315)), (en P "__init__" 325 (.ref 95)), (en P "__static_attributes__" 328 (.ref 96)), (en P "__weakref__" 330 (.ref 99)), (en P "__doc__" 331 .none)] 3)
noncomputable def o98 (P : Params) : Obj := (Obj.mk (.type "type") none (.cls (ClassData.mk "LispSignal" [(.type "Exception")] [(.ref 98), .type "Exception", .type "BaseException", .type "object"] 97 "LispSignal" true [] [] false none false)) #[(some (.ref 82)), none, (some (.str "LispSignal" 305)), (some (.str "LispSignal" 313)), (some (.builtin "Exception.__new__")), (some (.bool true))])
def o123 (P : Params) : Obj := (di #[(en P "number" 375 (.int 0 369)), (en P "name" 377 (.str "nil" 370))] 2)
noncomputable def o124 (P : Params) : Obj := (Obj.mk (.ref 118) (some 123) .plain #[])
def o126 (P : Params) : Obj := (di #[(en P "number" 385 (.int 1 379)), (en P "name" 387 (.str "t" 380))] 2)
noncomputable def o127 (P : Params) : Obj := (Obj.mk (.ref 118) (some 126) .plain #[])
noncomputable def T1 (P : Params) : BT := (.node (boot_o_0 P) (.node (boot_o_1 P) (.node (di #[(en P "__name__" (nat_lit 165) (.str "law_oj0029_01" (nat_lit 1198))), (en P "__doc__" (nat_lit 166) .none), (en P "__package__" (nat_lit 167) .none), (en P "__loader__" (nat_lit 168) (.builtin "__main__.__loader__#opaque")), (en P "__spec__" (nat_lit 169) .none), (en P "__annotations__" (nat_lit 170) (.ref 6)), (en P "__builtins__" (nat_lit 171) (.ref 4)), (en P "__file__" (nat_lit 173) (.str "/claim/cut.py" (nat_lit 172))), (en P "__cached__" (nat_lit 174) .none), (en P "_wall" (nat_lit 193) (.ref 21)), (en P "PLAIN_FUNCTIONS" (nat_lit 286) (.ref 67)), (en P "plain_index" (nat_lit 296) (.ref 74)), (en P "pure_names" (nat_lit 302) (.ref 81)), (en P "LispSignal" (nat_lit 335) (.ref 98)), (en P "Symbol" (nat_lit 368) (.ref 118)), (en P "NIL" (nat_lit 378) (.ref 124)), (en P "T" (nat_lit 388) (.ref 127)), (en P "Cons" (nat_lit 419) (.ref 145)), (en P "Subr" (nat_lit 456) (.ref 166)), (en P "Opaque" (nat_lit 498) (.ref 201)), (en P "is_whole" (nat_lit 505) (.ref 212)), (en P "boolean" (nat_lit 512) (.ref 219)), (en P "is_atom" (nat_lit 521) (.ref 226)), (en P "constants_behind" (nat_lit 527) (.ref 231)), (en P "told_value" (nat_lit 538) (.ref 238)), (en P "folded" (nat_lit 555) (.ref 245)), (en P "Constants" (nat_lit 603) (.ref 276)), (en P "Marker" (nat_lit 656) (.ref 318)), (en P "WIDTH" (nat_lit 660) (.int 65536 (nat_lit 659))), (en P "number_of" (nat_lit 667) (.ref 327)), (en P "fitting" (nat_lit 674) (.ref 334)), (en P "plus" (nat_lit 684) (.ref 341)), (en P "minus" (nat_lit 694) (.ref 348)), (en P "times" (nat_lit 704) (.ref 355)), (en P "one_more" (nat_lit 712) (.ref 362)), (en P "one_less" (nat_lit 720) (.ref 369)), (en P "are_chained" (nat_lit 726) (.ref 374)), (en P "less" (nat_lit 734) (.ref 381)), (en P "at_most" (nat_lit 742) (.ref 388)), (en P "alike" (nat_lit 750) (.ref 395)), (en P "greatest" (nat_lit 756) (.ref 400)), (en P "least_of" (nat_lit 762) (.ref 405)), (en P "is_number" (nat_lit 770) (.ref 412)), (en P "MOST_PARTS" (nat_lit 774) (.int 100000 (nat_lit 773))), (en P "Cells" (nat_lit 885) (.ref 492)), (en P "Obarray" (nat_lit 980) (.ref 569)), (en P "Variables" (nat_lit 1063) (.ref 632)), (en P "Locals" (nat_lit 1131) (.ref 688)), (en P "World" (nat_lit 1197) (.ref 737)), (en P "_law_pot" (nat_lit 1205) (.ref 746)), (en P "_law_dip" (nat_lit 1214) (.ref 753)), (en P "_law_world" (nat_lit 1224) (.ref 760)), (en P "_law_lines" (nat_lit 1238) (.ref 767)), (en P "_law_two" (nat_lit 1247) (.ref 774)), (en P "_law_called" (nat_lit 1253) (.ref 779)), (en P "_law_run" (nat_lit 1259) (.ref 784)), (en P "_law_is_left" (nat_lit 1265) (.ref 789)), (en P "law" (nat_lit 1278) (.ref 796))] 58) (.node (boot_o_7 P) (.node (tu #[]) (.node (o31 P) (.node (o63 P) (.node (o127 P) (.node (tu #[.str "self" (nat_lit 573)]) (.node (tu #[]) .nil .nil) (.node (fb "_law_lines" "_law_lines" (top 55) "law_oj0029_01" (nat_lit 1198) 766) .nil .nil)) (.node nn (.node (di #[(en P "__module__" (nat_lit 1071) (.str "emacs.variables" (nat_lit 981))), (en P "__qualname__" (nat_lit 1073) (.str "Locals" (nat_lit 1072))), (en P "__firstlineno__" (nat_lit 1075) (.int 286 (nat_lit 1074))), (en P "__init__" (nat_lit 1082) (.ref 650)), (en P "is_local" (nat_lit 1090) (.ref 657)), (en P "names" (nat_lit 1097) (.ref 664)), (en P "make_local" (nat_lit 1106) (.ref 671)), (en P "kill" (nat_lit 1114) (.ref 678)), (en P "kill_all" (nat_lit 1122) (.ref 685)), (en P "__static_attributes__" (nat_lit 1124) (.ref 686))] 10) .nil .nil) .nil)) (.node (fb "kind" "Opaque.kind" (mth 13 1) "emacs.objects" (nat_lit 336) 190) (.node (Obj.mk (.type "super") none (.fields #[.ref (nat_lit 318), .ref (nat_lit 318), .ref (nat_lit 318)]) #[]) (.node (Obj.mk (.type "builtin_function_or_method") none (.fields #[.builtin "type.__prepare__", .type "type"]) #[]) .nil .nil) .nil) (.node (fb "set_function" "Cells.set_function" (mth 43 3) "emacs.cells" (nat_lit 771) 446) (.node (tu #[]) .nil .nil) .nil))) (.node (o95 P) (.node (tu #[.str "self" (nat_lit 435), .str "number" (nat_lit 436), .str "name" (nat_lit 437), .str "least" (nat_lit 438), .str "most" (nat_lit 439), .str "deed" (nat_lit 440)]) (.node (Obj.mk (.type "frame") none .plain #[(some (.ref (nat_lit 286))), (some (.ref (nat_lit 3))), (some (.ref (nat_lit 283))), none, (some (.str "emacs.markers" (nat_lit 604))), none, (some (.ref (nat_lit 0)))]) (.node (fa "is_interned" "Obarray.is_interned" (mth 45 5)) .nil .nil) .nil) (.node (di #[(en P "__module__" (nat_lit 782) (.str "emacs.cells" (nat_lit 771))), (en P "__qualname__" (nat_lit 784) (.str "Cells" (nat_lit 783))), (en P "__firstlineno__" (nat_lit 786) (.int 176 (nat_lit 785))), (en P "__init__" (nat_lit 793) (.ref 426)), (en P "function_of" (nat_lit 801) (.ref 433)), (en P "is_defined" (nat_lit 809) (.ref 440)), (en P "set_function" (nat_lit 819) (.ref 447)), (en P "indirect_function" (nat_lit 827) (.ref 454)), (en P "plist_of" (nat_lit 835) (.ref 461)), (en P "set_plist" (nat_lit 844) (.ref 468)), (en P "place_of" (nat_lit 855) (.ref 475)), (en P "get" (nat_lit 865) (.ref 482)), (en P "put" (nat_lit 875) (.ref 489)), (en P "__static_attributes__" (nat_lit 878) (.ref 490))] 14) (.node (fb "make_local" "Locals.make_local" (mth 48 3) "emacs.variables" (nat_lit 981) 670) .nil .nil) .nil)) (.node (tu #[]) (.node (tu #[.str "world" (nat_lit 698), .str "args" (nat_lit 699), .str "found" (nat_lit 700), .str "value" (nat_lit 701)]) (.node (co "make_automatic" (nat_lit 1019) "Variables.make_automatic" (nat_lit 1020) (nat_lit 1021) 275 3 3 (nat_lit 602) true 181 (nat_lit 603) (nat_lit 604) (nat_lit 605) (nat_lit 606) 1025 275 (nat_lit 1026)) .nil .nil) .nil) (.node (tu #[]) (.node (tu #[.str "bare" (nat_lit 1183), .str "cells" (nat_lit 1184), .str "current" (nat_lit 1185), .str "last_marker" (nat_lit 1186), .str "machine" (nat_lit 1187), .str "obarray" (nat_lit 1188), .str "variables" (nat_lit 1189)]) .nil .nil) .nil)))) (.node (o47 P) (.node (fa "pure_names" "pure_names" (top 4)) (.node (tu #[.str "car" (nat_lit 410), .str "cdr" (nat_lit 411)]) (.node (fa "is_nil" "Constants.is_nil" (mth 22 2)) (.node (tu #[.str "self" (nat_lit 927), .str "name" (nat_lit 928), .str "found" (nat_lit 929)]) .nil .nil) (.node (Obj.mk (.type "code") none (.fields #[.str "_law_run" (nat_lit 1254), .str "_law_run" (nat_lit 1255), .str "/claim/cut.py" (nat_lit 1256), .int 383 (nat_lit 0), .int 2 (nat_lit 0), .int 0 (nat_lit 0), .int 0 (nat_lit 0), .int 3 (nat_lit 0), .ref (nat_lit 780), .bool true, .int 181 (nat_lit 0), .ref (nat_lit 781), .none, .none, .none, .ref (nat_lit 782), .int 1257 (nat_lit 0), .int 383 (nat_lit 0), .str "/claim/cut.py" (nat_lit 1258)]) #[]) .nil .nil)) (.node (Obj.mk (.type "code") none (.fields #[.str "greatest" (nat_lit 751), .str "greatest" (nat_lit 752), .str "/claim/cut.py" (nat_lit 753), .int 168 (nat_lit 0), .int 2 (nat_lit 0), .int 0 (nat_lit 0), .int 0 (nat_lit 0), .int 3 (nat_lit 0), .ref (nat_lit 396), .bool true, .int 181 (nat_lit 0), .ref (nat_lit 397), .none, .none, .none, .ref (nat_lit 398), .int 754 (nat_lit 0), .int 168 (nat_lit 0), .str "/claim/cut.py" (nat_lit 755)]) #[]) (.node (fa "is_local" "Locals.is_local" (mth 48 1)) .nil .nil) .nil)) (.node nn (.node (tu #[]) (.node (tu #[]) .nil .nil) .nil) (.node nn (.node (co "own" (nat_lit 1161) "World.own" (nat_lit 1162) (nat_lit 1163) 320 1 3 (nat_lit 714) true 181 (nat_lit 715) (nat_lit 716) (nat_lit 717) (nat_lit 718) 1165 320 (nat_lit 1166)) .nil .nil) .nil))) (.node (tu #[.str "self" (nat_lit 353), .str "number" (nat_lit 354), .str "name" (nat_lit 355)]) (.node (Obj.mk .none none (.fields #[.int 42 (nat_lit 0), .int 4 (nat_lit 0), .ref (nat_lit 183), .int 45 (nat_lit 0), .int 4 (nat_lit 0), .ref (nat_lit 190), .int 48 (nat_lit 0), .int 4 (nat_lit 0), .ref (nat_lit 197)]) #[]) (.node nn (.node (fb "all_names" "Obarray.all_names" (mth 45 7) "emacs.obarray" (nat_lit 886) 558) .nil .nil) .nil) (.node (fa "function_of" "Cells.function_of" (mth 43 1)) (.node (di #[(en P "__module__" (nat_lit 1071) (.str "emacs.variables" (nat_lit 981))), (en P "__firstlineno__" (nat_lit 1075) (.int 286 (nat_lit 1074))), (en P "__init__" (nat_lit 1082) (.ref 650)), (en P "is_local" (nat_lit 1090) (.ref 657)), (en P "names" (nat_lit 1097) (.ref 664)), (en P "make_local" (nat_lit 1106) (.ref 671)), (en P "kill" (nat_lit 1114) (.ref 678)), (en P "kill_all" (nat_lit 1122) (.ref 685)), (en P "__static_attributes__" (nat_lit 1124) (.ref 686)), (en P "__dict__" (nat_lit 1126) (.ref 689)), (en P "__weakref__" (nat_lit 1128) (.ref 690)), (en P "__doc__" (nat_lit 1129) .none)] 4) .nil .nil) .nil)) (.node (tu #[]) (.node (fa "one_less" "one_less" (top 33)) (.node (tu #[]) .nil .nil) .nil) (.node (Obj.mk (.type "super") none (.fields #[.ref (nat_lit 492), .ref (nat_lit 492), .ref (nat_lit 492)]) #[]) (.node (fa "_law_dip" "_law_dip" (top 53)) .nil .nil) .nil))))) (.node (o23 P) (.node (o39 P) (.node (tu #[]) (.node (Obj.mk (.type "frame") none .plain #[(some (.ref (nat_lit 134))), (some (.ref (nat_lit 3))), (some (.ref (nat_lit 131))), none, (some (.str "emacs.objects" (nat_lit 336))), none, (some (.ref (nat_lit 0)))]) (.node (tu #[]) (.node nn .nil .nil) (.node (tu #[]) .nil .nil)) (.node (tu #[.str "world" (nat_lit 746), .str "args" (nat_lit 747)]) (.node (tu #[]) .nil .nil) .nil)) (.node (tu #[]) (.node (fb "number_of" "number_of" (top 27) "emacs.numprims" (nat_lit 657) 326) (.node (tu #[.str "self" (nat_lit 998)]) .nil .nil) .nil) (.node (tu #[]) (.node (fa "symbol" "World.symbol" (mth 50 1)) .nil .nil) .nil))) (.node (Obj.mk (.type "builtin_function_or_method") none (.fields #[.builtin "type.__prepare__", .type "type"]) #[]) (.node (Obj.mk (.type "getset_descriptor") none (.fields #[.str "__dict__" (nat_lit 450), .ref (nat_lit 166), .builtin "function.__dict__", .builtin "function.__dict__#set"]) #[]) (.node (tu #[]) (.node (co "unintern" (nat_lit 949) "Obarray.unintern" (nat_lit 950) (nat_lit 951) 253 2 3 (nat_lit 546) true 181 (nat_lit 547) (nat_lit 548) (nat_lit 549) (nat_lit 550) 954 253 (nat_lit 955)) .nil .nil) .nil) (.node (tu #[]) (.node (tu #[]) .nil .nil) .nil)) (.node (fb "constants_behind" "constants_behind" (top 18) "emacs.bytefold" (nat_lit 513) 230) (.node (tu #[]) (.node (fb "make_permanent" "Variables.make_permanent" (mth 47 4) "emacs.variables" (nat_lit 981) 614) .nil .nil) .nil) (.node (fa "put" "Cells.put" (mth 43 9)) (.node nn .nil .nil) .nil)))) (.node (o55 P) (.node (Obj.mk (.type "code") none (.fields #[.str "LispSignal" (nat_lit 307), .str "LispSignal" (nat_lit 308), .str "/claim/cut.py" (nat_lit 309), .int 14 (nat_lit 0), .int 0 (nat_lit 0), .int 0 (nat_lit 0), .int 0 (nat_lit 0), .int 0 (nat_lit 0), .ref (nat_lit 85), .bool false, .int 181 (nat_lit 0), .ref (nat_lit 86), .none, .none, .none, .none, .int 310 (nat_lit 0), .int 14 (nat_lit 0), .str "/claim/cut.py" (nat_lit 311)]) #[]) (.node (Obj.mk (.type "builtin_function_or_method") none (.fields #[.builtin "type.__prepare__", .type "type"]) #[]) (.node (Obj.mk (.type "super") none (.fields #[.ref (nat_lit 276), .ref (nat_lit 276), .ref (nat_lit 276)]) #[]) (.node (tu #[]) .nil .nil) (.node nn .nil .nil)) (.node nn (.node (co "names" (nat_lit 1091) "Locals.names" (nat_lit 1092) (nat_lit 1093) 294 1 3 (nat_lit 658) true 181 (nat_lit 659) (nat_lit 660) (nat_lit 661) (nat_lit 662) 1095 294 (nat_lit 1096)) .nil .nil) .nil)) (.node (tu #[.str "flag" (nat_lit 509)]) (.node nn (.node (fa "set_default" "Variables.set_default" (mth 47 2)) .nil .nil) .nil) (.node (tu #[.str "self" (nat_lit 848), .str "symbol" (nat_lit 849), .str "name" (nat_lit 850), .str "at" (nat_lit 851), .str "steps" (nat_lit 852)]) (.node (fb "fresh_marker" "World.fresh_marker" (mth 50 3) "emacs.world" (nat_lit 1132) 726) .nil .nil) .nil))) (.node (Obj.mk (.type "getset_descriptor") none (.fields #[.str "__dict__" (nat_lit 362), .ref (nat_lit 118), .builtin "function.__dict__", .builtin "function.__dict__#set"]) #[]) (.node (co "shown" (nat_lit 469) "Opaque.shown" (nat_lit 470) (nat_lit 471) 42 1 3 (nat_lit 178) true 181 (nat_lit 179) (nat_lit 180) (nat_lit 181) (nat_lit 182) 473 42 (nat_lit 474)) (.node (tu #[.str "self" (nat_lit 644), .str "other" (nat_lit 645)]) (.node (tu #[.str "names" (nat_lit 971), .str "rows" (nat_lit 972)]) .nil .nil) .nil) (.node (co "is_defined" (nat_lit 802) "Cells.is_defined" (nat_lit 803) (nat_lit 804) 185 2 3 (nat_lit 434) true 181 (nat_lit 435) (nat_lit 436) (nat_lit 437) (nat_lit 438) 807 185 (nat_lit 808)) (.node (di #[(en P "__module__" (nat_lit 1141) (.str "emacs.world" (nat_lit 1132))), (en P "__qualname__" (nat_lit 1143) (.str "World" (nat_lit 1142))), (en P "__firstlineno__" (nat_lit 1145) (.int 306 (nat_lit 1144))), (en P "__init__" (nat_lit 1152) (.ref 706)), (en P "symbol" (nat_lit 1160) (.ref 713)), (en P "own" (nat_lit 1167) (.ref 720)), (en P "fresh_marker" (nat_lit 1174) (.ref 727)), (en P "put_functions" (nat_lit 1182) (.ref 734)), (en P "__static_attributes__" (nat_lit 1190) (.ref 735))] 9) .nil .nil) .nil)) (.node (Obj.mk (.type "builtin_function_or_method") none (.fields #[.builtin "type.__prepare__", .type "type"]) #[]) (.node (tu #[]) (.node (di #[(en P "__module__" (nat_lit 990) (.str "emacs.variables" (nat_lit 981))), (en P "__firstlineno__" (nat_lit 994) (.int 262 (nat_lit 993))), (en P "__init__" (nat_lit 1001) (.ref 587)), (en P "default_value" (nat_lit 1009) (.ref 594)), (en P "set_default" (nat_lit 1018) (.ref 601)), (en P "make_automatic" (nat_lit 1027) (.ref 608)), (en P "make_permanent" (nat_lit 1036) (.ref 615)), (en P "is_automatic" (nat_lit 1044) (.ref 622)), (en P "is_permanent" (nat_lit 1052) (.ref 629)), (en P "__static_attributes__" (nat_lit 1056) (.ref 630)), (en P "__dict__" (nat_lit 1058) (.ref 633)), (en P "__weakref__" (nat_lit 1060) (.ref 634)), (en P "__doc__" (nat_lit 1061) .none)] 4) .nil .nil) .nil) (.node (Obj.mk (.type "frame") none .plain #[(some (.ref (nat_lit 502))), (some (.ref (nat_lit 3))), (some (.ref (nat_lit 499))), none, (some (.str "emacs.obarray" (nat_lit 886))), none, (some (.ref (nat_lit 0)))]) (.node (co "_law_world" (nat_lit 1215) "_law_world" (nat_lit 1216) (nat_lit 1217) 341 0 3 (nat_lit 754) true 181 (nat_lit 755) (nat_lit 756) (nat_lit 757) (nat_lit 758) 1222 341 (nat_lit 1223)) .nil .nil) .nil)))))) (.node (sa11 P) (.node (fa "_wall" "_wall" (top 0)) (.node (o35 P) (.node (o67 P) (.node (di #[(en P "__module__" (nat_lit 396) (.str "emacs.objects" (nat_lit 336))), (en P "__qualname__" (nat_lit 398) (.str "Cons" (nat_lit 397))), (en P "__firstlineno__" (nat_lit 400) (.int 27 (nat_lit 399))), (en P "__init__" (nat_lit 409) (.ref 142)), (en P "__static_attributes__" (nat_lit 412) (.ref 143))] 5) (.node (fb "__init__" "Constants.__init__" (mth 22 0) "emacs.byteunit" (nat_lit 556) 258) (.node (fa "intern" "Obarray.intern" (mth 45 1)) .nil .nil) (.node (tu #[]) .nil .nil)) (.node (co "at_most" (nat_lit 735) "at_most" (nat_lit 736) (nat_lit 737) 164 2 3 (nat_lit 382) true 181 (nat_lit 383) (nat_lit 384) (nat_lit 385) (nat_lit 386) 740 164 (nat_lit 741)) (.node (Obj.mk (.type "frame") none .plain #[(some (.ref (nat_lit 642))), (some (.ref (nat_lit 3))), (some (.ref (nat_lit 639))), none, (some (.str "emacs.variables" (nat_lit 981))), none, (some (.ref (nat_lit 0)))]) .nil .nil) .nil)) (.node (tu #[]) (.node (tu #[.str "value" (nat_lit 664)]) (.node (Obj.mk (.type "code") none (.fields #[.str "Variables" (nat_lit 985), .str "Variables" (nat_lit 986), .str "/claim/cut.py" (nat_lit 987), .int 262 (nat_lit 0), .int 0 (nat_lit 0), .int 0 (nat_lit 0), .int 0 (nat_lit 0), .int 0 (nat_lit 0), .ref (nat_lit 577), .bool false, .int 181 (nat_lit 0), .ref (nat_lit 578), .none, .none, .none, .none, .int 988 (nat_lit 0), .int 262 (nat_lit 0), .str "/claim/cut.py" (nat_lit 989)]) #[]) .nil .nil) .nil) (.node (tu #[]) (.node (tu #[]) .nil .nil) .nil))) (.node (Obj.mk (.type "getset_descriptor") none (.fields #[.str "__weakref__" (nat_lit 329), .ref (nat_lit 98), .builtin "ExceptionGroup.__weakref__", .none]) #[]) (.node (fb "__init__" "Subr.__init__" (mth 12 0) "emacs.objects" (nat_lit 336) 162) (.node (tu #[]) (.node nn .nil .nil) .nil) (.node (Obj.mk (.type "frame") none .plain #[(some (.ref (nat_lit 418))), (some (.ref (nat_lit 3))), (some (.ref (nat_lit 415))), none, (some (.str "emacs.cells" (nat_lit 771))), none, (some (.ref (nat_lit 0)))]) (.node (tu #[]) .nil .nil) .nil)) (.node (tu #[]) (.node (fb "times" "times" (top 31) "emacs.numprims" (nat_lit 657) 354) (.node (tu #[.str "self" (nat_lit 1031), .str "symbol" (nat_lit 1032), .str "flag" (nat_lit 1033)]) .nil .nil) .nil) (.node (tu #[]) (.node (Obj.mk (.type "getset_descriptor") none (.fields #[.str "__weakref__" (nat_lit 1193), .ref (nat_lit 737), .builtin "ExceptionGroup.__weakref__", .none]) #[]) .nil .nil) .nil)))) (.node (o51 P) (.node (Obj.mk (.type "builtin_function_or_method") none (.fields #[.builtin "type.__prepare__", .type "type"]) #[]) (.node (Obj.mk (.type "getset_descriptor") none (.fields #[.str "__weakref__" (nat_lit 415), .ref (nat_lit 145), .builtin "ExceptionGroup.__weakref__", .none]) #[]) (.node (di #[(en P "__module__" (nat_lit 565) (.str "emacs.byteunit" (nat_lit 556))), (en P "__firstlineno__" (nat_lit 569) (.int 88 (nat_lit 568))), (en P "__init__" (nat_lit 576) (.ref 259)), (en P "index_of" (nat_lit 586) (.ref 266)), (en P "is_nil" (nat_lit 594) (.ref 273)), (en P "__static_attributes__" (nat_lit 596) (.ref 274)), (en P "__dict__" (nat_lit 598) (.ref 277)), (en P "__weakref__" (nat_lit 600) (.ref 278)), (en P "__doc__" (nat_lit 601) .none)] 4) (.node (fb "fresh" "Obarray.fresh" (mth 45 3) "emacs.obarray" (nat_lit 886) 530) .nil .nil) (.node (fa "_law_is_left" "_law_is_left" (top 59)) .nil .nil)) (.node (fa "least_of" "least_of" (top 39)) (.node nn .nil .nil) .nil)) (.node (co "is_whole" (nat_lit 499) "is_whole" (nat_lit 500) (nat_lit 501) 50 1 3 (nat_lit 206) true 181 (nat_lit 207) (nat_lit 208) (nat_lit 209) (nat_lit 210) 503 50 (nat_lit 504)) (.node (fa "plus" "plus" (top 29)) (.node (tu #[]) .nil .nil) .nil) (.node (co "set_plist" (nat_lit 836) "Cells.set_plist" (nat_lit 837) (nat_lit 838) 204 3 3 (nat_lit 462) true 181 (nat_lit 463) (nat_lit 464) (nat_lit 465) (nat_lit 466) 842 204 (nat_lit 843)) (.node (tu #[.str "self" (nat_lit 1171)]) .nil .nil) .nil))) (.node (fb "__init__" "Symbol.__init__" (mth 8 0) "emacs.objects" (nat_lit 336) 114) (.node nn (.node (co "kind" (nat_lit 634) "Marker.kind" (nat_lit 635) (nat_lit 636) 114 1 3 (nat_lit 302) true 181 (nat_lit 303) (nat_lit 304) (nat_lit 305) (nat_lit 306) 638 114 (nat_lit 639)) (.node (tu #[]) .nil .nil) .nil) (.node nn (.node (Obj.mk (.type "super") none (.fields #[.ref (nat_lit 688), .ref (nat_lit 688), .ref (nat_lit 688)]) #[]) .nil .nil) .nil)) (.node (fa "folded" "folded" (top 20)) (.node nn (.node (fa "is_permanent" "Variables.is_permanent" (mth 47 6)) .nil .nil) .nil) (.node (di #[(en P "__module__" (nat_lit 895) (.str "emacs.obarray" (nat_lit 886))), (en P "__qualname__" (nat_lit 897) (.str "Obarray" (nat_lit 896))), (en P "__firstlineno__" (nat_lit 899) (.int 226 (nat_lit 898))), (en P "__init__" (nat_lit 906) (.ref 510)), (en P "intern" (nat_lit 915) (.ref 517)), (en P "soft" (nat_lit 923) (.ref 524)), (en P "fresh" (nat_lit 932) (.ref 531)), (en P "by_number" (nat_lit 940) (.ref 538)), (en P "is_interned" (nat_lit 948) (.ref 545)), (en P "unintern" (nat_lit 956) (.ref 552)), (en P "all_names" (nat_lit 963) (.ref 559)), (en P "size" (nat_lit 970) (.ref 566)), (en P "__static_attributes__" (nat_lit 973) (.ref 567))] 13) (.node nn .nil .nil) .nil))))) (.node (o27 P) (.node (o43 P) (.node (tu #[]) (.node (tu #[]) (.node (tu #[]) (.node (co "soft" (nat_lit 916) "Obarray.soft" (nat_lit 917) (nat_lit 918) 239 2 3 (nat_lit 518) true 181 (nat_lit 519) (nat_lit 520) (nat_lit 521) (nat_lit 522) 921 239 (nat_lit 922)) .nil .nil) (.node (fb "_law_called" "_law_called" (top 57) "law_oj0029_01" (nat_lit 1198) 778) .nil .nil)) (.node (fb "alike" "alike" (top 37) "emacs.numprims" (nat_lit 657) 394) (.node (tu #[]) .nil .nil) .nil)) (.node (Obj.mk (.type "getset_descriptor") none (.fields #[.str "__weakref__" (nat_lit 494), .ref (nat_lit 201), .builtin "ExceptionGroup.__weakref__", .none]) #[]) (.node (tu #[]) (.node (fb "__init__" "Variables.__init__" (mth 47 0) "emacs.variables" (nat_lit 981) 586) .nil .nil) .nil) (.node (fa "plist_of" "Cells.plist_of" (mth 43 5)) (.node nn .nil .nil) .nil))) (.node (Obj.mk (.type "code") none (.fields #[.str "Symbol" (nat_lit 340), .str "Symbol" (nat_lit 341), .str "/claim/cut.py" (nat_lit 342), .int 20 (nat_lit 0), .int 0 (nat_lit 0), .int 0 (nat_lit 0), .int 0 (nat_lit 0), .int 0 (nat_lit 0), .ref (nat_lit 105), .bool false, .int 181 (nat_lit 0), .ref (nat_lit 106), .none, .none, .none, .none, .int 343 (nat_lit 0), .int 20 (nat_lit 0), .str "/claim/cut.py" (nat_lit 344)]) #[]) (.node (tu #[]) (.node (fa "shown" "Marker.shown" (mth 24 1)) (.node (tu #[.str "self" (nat_lit 960)]) .nil .nil) .nil) (.node (tu #[]) (.node (fa "kill_all" "Locals.kill_all" (mth 48 5)) .nil .nil) .nil)) (.node (tu #[]) (.node (tu #[]) (.node (tu #[]) .nil .nil) .nil) (.node (di #[(en P "__module__" (nat_lit 782) (.str "emacs.cells" (nat_lit 771))), (en P "__firstlineno__" (nat_lit 786) (.int 176 (nat_lit 785))), (en P "__init__" (nat_lit 793) (.ref 426)), (en P "function_of" (nat_lit 801) (.ref 433)), (en P "is_defined" (nat_lit 809) (.ref 440)), (en P "set_function" (nat_lit 819) (.ref 447)), (en P "indirect_function" (nat_lit 827) (.ref 454)), (en P "plist_of" (nat_lit 835) (.ref 461)), (en P "set_plist" (nat_lit 844) (.ref 468)), (en P "place_of" (nat_lit 855) (.ref 475)), (en P "get" (nat_lit 865) (.ref 482)), (en P "put" (nat_lit 875) (.ref 489)), (en P "__static_attributes__" (nat_lit 878) (.ref 490)), (en P "__dict__" (nat_lit 880) (.ref 493)), (en P "__weakref__" (nat_lit 882) (.ref 494)), (en P "__doc__" (nat_lit 883) .none)] 4) (.node (tu #[]) .nil .nil) .nil)))) (.node (o59 P) (.node (tu #[.str "self" (nat_lit 320), .str "symbol" (nat_lit 321), .str "data" (nat_lit 322)]) (.node (Obj.mk (.type "code") none (.fields #[.str "Subr" (nat_lit 422), .str "Subr" (nat_lit 423), .str "/claim/cut.py" (nat_lit 424), .int 32 (nat_lit 0), .int 0 (nat_lit 0), .int 0 (nat_lit 0), .int 0 (nat_lit 0), .int 0 (nat_lit 0), .ref (nat_lit 153), .bool false, .int 181 (nat_lit 0), .ref (nat_lit 154), .none, .none, .none, .none, .int 425 (nat_lit 0), .int 32 (nat_lit 0), .str "/claim/cut.py" (nat_lit 426)]) #[]) (.node (di #[(en P "__module__" (nat_lit 613) (.str "emacs.markers" (nat_lit 604))), (en P "__qualname__" (nat_lit 615) (.str "Marker" (nat_lit 614))), (en P "__firstlineno__" (nat_lit 617) (.int 103 (nat_lit 616))), (en P "__init__" (nat_lit 626) (.ref 294)), (en P "shown" (nat_lit 633) (.ref 301)), (en P "kind" (nat_lit 640) (.ref 308)), (en P "same_as" (nat_lit 648) (.ref 315)), (en P "__static_attributes__" (nat_lit 653) (.ref 316))] 8) (.node (tu #[]) .nil .nil) (.node (co "law" (nat_lit 1266) "law" (nat_lit 1267) (nat_lit 1268) 408 1 3 (nat_lit 790) true 181 (nat_lit 791) (nat_lit 792) (nat_lit 793) (nat_lit 794) 1276 408 (nat_lit 1277)) .nil .nil)) (.node (co "is_number" (nat_lit 763) "is_number" (nat_lit 764) (nat_lit 765) 172 2 3 (nat_lit 406) true 181 (nat_lit 407) (nat_lit 408) (nat_lit 409) (nat_lit 410) 768 172 (nat_lit 769)) (.node (tu #[.str "self" (nat_lit 1101), .str "variables" (nat_lit 1102), .str "symbol" (nat_lit 1103)]) .nil .nil) .nil)) (.node (fb "boolean" "boolean" (top 15) "emacs.objects" (nat_lit 336) 218) (.node (co "minus" (nat_lit 685) "minus" (nat_lit 686) (nat_lit 687) 138 2 3 (nat_lit 342) true 181 (nat_lit 343) (nat_lit 344) (nat_lit 345) (nat_lit 346) 692 138 (nat_lit 693)) (.node nn .nil .nil) .nil) (.node (fb "place_of" "Cells.place_of" (mth 43 7) "emacs.cells" (nat_lit 771) 474) (.node (tu #[]) .nil .nil) .nil))) (.node (o123 P) (.node (tu #[.str "self" (nat_lit 479)]) (.node (fb "same_as" "Marker.same_as" (mth 24 3) "emacs.markers" (nat_lit 604) 314) (.node (Obj.mk (.type "getset_descriptor") none (.fields #[.str "__weakref__" (nat_lit 976), .ref (nat_lit 569), .builtin "ExceptionGroup.__weakref__", .none]) #[]) .nil .nil) .nil) (.node (tu #[.str "self" (nat_lit 813), .str "symbol" (nat_lit 814), .str "function" (nat_lit 815), .str "at" (nat_lit 816)]) (.node (Obj.mk (.type "frame") none .plain #[(some (.ref (nat_lit 698))), (some (.ref (nat_lit 3))), (some (.ref (nat_lit 695))), none, (some (.str "emacs.world" (nat_lit 1132))), none, (some (.ref (nat_lit 0)))]) .nil .nil) .nil)) (.node (Obj.mk (.type "code") none (.fields #[.str "Constants" (nat_lit 560), .str "Constants" (nat_lit 561), .str "/claim/cut.py" (nat_lit 562), .int 88 (nat_lit 0), .int 0 (nat_lit 0), .int 0 (nat_lit 0), .int 0 (nat_lit 0), .int 0 (nat_lit 0), .ref (nat_lit 249), .bool false, .int 181 (nat_lit 0), .ref (nat_lit 250), .none, .none, .none, .none, .int 563 (nat_lit 0), .int 88 (nat_lit 0), .str "/claim/cut.py" (nat_lit 564)]) #[]) (.node (fa "less" "less" (top 35)) (.node (Obj.mk (.type "super") none (.fields #[.ref (nat_lit 632), .ref (nat_lit 632), .ref (nat_lit 632)]) #[]) .nil .nil) .nil) (.node (tu #[]) (.node (tu #[.str "pot" (nat_lit 1228), .str "constants" (nat_lit 1229), .str "found" (nat_lit 1230), .str "have" (nat_lit 1231), .str "step" (nat_lit 1232), .str "sort" (nat_lit 1233), .str "value" (nat_lit 1234), .str "name" (nat_lit 1235)]) .nil .nil) .nil))))))) (.node (boot_o_5 P) (.node (boot_o_9 P) (.node (tu #[.str "k" (nat_lit 190)]) (.node (o33 P) (.node (o65 P) (.node (tu #[]) (.node (fa "__init__" "Constants.__init__" (mth 22 0)) (.node (tu #[.str "self" (nat_lit 910), .str "name" (nat_lit 911), .str "found" (nat_lit 912)]) .nil .nil) (.node nn .nil .nil)) (.node (tu #[]) (.node (Obj.mk .none none (.fields #[.int 288 (nat_lit 0), .int 4 (nat_lit 0), .ref (nat_lit 649), .int 291 (nat_lit 0), .int 4 (nat_lit 0), .ref (nat_lit 656), .int 294 (nat_lit 0), .int 4 (nat_lit 0), .ref (nat_lit 663), .int 297 (nat_lit 0), .int 4 (nat_lit 0), .ref (nat_lit 670), .int 300 (nat_lit 0), .int 4 (nat_lit 0), .ref (nat_lit 677), .int 303 (nat_lit 0), .int 4 (nat_lit 0), .ref (nat_lit 684)]) #[]) .nil .nil) .nil)) (.node nn (.node (tu #[]) (.node (tu #[]) .nil .nil) .nil) (.node nn (.node (co "__init__" (nat_lit 1146) "World.__init__" (nat_lit 1147) (nat_lit 1148) 308 1 3 (nat_lit 700) true 181 (nat_lit 701) (nat_lit 702) (nat_lit 703) (nat_lit 704) 1150 308 (nat_lit 1151)) .nil .nil) .nil))) (.node (o97 P) (.node (fa "__init__" "Subr.__init__" (mth 12 0)) (.node nn (.node (fb "is_interned" "Obarray.is_interned" (mth 45 5) "emacs.obarray" (nat_lit 886) 544) .nil .nil) .nil) (.node (Obj.mk .none none (.fields #[.int 178 (nat_lit 0), .int 4 (nat_lit 0), .ref (nat_lit 425), .int 182 (nat_lit 0), .int 4 (nat_lit 0), .ref (nat_lit 432), .int 185 (nat_lit 0), .int 4 (nat_lit 0), .ref (nat_lit 439), .int 188 (nat_lit 0), .int 4 (nat_lit 0), .ref (nat_lit 446), .int 198 (nat_lit 0), .int 4 (nat_lit 0), .ref (nat_lit 453), .int 201 (nat_lit 0), .int 4 (nat_lit 0), .ref (nat_lit 460), .int 204 (nat_lit 0), .int 4 (nat_lit 0), .ref (nat_lit 467), .int 207 (nat_lit 0), .int 4 (nat_lit 0), .ref (nat_lit 474), .int 219 (nat_lit 0), .int 4 (nat_lit 0), .ref (nat_lit 481), .int 223 (nat_lit 0), .int 4 (nat_lit 0), .ref (nat_lit 488)]) #[]) (.node nn .nil .nil) .nil)) (.node (co "is_atom" (nat_lit 515) "is_atom" (nat_lit 516) (nat_lit 517) 55 1 3 (nat_lit 220) true 181 (nat_lit 221) (nat_lit 222) (nat_lit 223) (nat_lit 224) 519 55 (nat_lit 520)) (.node (fa "times" "times" (top 31)) (.node (tu #[]) .nil .nil) .nil) (.node (co "get" (nat_lit 856) "Cells.get" (nat_lit 857) (nat_lit 858) 219 3 3 (nat_lit 476) true 181 (nat_lit 477) (nat_lit 478) (nat_lit 479) (nat_lit 480) 863 219 (nat_lit 864)) (.node (Obj.mk (.type "type") none (.cls (ClassData.mk "World" [(.type "object")] [(.ref 737), .type "object"] 736 "World" true [] [] false none false)) #[none, none, (some (.str "World" (nat_lit 1134))), (some (.str "World" (nat_lit 1142))), (some (.builtin "object.__new__")), (some (.bool true))]) .nil .nil) .nil)))) (.node (o49 P) (.node (fb "pure_names" "pure_names" (top 4) "emacs.bytecode" (nat_lit 194) 80) (.node (Obj.mk (.type "type") none (.cls (ClassData.mk "Cons" [(.type "object")] [(.ref 145), .type "object"] 144 "Cons" true [] [] false none false)) #[none, none, (some (.str "Cons" (nat_lit 389))), (some (.str "Cons" (nat_lit 397))), (some (.builtin "object.__new__")), (some (.bool true))]) (.node (fb "is_nil" "Constants.is_nil" (mth 22 2) "emacs.byteunit" (nat_lit 556) 272) (.node (fa "fresh" "Obarray.fresh" (mth 45 3)) .nil .nil) (.node (tu #[]) .nil .nil)) (.node (tu #[]) (.node (fb "is_local" "Locals.is_local" (mth 48 1) "emacs.variables" (nat_lit 981) 656) .nil .nil) .nil)) (.node (tu #[]) (.node (tu #[.str "world" (nat_lit 678), .str "args" (nat_lit 679), .str "found" (nat_lit 680), .str "value" (nat_lit 681)]) (.node (co "default_value" (nat_lit 1002) "Variables.default_value" (nat_lit 1003) (nat_lit 1004) 269 2 3 (nat_lit 588) true 181 (nat_lit 589) (nat_lit 590) (nat_lit 591) (nat_lit 592) 1007 269 (nat_lit 1008)) .nil .nil) .nil) (.node (tu #[]) (.node (tu #[]) .nil .nil) .nil))) (.node (fa "__init__" "Symbol.__init__" (mth 8 0)) (.node (Obj.mk (.type "frame") none .plain #[(some (.ref (nat_lit 176))), (some (.ref (nat_lit 3))), (some (.ref (nat_lit 173))), none, (some (.str "emacs.objects" (nat_lit 336))), none, (some (.ref (nat_lit 0)))]) (.node (tu #[]) (.node nn .nil .nil) .nil) (.node (fb "function_of" "Cells.function_of" (mth 43 1) "emacs.cells" (nat_lit 771) 432) (.node (Obj.mk (.type "getset_descriptor") none (.fields #[.str "__dict__" (nat_lit 1125), .ref (nat_lit 688), .builtin "function.__dict__", .builtin "function.__dict__#set"]) #[]) .nil .nil) .nil)) (.node (tu #[.str "lines" (nat_lit 542), .str "constants" (nat_lit 543), .str "world" (nat_lit 544), .str "pure" (nat_lit 545), .str "found" (nat_lit 546), .str "word" (nat_lit 547), .str "operand" (nat_lit 548), .str "name" (nat_lit 549), .str "many" (nat_lit 550), .str "arguments" (nat_lit 551), .str "value" (nat_lit 552)]) (.node (fb "one_less" "one_less" (top 33) "emacs.numprims" (nat_lit 657) 368) (.node (tu #[.str "self" (nat_lit 1048), .str "symbol" (nat_lit 1049)]) .nil .nil) .nil) (.node (tu #[]) (.node (fb "_law_dip" "_law_dip" (top 53) "law_oj0029_01" (nat_lit 1198) 752) .nil .nil) .nil))))) (.node (o25 P) (.node (o41 P) (.node (co "plain_index" (nat_lit 287) "plain_index" (nat_lit 288) (nat_lit 289) 6 2 3 (nat_lit 68) true 181 (nat_lit 69) (nat_lit 70) (nat_lit 71) (nat_lit 72) 294 6 (nat_lit 295)) (.node nn (.node (co "index_of" (nat_lit 577) "Constants.index_of" (nat_lit 578) (nat_lit 579) 93 2 3 (nat_lit 260) true 181 (nat_lit 261) (nat_lit 262) (nat_lit 263) (nat_lit 264) 584 93 (nat_lit 585)) (.node (tu #[]) .nil .nil) (.node (fa "_law_called" "_law_called" (top 57)) .nil .nil)) (.node (fa "alike" "alike" (top 37)) (.node (co "__init__" (nat_lit 1076) "Locals.__init__" (nat_lit 1077) (nat_lit 1078) 288 1 3 (nat_lit 644) true 181 (nat_lit 645) (nat_lit 646) (nat_lit 647) (nat_lit 648) 1080 288 (nat_lit 1081)) .nil .nil) .nil)) (.node (Obj.mk (.type "type") none (.cls (ClassData.mk "Opaque" [(.type "object")] [(.ref 201), .type "object"] 200 "Opaque" true [] [(.ref 318)] false none false)) #[none, none, (some (.str "Opaque" (nat_lit 457))), (some (.str "Opaque" (nat_lit 465))), (some (.builtin "object.__new__")), (some (.bool true))]) (.node nn (.node (fa "__init__" "Variables.__init__" (mth 47 0)) .nil .nil) .nil) (.node (tu #[.str "self" (nat_lit 831), .str "symbol" (nat_lit 832)]) (.node (fb "symbol" "World.symbol" (mth 50 1) "emacs.world" (nat_lit 1132) 712) .nil .nil) .nil))) (.node (tu #[]) (.node (Obj.mk (.type "super") none (.fields #[.ref (nat_lit 166), .ref (nat_lit 166), .ref (nat_lit 166)]) #[]) (.node (tu #[.str "self" (nat_lit 630)]) (.node (tu #[]) .nil .nil) .nil) (.node (co "__init__" (nat_lit 787) "Cells.__init__" (nat_lit 788) (nat_lit 789) 178 1 3 (nat_lit 420) true 181 (nat_lit 421) (nat_lit 422) (nat_lit 423) (nat_lit 424) 791 178 (nat_lit 792)) (.node (tu #[.str "self" (nat_lit 1118), .str "variables" (nat_lit 1119)]) .nil .nil) .nil)) (.node nn (.node (co "one_more" (nat_lit 705) "one_more" (nat_lit 706) (nat_lit 707) 152 2 3 (nat_lit 356) true 181 (nat_lit 357) (nat_lit 358) (nat_lit 359) (nat_lit 360) 710 152 (nat_lit 711)) (.node nn .nil .nil) .nil) (.node (fb "put" "Cells.put" (mth 43 9) "emacs.cells" (nat_lit 771) 488) (.node (Obj.mk (.type "code") none (.fields #[.str "_law_pot" (nat_lit 1200), .str "_law_pot" (nat_lit 1201), .str "/claim/cut.py" (nat_lit 1202), .int 331 (nat_lit 0), .int 1 (nat_lit 0), .int 0 (nat_lit 0), .int 0 (nat_lit 0), .int 3 (nat_lit 0), .ref (nat_lit 742), .bool true, .int 181 (nat_lit 0), .ref (nat_lit 743), .none, .none, .none, .ref (nat_lit 744), .int 1203 (nat_lit 0), .int 331 (nat_lit 0), .str "/claim/cut.py" (nat_lit 1204)]) #[]) .nil .nil) .nil)))) (.node (o57 P) (.node (tu #[]) (.node (tu #[]) (.node (tu #[.ref (nat_lit 201)]) (.node (co "by_number" (nat_lit 933) "Obarray.by_number" (nat_lit 934) (nat_lit 935) 247 2 3 (nat_lit 532) true 181 (nat_lit 533) (nat_lit 534) (nat_lit 535) (nat_lit 536) 938 247 (nat_lit 939)) .nil .nil) (.node (tu #[]) .nil .nil)) (.node (tu #[]) (.node (tu #[]) .nil .nil) .nil)) (.node (fa "boolean" "boolean" (top 15)) (.node (tu #[]) (.node (fb "set_default" "Variables.set_default" (mth 47 2) "emacs.variables" (nat_lit 981) 600) .nil .nil) .nil) (.node (fa "place_of" "Cells.place_of" (mth 43 7)) (.node nn .nil .nil) .nil))) (.node (Obj.mk (.type "super") none (.fields #[.ref (nat_lit 118), .ref (nat_lit 118), .ref (nat_lit 118)]) #[]) (.node (tu #[]) (.node (fa "same_as" "Marker.same_as" (mth 24 3)) (.node (Obj.mk (.type "type") none (.cls (ClassData.mk "Obarray" [(.type "object")] [(.ref 569), .type "object"] 568 "Obarray" true [] [] false none false)) #[none, none, (some (.str "Obarray" (nat_lit 888))), (some (.str "Obarray" (nat_lit 896))), (some (.builtin "object.__new__")), (some (.bool true))]) .nil .nil) .nil) (.node (tu #[]) (.node (Obj.mk .none none (.fields #[.int 308 (nat_lit 0), .int 4 (nat_lit 0), .ref (nat_lit 705), .int 317 (nat_lit 0), .int 4 (nat_lit 0), .ref (nat_lit 712), .int 320 (nat_lit 0), .int 4 (nat_lit 0), .ref (nat_lit 719), .int 325 (nat_lit 0), .int 4 (nat_lit 0), .ref (nat_lit 726), .int 328 (nat_lit 0), .int 4 (nat_lit 0), .ref (nat_lit 733)]) #[]) .nil .nil) .nil)) (.node (tu #[]) (.node (tu #[.str "world" (nat_lit 730), .str "args" (nat_lit 731)]) (.node (Obj.mk (.type "getset_descriptor") none (.fields #[.str "__dict__" (nat_lit 1057), .ref (nat_lit 632), .builtin "function.__dict__", .builtin "function.__dict__#set"]) #[]) .nil .nil) .nil) (.node nn (.node (tu #[]) .nil .nil) .nil)))))) (.node (sa13 P) (.node (fb "_wall" "_wall" (top 0) "__main__" (nat_lit 164) 20) (.node (o37 P) (.node nn (.node (Obj.mk .none none (.fields #[.int 29 (nat_lit 0), .int 4 (nat_lit 0), .ref (nat_lit 141)]) #[]) (.node nn (.node (fb "intern" "Obarray.intern" (mth 45 1) "emacs.obarray" (nat_lit 886) 516) .nil .nil) (.node (co "_law_two" (nat_lit 1239) "_law_two" (nat_lit 1240) (nat_lit 1241) 367 3 3 (nat_lit 768) true 181 (nat_lit 769) (nat_lit 770) (nat_lit 771) (nat_lit 772) 1245 367 (nat_lit 1246)) .nil .nil)) (.node (tu #[]) (.node nn .nil .nil) .nil)) (.node (co "same_as" (nat_lit 483) "Opaque.same_as" (nat_lit 484) (nat_lit 485) 48 2 3 (nat_lit 192) true 181 (nat_lit 193) (nat_lit 194) (nat_lit 195) (nat_lit 196) 488 48 (nat_lit 489)) (.node (fa "number_of" "number_of" (top 27)) (.node (tu #[]) .nil .nil) .nil) (.node (co "indirect_function" (nat_lit 820) "Cells.indirect_function" (nat_lit 821) (nat_lit 822) 198 2 3 (nat_lit 448) true 181 (nat_lit 449) (nat_lit 450) (nat_lit 451) (nat_lit 452) 825 198 (nat_lit 826)) (.node (tu #[.str "self" (nat_lit 1156), .str "name" (nat_lit 1157)]) .nil .nil) .nil))) (.node (Obj.mk (.type "builtin_function_or_method") none (.fields #[.builtin "object.__init_subclass__", .ref (nat_lit 98)]) #[]) (.node (di #[(en P "__module__" (nat_lit 427) (.str "emacs.objects" (nat_lit 336))), (en P "__firstlineno__" (nat_lit 431) (.int 32 (nat_lit 430))), (en P "__init__" (nat_lit 443) (.ref 163)), (en P "__static_attributes__" (nat_lit 449) (.ref 164)), (en P "__dict__" (nat_lit 451) (.ref 167)), (en P "__weakref__" (nat_lit 453) (.ref 168)), (en P "__doc__" (nat_lit 454) .none)] 4) (.node (co "__init__" (nat_lit 618) "Marker.__init__" (nat_lit 619) (nat_lit 620) 105 3 3 (nat_lit 288) true 181 (nat_lit 289) (nat_lit 290) (nat_lit 291) (nat_lit 292) 624 105 (nat_lit 625)) (.node (tu #[]) .nil .nil) .nil) (.node nn (.node (co "kill" (nat_lit 1107) "Locals.kill" (nat_lit 1108) (nat_lit 1109) 300 2 3 (nat_lit 672) true 181 (nat_lit 673) (nat_lit 674) (nat_lit 675) (nat_lit 676) 1112 300 (nat_lit 1113)) .nil .nil) .nil)) (.node (fa "constants_behind" "constants_behind" (top 18)) (.node nn (.node (fa "make_permanent" "Variables.make_permanent" (mth 47 4)) .nil .nil) .nil) (.node (tu #[.str "self" (nat_lit 869), .str "symbol" (nat_lit 870), .str "name" (nat_lit 871), .str "value" (nat_lit 872)]) (.node (Obj.mk (.type "builtin_function_or_method") none (.fields #[.builtin "object.__init_subclass__", .ref (nat_lit 737)]) #[]) .nil .nil) .nil)))) (.node (o53 P) (.node (tu #[]) (.node (Obj.mk (.type "builtin_function_or_method") none (.fields #[.builtin "object.__init_subclass__", .ref (nat_lit 145)]) #[]) (.node (Obj.mk (.type "getset_descriptor") none (.fields #[.str "__dict__" (nat_lit 597), .ref (nat_lit 276), .builtin "function.__dict__", .builtin "function.__dict__#set"]) #[]) (.node nn .nil .nil) (.node (fb "_law_is_left" "_law_is_left" (top 59) "law_oj0029_01" (nat_lit 1198) 788) .nil .nil)) (.node (fb "least_of" "least_of" (top 39) "emacs.numprims" (nat_lit 657) 404) (.node (tu #[]) .nil .nil) .nil)) (.node (tu #[]) (.node (fb "plus" "plus" (top 29) "emacs.numprims" (nat_lit 657) 340) (.node (tu #[.str "self" (nat_lit 1013), .str "symbol" (nat_lit 1014), .str "value" (nat_lit 1015)]) .nil .nil) .nil) (.node (tu #[]) (.node (fa "fresh_marker" "World.fresh_marker" (mth 50 3)) .nil .nil) .nil))) (.node (di #[(en P "__module__" (nat_lit 345) (.str "emacs.objects" (nat_lit 336))), (en P "__firstlineno__" (nat_lit 349) (.int 20 (nat_lit 348))), (en P "__init__" (nat_lit 358) (.ref 115)), (en P "__static_attributes__" (nat_lit 361) (.ref 116)), (en P "__dict__" (nat_lit 363) (.ref 119)), (en P "__weakref__" (nat_lit 365) (.ref 120)), (en P "__doc__" (nat_lit 366) .none)] 4) (.node (tu #[]) (.node (tu #[]) (.node (co "size" (nat_lit 964) "Obarray.size" (nat_lit 965) (nat_lit 966) 259 1 3 (nat_lit 560) true 181 (nat_lit 561) (nat_lit 562) (nat_lit 563) (nat_lit 564) 968 259 (nat_lit 969)) .nil .nil) .nil) (.node (tu #[]) (.node (tu #[]) .nil .nil) .nil)) (.node (fb "folded" "folded" (top 20) "emacs.bytefold" (nat_lit 513) 244) (.node (Obj.mk (.type "code") none (.fields #[.str "are_chained" (nat_lit 721), .str "are_chained" (nat_lit 722), .str "/claim/cut.py" (nat_lit 723), .int 156 (nat_lit 0), .int 2 (nat_lit 0), .int 0 (nat_lit 0), .int 0 (nat_lit 0), .int 3 (nat_lit 0), .ref (nat_lit 370), .bool true, .int 181 (nat_lit 0), .ref (nat_lit 371), .none, .none, .none, .ref (nat_lit 372), .int 724 (nat_lit 0), .int 156 (nat_lit 0), .str "/claim/cut.py" (nat_lit 725)]) #[]) (.node (fb "is_permanent" "Variables.is_permanent" (mth 47 6) "emacs.variables" (nat_lit 981) 628) .nil .nil) .nil) (.node (Obj.mk .none none (.fields #[.int 228 (nat_lit 0), .int 4 (nat_lit 0), .ref (nat_lit 509), .int 232 (nat_lit 0), .int 4 (nat_lit 0), .ref (nat_lit 516), .int 239 (nat_lit 0), .int 4 (nat_lit 0), .ref (nat_lit 523), .int 242 (nat_lit 0), .int 4 (nat_lit 0), .ref (nat_lit 530), .int 247 (nat_lit 0), .int 4 (nat_lit 0), .ref (nat_lit 537), .int 250 (nat_lit 0), .int 4 (nat_lit 0), .ref (nat_lit 544), .int 253 (nat_lit 0), .int 4 (nat_lit 0), .ref (nat_lit 551), .int 256 (nat_lit 0), .int 4 (nat_lit 0), .ref (nat_lit 558), .int 259 (nat_lit 0), .int 4 (nat_lit 0), .ref (nat_lit 565)]) #[]) (.node (tu #[]) .nil .nil) .nil))))) (.node (o29 P) (.node (o45 P) (.node (tu #[]) (.node (co "__init__" (nat_lit 401) "Cons.__init__" (nat_lit 402) (nat_lit 403) 29 3 3 (nat_lit 136) true 181 (nat_lit 137) (nat_lit 138) (nat_lit 139) (nat_lit 140) 407 29 (nat_lit 408)) (.node (tu #[.str "self" (nat_lit 590), .str "index" (nat_lit 591)]) (.node (tu #[]) .nil .nil) (.node nn .nil .nil)) (.node nn (.node (tu #[.str "self" (nat_lit 1086), .str "symbol" (nat_lit 1087)]) .nil .nil) .nil)) (.node (Obj.mk (.type "builtin_function_or_method") none (.fields #[.builtin "object.__init_subclass__", .ref (nat_lit 201)]) #[]) (.node (co "fitting" (nat_lit 668) "fitting" (nat_lit 669) (nat_lit 670) 129 1 3 (nat_lit 328) true 181 (nat_lit 329) (nat_lit 330) (nat_lit 331) (nat_lit 332) 672 129 (nat_lit 673)) (.node nn .nil .nil) .nil) (.node (fb "plist_of" "Cells.plist_of" (mth 43 5) "emacs.cells" (nat_lit 771) 460) (.node (tu #[]) .nil .nil) .nil))) (.node (tu #[]) (.node (di #[(en P "__module__" (nat_lit 464) (.str "emacs.objects" (nat_lit 336))), (en P "__qualname__" (nat_lit 466) (.str "Opaque" (nat_lit 465))), (en P "__firstlineno__" (nat_lit 468) (.int 40 (nat_lit 467))), (en P "shown" (nat_lit 475) (.ref 184)), (en P "kind" (nat_lit 482) (.ref 191)), (en P "same_as" (nat_lit 490) (.ref 198)), (en P "__static_attributes__" (nat_lit 491) (.ref 199))] 7) (.node (fb "shown" "Marker.shown" (mth 24 1) "emacs.markers" (nat_lit 604) 300) (.node (fa "all_names" "Obarray.all_names" (mth 45 7)) .nil .nil) .nil) (.node (tu #[.str "self" (nat_lit 797), .str "symbol" (nat_lit 798)]) (.node (fb "kill_all" "Locals.kill_all" (mth 48 5) "emacs.variables" (nat_lit 981) 684) .nil .nil) .nil)) (.node (co "told_value" (nat_lit 528) "told_value" (nat_lit 529) (nat_lit 530) 65 3 3 (nat_lit 232) true 181 (nat_lit 233) (nat_lit 234) (nat_lit 235) (nat_lit 236) 536 65 (nat_lit 537)) (.node (tu #[.str "world" (nat_lit 716), .str "args" (nat_lit 717)]) (.node (co "is_automatic" (nat_lit 1037) "Variables.is_automatic" (nat_lit 1038) (nat_lit 1039) 281 2 3 (nat_lit 616) true 181 (nat_lit 617) (nat_lit 618) (nat_lit 619) (nat_lit 620) 1042 281 (nat_lit 1043)) .nil .nil) .nil) (.node (Obj.mk (.type "getset_descriptor") none (.fields #[.str "__dict__" (nat_lit 879), .ref (nat_lit 492), .builtin "function.__dict__", .builtin "function.__dict__#set"]) #[]) (.node (tu #[.str "pot" (nat_lit 1209), .str "many" (nat_lit 1210), .str "at" (nat_lit 1211)]) .nil .nil) .nil)))) (.node (o61 P) (.node (fa "__init__" "LispSignal.__init__" (mth 6 0)) (.node (tu #[]) (.node (Obj.mk .none none (.fields #[.int 105 (nat_lit 0), .int 4 (nat_lit 0), .ref (nat_lit 293), .int 111 (nat_lit 0), .int 4 (nat_lit 0), .ref (nat_lit 300), .int 114 (nat_lit 0), .int 4 (nat_lit 0), .ref (nat_lit 307), .int 117 (nat_lit 0), .int 4 (nat_lit 0), .ref (nat_lit 314)]) #[]) (.node (tu #[.str "self" (nat_lit 944), .str "symbol" (nat_lit 945)]) .nil .nil) .nil) (.node (tu #[]) (.node (fa "make_local" "Locals.make_local" (mth 48 3)) .nil .nil) .nil)) (.node nn (.node (tu #[]) (.node (tu #[]) .nil .nil) .nil) (.node nn (.node (co "put_functions" (nat_lit 1175) "World.put_functions" (nat_lit 1176) (nat_lit 1177) 328 2 3 (nat_lit 728) true 181 (nat_lit 729) (nat_lit 730) (nat_lit 731) (nat_lit 732) 1180 328 (nat_lit 1181)) .nil .nil) .nil))) (.node (Obj.mk (.type "frame") none (.dict #[(en P "self" (nat_lit 371) (.ref (nat_lit 124))), (en P "number" (nat_lit 372) (.int 0 (nat_lit 369))), (en P "name" (nat_lit 373) (.str "nil" (nat_lit 370)))] 3) #[]) (.node (fa "kind" "Opaque.kind" (mth 13 1)) (.node (di #[(en P "__module__" (nat_lit 613) (.str "emacs.markers" (nat_lit 604))), (en P "__firstlineno__" (nat_lit 617) (.int 103 (nat_lit 616))), (en P "__init__" (nat_lit 626) (.ref 294)), (en P "shown" (nat_lit 633) (.ref 301)), (en P "kind" (nat_lit 640) (.ref 308)), (en P "same_as" (nat_lit 648) (.ref 315)), (en P "__static_attributes__" (nat_lit 653) (.ref 316)), (en P "__doc__" (nat_lit 654) .none)] 2) (.node (Obj.mk (.type "builtin_function_or_method") none (.fields #[.builtin "object.__init_subclass__", .ref (nat_lit 569)]) #[]) .nil .nil) .nil) (.node (fa "set_function" "Cells.set_function" (mth 43 3)) (.node nn .nil .nil) .nil)) (.node (tu #[]) (.node (fb "less" "less" (top 35) "emacs.numprims" (nat_lit 657) 380) (.node (tu #[]) .nil .nil) .nil) (.node (co "__init__" (nat_lit 900) "Obarray.__init__" (nat_lit 901) (nat_lit 902) 228 1 3 (nat_lit 504) true 181 (nat_lit 505) (nat_lit 506) (nat_lit 507) (nat_lit 508) 904 228 (nat_lit 905)) (.node (fa "_law_lines" "_law_lines" (top 55)) .nil .nil) .nil)))))))) (.node (o2 P) (.node (boot_o_4 P) (.node (boot_o_8 P) (.node nn (.node (o32 P) (.node (o64 P) (.node (Obj.mk (.type "frame") none (.dict #[(en P "self" (nat_lit 381) (.ref (nat_lit 127))), (en P "number" (nat_lit 382) (.int 1 (nat_lit 379))), (en P "name" (nat_lit 383) (.str "t" (nat_lit 380)))] 3) #[]) (.node (tu #[]) (.node nn .nil .nil) (.node (tu #[]) .nil .nil)) (.node (tu #[.str "world" (nat_lit 738), .str "args" (nat_lit 739)]) (.node (tu #[]) .nil .nil) .nil)) (.node (tu #[]) (.node (Obj.mk (.type "builtin_function_or_method") none (.fields #[.builtin "object.__init_subclass__", .ref (nat_lit 318)]) #[]) (.node (di #[(en P "__module__" (nat_lit 990) (.str "emacs.variables" (nat_lit 981))), (en P "__qualname__" (nat_lit 992) (.str "Variables" (nat_lit 991))), (en P "__firstlineno__" (nat_lit 994) (.int 262 (nat_lit 993))), (en P "__init__" (nat_lit 1001) (.ref 587)), (en P "default_value" (nat_lit 1009) (.ref 594)), (en P "set_default" (nat_lit 1018) (.ref 601)), (en P "make_automatic" (nat_lit 1027) (.ref 608)), (en P "make_permanent" (nat_lit 1036) (.ref 615)), (en P "is_automatic" (nat_lit 1044) (.ref 622)), (en P "is_permanent" (nat_lit 1052) (.ref 629)), (en P "__static_attributes__" (nat_lit 1056) (.ref 630))] 11) .nil .nil) .nil) (.node (tu #[]) (.node (fa "__init__" "World.__init__" (mth 50 0)) .nil .nil) .nil))) (.node (tu #[.str "data" (nat_lit 326), .str "symbol" (nat_lit 327)]) (.node (tu #[]) (.node (tu #[]) (.node (co "is_interned" (nat_lit 941) "Obarray.is_interned" (nat_lit 942) (nat_lit 943) 250 2 3 (nat_lit 539) true 181 (nat_lit 540) (nat_lit 541) (nat_lit 542) (nat_lit 543) 946 250 (nat_lit 947)) .nil .nil) .nil) (.node (tu #[]) (.node (tu #[]) .nil .nil) .nil)) (.node (fa "is_atom" "is_atom" (top 17)) (.node (tu #[]) (.node (fb "make_automatic" "Variables.make_automatic" (mth 47 3) "emacs.variables" (nat_lit 981) 607) .nil .nil) .nil) (.node (fa "get" "Cells.get" (mth 43 8)) (.node (di #[(en P "__module__" (nat_lit 1141) (.str "emacs.world" (nat_lit 1132))), (en P "__firstlineno__" (nat_lit 1145) (.int 306 (nat_lit 1144))), (en P "__init__" (nat_lit 1152) (.ref 706)), (en P "symbol" (nat_lit 1160) (.ref 713)), (en P "own" (nat_lit 1167) (.ref 720)), (en P "fresh_marker" (nat_lit 1174) (.ref 727)), (en P "put_functions" (nat_lit 1182) (.ref 734)), (en P "__static_attributes__" (nat_lit 1190) (.ref 735)), (en P "__dict__" (nat_lit 1192) (.ref 738)), (en P "__weakref__" (nat_lit 1194) (.ref 739)), (en P "__doc__" (nat_lit 1195) .none)] 4) .nil .nil) .nil)))) (.node (o48 P) (.node (co "pure_names" (nat_lit 297) "pure_names" (nat_lit 298) (nat_lit 299) 11 0 3 (nat_lit 75) true 181 (nat_lit 76) (nat_lit 77) (nat_lit 78) (nat_lit 79) 300 11 (nat_lit 301)) (.node (di #[(en P "__module__" (nat_lit 396) (.str "emacs.objects" (nat_lit 336))), (en P "__firstlineno__" (nat_lit 400) (.int 27 (nat_lit 399))), (en P "__init__" (nat_lit 409) (.ref 142)), (en P "__static_attributes__" (nat_lit 412) (.ref 143)), (en P "__dict__" (nat_lit 414) (.ref 146)), (en P "__weakref__" (nat_lit 416) (.ref 147)), (en P "__doc__" (nat_lit 417) .none)] 4) (.node (co "is_nil" (nat_lit 587) "Constants.is_nil" (nat_lit 588) (nat_lit 589) 100 2 3 (nat_lit 267) true 181 (nat_lit 268) (nat_lit 269) (nat_lit 270) (nat_lit 271) 592 100 (nat_lit 593)) (.node (tu #[]) .nil .nil) (.node (fb "_law_run" "_law_run" (top 58) "law_oj0029_01" (nat_lit 1198) 783) .nil .nil)) (.node (fb "greatest" "greatest" (top 38) "emacs.numprims" (nat_lit 657) 399) (.node (co "is_local" (nat_lit 1083) "Locals.is_local" (nat_lit 1084) (nat_lit 1085) 291 2 3 (nat_lit 651) true 181 (nat_lit 652) (nat_lit 653) (nat_lit 654) (nat_lit 655) 1088 291 (nat_lit 1089)) .nil .nil) .nil)) (.node (tu #[.str "datum" (nat_lit 502)]) (.node nn (.node (fa "default_value" "Variables.default_value" (mth 47 1)) .nil .nil) .nil) (.node (tu #[.str "self" (nat_lit 839), .str "symbol" (nat_lit 840), .str "plist" (nat_lit 841)]) (.node (fb "own" "World.own" (mth 50 2) "emacs.world" (nat_lit 1132) 719) .nil .nil) .nil))) (.node (tu #[]) (.node (Obj.mk (.type "code") none (.fields #[.str "Opaque" (nat_lit 459), .str "Opaque" (nat_lit 460), .str "/claim/cut.py" (nat_lit 461), .int 40 (nat_lit 0), .int 0 (nat_lit 0), .int 0 (nat_lit 0), .int 0 (nat_lit 0), .int 0 (nat_lit 0), .ref (nat_lit 174), .bool false, .int 181 (nat_lit 0), .ref (nat_lit 175), .none, .none, .none, .none, .int 462 (nat_lit 0), .int 40 (nat_lit 0), .str "/claim/cut.py" (nat_lit 463)]) #[]) (.node (tu #[.str "self" (nat_lit 637)]) (.node (tu #[]) .nil .nil) .nil) (.node (co "function_of" (nat_lit 794) "Cells.function_of" (nat_lit 795) (nat_lit 796) 182 2 3 (nat_lit 427) true 181 (nat_lit 428) (nat_lit 429) (nat_lit 430) (nat_lit 431) 799 182 (nat_lit 800)) (.node (Obj.mk (.type "type") none (.cls (ClassData.mk "Locals" [(.type "object")] [(.ref 688), .type "object"] 687 "Locals" true [] [] false none false)) #[none, none, (some (.str "Locals" (nat_lit 1064))), (some (.str "Locals" (nat_lit 1072))), (some (.builtin "object.__new__")), (some (.bool true))]) .nil .nil) .nil)) (.node nn (.node (co "one_less" (nat_lit 713) "one_less" (nat_lit 714) (nat_lit 715) 154 2 3 (nat_lit 363) true 181 (nat_lit 364) (nat_lit 365) (nat_lit 366) (nat_lit 367) 718 154 (nat_lit 719)) (.node nn .nil .nil) .nil) (.node (Obj.mk (.type "builtin_function_or_method") none (.fields #[.builtin "object.__init_subclass__", .ref (nat_lit 492)]) #[]) (.node (co "_law_dip" (nat_lit 1206) "_law_dip" (nat_lit 1207) (nat_lit 1208) 334 2 3 (nat_lit 747) true 181 (nat_lit 748) (nat_lit 749) (nat_lit 750) (nat_lit 751) 1212 334 (nat_lit 1213)) .nil .nil) .nil))))) (.node (o24 P) (.node (o40 P) (.node (fa "plain_index" "plain_index" (top 3)) (.node (tu #[]) (.node (fa "index_of" "Constants.index_of" (mth 22 1)) (.node (tu #[.str "self" (nat_lit 919), .str "name" (nat_lit 920)]) .nil .nil) (.node nn .nil .nil)) (.node (tu #[]) (.node (fa "__init__" "Locals.__init__" (mth 48 0)) .nil .nil) .nil)) (.node (di #[(en P "__module__" (nat_lit 464) (.str "emacs.objects" (nat_lit 336))), (en P "__firstlineno__" (nat_lit 468) (.int 40 (nat_lit 467))), (en P "shown" (nat_lit 475) (.ref 184)), (en P "kind" (nat_lit 482) (.ref 191)), (en P "same_as" (nat_lit 490) (.ref 198)), (en P "__static_attributes__" (nat_lit 491) (.ref 199)), (en P "__dict__" (nat_lit 493) (.ref 202)), (en P "__weakref__" (nat_lit 495) (.ref 203)), (en P "__doc__" (nat_lit 496) .none)] 4) (.node (tu #[]) (.node (tu #[]) .nil .nil) .nil) (.node nn (.node (co "symbol" (nat_lit 1153) "World.symbol" (nat_lit 1154) (nat_lit 1155) 317 2 3 (nat_lit 707) true 181 (nat_lit 708) (nat_lit 709) (nat_lit 710) (nat_lit 711) 1158 317 (nat_lit 1159)) .nil .nil) .nil))) (.node (di #[(en P "__module__" (nat_lit 345) (.str "emacs.objects" (nat_lit 336))), (en P "__qualname__" (nat_lit 347) (.str "Symbol" (nat_lit 346))), (en P "__firstlineno__" (nat_lit 349) (.int 20 (nat_lit 348))), (en P "__init__" (nat_lit 358) (.ref 115)), (en P "__static_attributes__" (nat_lit 361) (.ref 116))] 5) (.node (Obj.mk (.type "getset_descriptor") none (.fields #[.str "__weakref__" (nat_lit 452), .ref (nat_lit 166), .builtin "ExceptionGroup.__weakref__", .none]) #[]) (.node nn (.node (fb "unintern" "Obarray.unintern" (mth 45 6) "emacs.obarray" (nat_lit 886) 551) .nil .nil) .nil) (.node (fa "__init__" "Cells.__init__" (mth 43 0)) (.node nn .nil .nil) .nil)) (.node (tu #[]) (.node (fa "one_more" "one_more" (top 32)) (.node (tu #[]) .nil .nil) .nil) (.node (co "put" (nat_lit 866) "Cells.put" (nat_lit 867) (nat_lit 868) 223 4 3 (nat_lit 483) true 181 (nat_lit 484) (nat_lit 485) (nat_lit 486) (nat_lit 487) 873 223 (nat_lit 874)) (.node (fa "_law_pot" "_law_pot" (top 52)) .nil .nil) .nil)))) (.node (o56 P) (.node (Obj.mk (.type "frame") none .plain #[(some (.ref (nat_lit 87))), (some (.ref (nat_lit 3))), (some (.ref (nat_lit 84))), none, (some (.str "emacs.errors" (nat_lit 303))), none, (some (.ref (nat_lit 0)))]) (.node (di #[(en P "__module__" (nat_lit 427) (.str "emacs.objects" (nat_lit 336))), (en P "__qualname__" (nat_lit 429) (.str "Subr" (nat_lit 428))), (en P "__firstlineno__" (nat_lit 431) (.int 32 (nat_lit 430))), (en P "__init__" (nat_lit 443) (.ref 163)), (en P "__static_attributes__" (nat_lit 449) (.ref 164))] 5) (.node (Obj.mk (.type "builtin_function_or_method") none (.fields #[.builtin "object.__init_subclass__", .ref (nat_lit 276)]) #[]) (.node (fa "by_number" "Obarray.by_number" (mth 45 4)) .nil .nil) (.node (tu #[.str "script" (nat_lit 1269), .str "pot" (nat_lit 1270), .str "world" (nat_lit 1271), .str "constants" (nat_lit 1272), .str "lines" (nat_lit 1273), .str "before" (nat_lit 1274), .str "short" (nat_lit 1275)]) .nil .nil)) (.node (tu #[.str "world" (nat_lit 766), .str "args" (nat_lit 767)]) (.node (fb "names" "Locals.names" (mth 48 2) "emacs.variables" (nat_lit 981) 663) .nil .nil) .nil)) (.node (tu #[]) (.node (tu #[.str "world" (nat_lit 688), .str "args" (nat_lit 689), .str "found" (nat_lit 690), .str "value" (nat_lit 691)]) (.node (co "set_default" (nat_lit 1010) "Variables.set_default" (nat_lit 1011) (nat_lit 1012) 272 3 3 (nat_lit 595) true 181 (nat_lit 596) (nat_lit 597) (nat_lit 598) (nat_lit 599) 1016 272 (nat_lit 1017)) .nil .nil) .nil) (.node (tu #[]) (.node (tu #[]) .nil .nil) .nil))) (.node (Obj.mk (.type "getset_descriptor") none (.fields #[.str "__weakref__" (nat_lit 364), .ref (nat_lit 118), .builtin "ExceptionGroup.__weakref__", .none]) #[]) (.node (fb "shown" "Opaque.shown" (mth 13 0) "emacs.objects" (nat_lit 336) 183) (.node (tu #[]) (.node (di #[(en P "__module__" (nat_lit 895) (.str "emacs.obarray" (nat_lit 886))), (en P "__firstlineno__" (nat_lit 899) (.int 226 (nat_lit 898))), (en P "__init__" (nat_lit 906) (.ref 510)), (en P "intern" (nat_lit 915) (.ref 517)), (en P "soft" (nat_lit 923) (.ref 524)), (en P "fresh" (nat_lit 932) (.ref 531)), (en P "by_number" (nat_lit 940) (.ref 538)), (en P "is_interned" (nat_lit 948) (.ref 545)), (en P "unintern" (nat_lit 956) (.ref 552)), (en P "all_names" (nat_lit 963) (.ref 559)), (en P "size" (nat_lit 970) (.ref 566)), (en P "__static_attributes__" (nat_lit 973) (.ref 567)), (en P "__dict__" (nat_lit 975) (.ref 570)), (en P "__weakref__" (nat_lit 977) (.ref 571)), (en P "__doc__" (nat_lit 978) .none)] 4) .nil .nil) .nil) (.node (fb "is_defined" "Cells.is_defined" (mth 43 2) "emacs.cells" (nat_lit 771) 439) (.node (tu #[]) .nil .nil) .nil)) (.node (di #[(en P "__module__" (nat_lit 565) (.str "emacs.byteunit" (nat_lit 556))), (en P "__qualname__" (nat_lit 567) (.str "Constants" (nat_lit 566))), (en P "__firstlineno__" (nat_lit 569) (.int 88 (nat_lit 568))), (en P "__init__" (nat_lit 576) (.ref 259)), (en P "index_of" (nat_lit 586) (.ref 266)), (en P "is_nil" (nat_lit 594) (.ref 273)), (en P "__static_attributes__" (nat_lit 596) (.ref 274))] 7) (.node nn (.node (Obj.mk (.type "type") none (.cls (ClassData.mk "Variables" [(.type "object")] [(.ref 632), .type "object"] 631 "Variables" true [] [] false none false)) #[none, none, (some (.str "Variables" (nat_lit 983))), (some (.str "Variables" (nat_lit 991))), (some (.builtin "object.__new__")), (some (.bool true))]) .nil .nil) .nil) (.node (tu #[]) (.node (fb "_law_world" "_law_world" (top 54) "law_oj0029_01" (nat_lit 1198) 759) .nil .nil) .nil)))))) (.node (Obj.mk .none none (.fields #[.int 1 (nat_lit 0), .int 0 (nat_lit 0), .ref (nat_lit 20), .int 6 (nat_lit 0), .int 0 (nat_lit 0), .ref (nat_lit 73), .int 11 (nat_lit 0), .int 0 (nat_lit 0), .ref (nat_lit 80), .int 14 (nat_lit 0), .int 0 (nat_lit 0), .ref (nat_lit 87), .int 20 (nat_lit 0), .int 0 (nat_lit 0), .ref (nat_lit 107), .int 27 (nat_lit 0), .int 0 (nat_lit 0), .ref (nat_lit 134), .int 32 (nat_lit 0), .int 0 (nat_lit 0), .ref (nat_lit 155), .int 40 (nat_lit 0), .int 0 (nat_lit 0), .ref (nat_lit 176), .int 50 (nat_lit 0), .int 0 (nat_lit 0), .ref (nat_lit 211), .int 52 (nat_lit 0), .int 0 (nat_lit 0), .ref (nat_lit 218), .int 55 (nat_lit 0), .int 0 (nat_lit 0), .ref (nat_lit 225), .int 57 (nat_lit 0), .int 0 (nat_lit 0), .ref (nat_lit 230), .int 65 (nat_lit 0), .int 0 (nat_lit 0), .ref (nat_lit 237), .int 74 (nat_lit 0), .int 0 (nat_lit 0), .ref (nat_lit 244), .int 88 (nat_lit 0), .int 0 (nat_lit 0), .ref (nat_lit 251), .int 103 (nat_lit 0), .int 0 (nat_lit 0), .ref (nat_lit 286), .int 121 (nat_lit 0), .int 0 (nat_lit 0), .ref (nat_lit 326), .int 129 (nat_lit 0), .int 0 (nat_lit 0), .ref (nat_lit 333), .int 133 (nat_lit 0), .int 0 (nat_lit 0), .ref (nat_lit 340), .int 138 (nat_lit 0), .int 0 (nat_lit 0), .ref (nat_lit 347), .int 147 (nat_lit 0), .int 0 (nat_lit 0), .ref (nat_lit 354), .int 152 (nat_lit 0), .int 0 (nat_lit 0), .ref (nat_lit 361), .int 154 (nat_lit 0), .int 0 (nat_lit 0), .ref (nat_lit 368), .int 156 (nat_lit 0), .int 0 (nat_lit 0), .ref (nat_lit 373), .int 162 (nat_lit 0), .int 0 (nat_lit 0), .ref (nat_lit 380), .int 164 (nat_lit 0), .int 0 (nat_lit 0), .ref (nat_lit 387), .int 166 (nat_lit 0), .int 0 (nat_lit 0), .ref (nat_lit 394), .int 168 (nat_lit 0), .int 0 (nat_lit 0), .ref (nat_lit 399), .int 170 (nat_lit 0), .int 0 (nat_lit 0), .ref (nat_lit 404), .int 172 (nat_lit 0), .int 0 (nat_lit 0), .ref (nat_lit 411), .int 176 (nat_lit 0), .int 0 (nat_lit 0), .ref (nat_lit 418), .int 226 (nat_lit 0), .int 0 (nat_lit 0), .ref (nat_lit 502), .int 262 (nat_lit 0), .int 0 (nat_lit 0), .ref (nat_lit 579), .int 286 (nat_lit 0), .int 0 (nat_lit 0), .ref (nat_lit 642), .int 306 (nat_lit 0), .int 0 (nat_lit 0), .ref (nat_lit 698), .int 331 (nat_lit 0), .int 0 (nat_lit 0), .ref (nat_lit 745), .int 334 (nat_lit 0), .int 0 (nat_lit 0), .ref (nat_lit 752), .int 341 (nat_lit 0), .int 0 (nat_lit 0), .ref (nat_lit 759), .int 348 (nat_lit 0), .int 0 (nat_lit 0), .ref (nat_lit 766), .int 367 (nat_lit 0), .int 0 (nat_lit 0), .ref (nat_lit 773), .int 373 (nat_lit 0), .int 0 (nat_lit 0), .ref (nat_lit 778), .int 383 (nat_lit 0), .int 0 (nat_lit 0), .ref (nat_lit 783), .int 398 (nat_lit 0), .int 0 (nat_lit 0), .ref (nat_lit 788), .int 408 (nat_lit 0), .int 0 (nat_lit 0), .ref (nat_lit 795)]) #[]) (.node (co "_wall" (nat_lit 187) "_wall" (nat_lit 188) (nat_lit 189) 1 1 3 (nat_lit 15) true 181 (nat_lit 16) (nat_lit 17) (nat_lit 18) (nat_lit 19) 191 1 (nat_lit 192)) (.node (o36 P) (.node (tu #[]) (.node (tu #[]) (.node (tu #[]) (.node (co "intern" (nat_lit 907) "Obarray.intern" (nat_lit 908) (nat_lit 909) 232 2 3 (nat_lit 511) true 181 (nat_lit 512) (nat_lit 513) (nat_lit 514) (nat_lit 515) 913 232 (nat_lit 914)) .nil .nil) (.node (fa "_law_two" "_law_two" (top 56)) .nil .nil)) (.node (fb "at_most" "at_most" (top 36) "emacs.numprims" (nat_lit 657) 387) (.node (tu #[]) .nil .nil) .nil)) (.node (fa "same_as" "Opaque.same_as" (mth 13 2)) (.node (tu #[]) (.node (Obj.mk (.type "frame") none .plain #[(some (.ref (nat_lit 579))), (some (.ref (nat_lit 3))), (some (.ref (nat_lit 576))), none, (some (.str "emacs.variables" (nat_lit 981))), none, (some (.ref (nat_lit 0)))]) .nil .nil) .nil) (.node (fa "indirect_function" "Cells.indirect_function" (mth 43 4)) (.node nn .nil .nil) .nil))) (.node (Obj.mk (.type "super") none (.fields #[.ref (nat_lit 98), .ref (nat_lit 98), .ref (nat_lit 98)]) #[]) (.node (tu #[.str "deed" (nat_lit 444), .str "least" (nat_lit 445), .str "most" (nat_lit 446), .str "name" (nat_lit 447), .str "number" (nat_lit 448)]) (.node (fa "__init__" "Marker.__init__" (mth 24 0)) (.node (tu #[.str "self" (nat_lit 952), .str "name" (nat_lit 953)]) .nil .nil) .nil) (.node (tu #[]) (.node (fa "kill" "Locals.kill" (mth 48 4)) .nil .nil) .nil)) (.node nn (.node (tu #[]) (.node (tu #[]) .nil .nil) .nil) (.node nn (.node (Obj.mk (.type "super") none (.fields #[.ref (nat_lit 737), .ref (nat_lit 737), .ref (nat_lit 737)]) #[]) .nil .nil) .nil)))) (.node (o52 P) (.node (di #[(en P "__module__" (nat_lit 312) (.str "emacs.errors" (nat_lit 303))), (en P "__qualname__" (nat_lit 314) (.str "LispSignal" (nat_lit 313))), (en P "__firstlineno__" (nat_lit 316) (.int 14 (nat_lit 315))), (en P "__init__" (nat_lit 325) (.ref 95)), (en P "__static_attributes__" (nat_lit 328) (.ref 96))] 5) (.node (Obj.mk (.type "super") none (.fields #[.ref (nat_lit 145), .ref (nat_lit 145), .ref (nat_lit 145)]) #[]) (.node (Obj.mk (.type "type") none (.cls (ClassData.mk "Constants" [(.type "object")] [(.ref 276), .type "object"] 275 "Constants" true [] [] false none false)) #[none, none, (some (.str "Constants" (nat_lit 558))), (some (.str "Constants" (nat_lit 566))), (some (.builtin "object.__new__")), (some (.bool true))]) (.node (tu #[]) .nil .nil) (.node (Obj.mk (.type "code") none (.fields #[.str "_law_is_left" (nat_lit 1260), .str "_law_is_left" (nat_lit 1261), .str "/claim/cut.py" (nat_lit 1262), .int 398 (nat_lit 0), .int 2 (nat_lit 0), .int 0 (nat_lit 0), .int 0 (nat_lit 0), .int 3 (nat_lit 0), .ref (nat_lit 785), .bool true, .int 181 (nat_lit 0), .ref (nat_lit 786), .none, .none, .none, .ref (nat_lit 787), .int 1263 (nat_lit 0), .int 398 (nat_lit 0), .str "/claim/cut.py" (nat_lit 1264)]) #[]) .nil .nil)) (.node (Obj.mk (.type "code") none (.fields #[.str "least_of" (nat_lit 757), .str "least_of" (nat_lit 758), .str "/claim/cut.py" (nat_lit 759), .int 170 (nat_lit 0), .int 2 (nat_lit 0), .int 0 (nat_lit 0), .int 0 (nat_lit 0), .int 3 (nat_lit 0), .ref (nat_lit 401), .bool true, .int 181 (nat_lit 0), .ref (nat_lit 402), .none, .none, .none, .ref (nat_lit 403), .int 760 (nat_lit 0), .int 170 (nat_lit 0), .str "/claim/cut.py" (nat_lit 761)]) #[]) (.node (tu #[.str "self" (nat_lit 1094)]) .nil .nil) .nil)) (.node (fb "is_whole" "is_whole" (top 14) "emacs.objects" (nat_lit 336) 211) (.node (co "plus" (nat_lit 675) "plus" (nat_lit 676) (nat_lit 677) 133 2 3 (nat_lit 335) true 181 (nat_lit 336) (nat_lit 337) (nat_lit 338) (nat_lit 339) 682 133 (nat_lit 683)) (.node nn .nil .nil) .nil) (.node (fb "set_plist" "Cells.set_plist" (mth 43 6) "emacs.cells" (nat_lit 771) 467) (.node (tu #[]) .nil .nil) .nil))) (.node (tu #[.str "name" (nat_lit 359), .str "number" (nat_lit 360)]) (.node (tu #[.str "self" (nat_lit 472)]) (.node (fb "kind" "Marker.kind" (mth 24 2) "emacs.markers" (nat_lit 604) 307) (.node (fa "size" "Obarray.size" (mth 45 8)) .nil .nil) .nil) (.node (tu #[.str "self" (nat_lit 805), .str "symbol" (nat_lit 806)]) (.node (Obj.mk (.type "builtin_function_or_method") none (.fields #[.builtin "object.__init_subclass__", .ref (nat_lit 688)]) #[]) .nil .nil) .nil)) (.node (co "folded" (nat_lit 539) "folded" (nat_lit 540) (nat_lit 541) 74 3 3 (nat_lit 239) true 181 (nat_lit 240) (nat_lit 241) (nat_lit 242) (nat_lit 243) 553 74 (nat_lit 554)) (.node (fa "are_chained" "are_chained" (top 34)) (.node (co "is_permanent" (nat_lit 1045) "Variables.is_permanent" (nat_lit 1046) (nat_lit 1047) 284 2 3 (nat_lit 623) true 181 (nat_lit 624) (nat_lit 625) (nat_lit 626) (nat_lit 627) 1050 284 (nat_lit 1051)) .nil .nil) .nil) (.node (tu #[]) (.node (tu #[.str "world" (nat_lit 1218), .str "known" (nat_lit 1219), .str "name" (nat_lit 1220), .str "deed" (nat_lit 1221)]) .nil .nil) .nil))))) (.node (o28 P) (.node (o44 P) (.node nn (.node (fa "__init__" "Cons.__init__" (mth 11 0)) (.node nn (.node (fb "soft" "Obarray.soft" (mth 45 2) "emacs.obarray" (nat_lit 886) 523) .nil .nil) (.node (tu #[]) .nil .nil)) (.node (tu #[]) (.node nn .nil .nil) .nil)) (.node (Obj.mk (.type "super") none (.fields #[.ref (nat_lit 201), .ref (nat_lit 201), .ref (nat_lit 201)]) #[]) (.node (fa "fitting" "fitting" (top 28)) (.node (tu #[]) .nil .nil) .nil) (.node (co "plist_of" (nat_lit 828) "Cells.plist_of" (nat_lit 829) (nat_lit 830) 201 2 3 (nat_lit 455) true 181 (nat_lit 456) (nat_lit 457) (nat_lit 458) (nat_lit 459) 833 201 (nat_lit 834)) (.node (tu #[.str "self" (nat_lit 1164)]) .nil .nil) .nil))) (.node (Obj.mk (.type "frame") none .plain #[(some (.ref (nat_lit 107))), (some (.ref (nat_lit 3))), (some (.ref (nat_lit 104))), none, (some (.str "emacs.objects" (nat_lit 336))), none, (some (.ref (nat_lit 0)))]) (.node (Obj.mk (.type "builtin_function_or_method") none (.fields #[.builtin "type.__prepare__", .type "type"]) #[]) (.node (co "shown" (nat_lit 627) "Marker.shown" (nat_lit 628) (nat_lit 629) 111 1 3 (nat_lit 295) true 181 (nat_lit 296) (nat_lit 297) (nat_lit 298) (nat_lit 299) 631 111 (nat_lit 632)) (.node (tu #[]) .nil .nil) .nil) (.node nn (.node (co "kill_all" (nat_lit 1115) "Locals.kill_all" (nat_lit 1116) (nat_lit 1117) 303 2 3 (nat_lit 679) true 181 (nat_lit 680) (nat_lit 681) (nat_lit 682) (nat_lit 683) 1120 303 (nat_lit 1121)) .nil .nil) .nil)) (.node (fa "told_value" "told_value" (top 19)) (.node nn (.node (fa "is_automatic" "Variables.is_automatic" (mth 47 5)) .nil .nil) .nil) (.node (Obj.mk (.type "type") none (.cls (ClassData.mk "Cells" [(.type "object")] [(.ref 492), .type "object"] 491 "Cells" true [] [] false none false)) #[none, none, (some (.str "Cells" (nat_lit 775))), (some (.str "Cells" (nat_lit 783))), (some (.builtin "object.__new__")), (some (.bool true))]) (.node nn .nil .nil) .nil)))) (.node (o60 P) (.node (tu #[]) (.node (Obj.mk (.type "frame") none .plain #[(some (.ref (nat_lit 155))), (some (.ref (nat_lit 3))), (some (.ref (nat_lit 152))), none, (some (.str "emacs.objects" (nat_lit 336))), none, (some (.ref (nat_lit 0)))]) (.node (tu #[]) (.node nn .nil .nil) (.node (fb "law" "law" (top 60) "law_oj0029_01" (nat_lit 1198) 795) .nil .nil)) (.node (fb "is_number" "is_number" (top 40) "emacs.numprims" (nat_lit 657) 411) (.node (tu #[]) .nil .nil) .nil)) (.node (tu #[]) (.node (fb "minus" "minus" (top 30) "emacs.numprims" (nat_lit 657) 347) (.node (tu #[.str "self" (nat_lit 1022), .str "symbol" (nat_lit 1023), .str "value" (nat_lit 1024)]) .nil .nil) .nil) (.node (tu #[]) (.node (fa "put_functions" "World.put_functions" (mth 50 4)) .nil .nil) .nil))) (.node (o124 P) (.node (tu #[]) (.node (tu #[.str "advances" (nat_lit 649), .str "buffer" (nat_lit 650), .str "number" (nat_lit 651), .str "position" (nat_lit 652)]) (.node (Obj.mk (.type "super") none (.fields #[.ref (nat_lit 569), .ref (nat_lit 569), .ref (nat_lit 569)]) #[]) .nil .nil) .nil) (.node (tu #[]) (.node (tu #[]) .nil .nil) .nil)) (.node (Obj.mk (.type "frame") none .plain #[(some (.ref (nat_lit 251))), (some (.ref (nat_lit 3))), (some (.ref (nat_lit 248))), none, (some (.str "emacs.byteunit" (nat_lit 556))), none, (some (.ref (nat_lit 0)))]) (.node (co "less" (nat_lit 727) "less" (nat_lit 728) (nat_lit 729) 162 2 3 (nat_lit 375) true 181 (nat_lit 376) (nat_lit 377) (nat_lit 378) (nat_lit 379) 732 162 (nat_lit 733)) (.node (Obj.mk (.type "builtin_function_or_method") none (.fields #[.builtin "object.__init_subclass__", .ref (nat_lit 632)]) #[]) .nil .nil) .nil) (.node (fa "__init__" "Obarray.__init__" (mth 45 0)) (.node (tu #[]) .nil .nil) .nil))))))) (.node (boot_o_6 P) (.node (boot_o_10 P) (.node (tu #[]) (.node (o34 P) (.node (o66 P) (.node (Obj.mk (.type "builtin_function_or_method") none (.fields #[.builtin "type.__prepare__", .type "type"]) #[]) (.node (co "__init__" (nat_lit 570) "Constants.__init__" (nat_lit 571) (nat_lit 572) 90 1 3 (nat_lit 253) true 181 (nat_lit 254) (nat_lit 255) (nat_lit 256) (nat_lit 257) 574 90 (nat_lit 575)) (.node (tu #[]) .nil .nil) (.node (tu #[.str "name" (nat_lit 1242), .str "one" (nat_lit 1243), .str "other" (nat_lit 1244)]) .nil .nil)) (.node (fa "at_most" "at_most" (top 36)) (.node (Obj.mk (.type "code") none (.fields #[.str "Locals" (nat_lit 1066), .str "Locals" (nat_lit 1067), .str "/claim/cut.py" (nat_lit 1068), .int 286 (nat_lit 0), .int 0 (nat_lit 0), .int 0 (nat_lit 0), .int 0 (nat_lit 0), .int 0 (nat_lit 0), .ref (nat_lit 640), .bool false, .int 181 (nat_lit 0), .ref (nat_lit 641), .none, .none, .none, .none, .int 1069 (nat_lit 0), .int 286 (nat_lit 0), .str "/claim/cut.py" (nat_lit 1070)]) #[]) .nil .nil) .nil)) (.node (tu #[.str "self" (nat_lit 486), .str "other" (nat_lit 487)]) (.node nn (.node (Obj.mk .none none (.fields #[.int 264 (nat_lit 0), .int 4 (nat_lit 0), .ref (nat_lit 586), .int 269 (nat_lit 0), .int 4 (nat_lit 0), .ref (nat_lit 593), .int 272 (nat_lit 0), .int 4 (nat_lit 0), .ref (nat_lit 600), .int 275 (nat_lit 0), .int 4 (nat_lit 0), .ref (nat_lit 607), .int 278 (nat_lit 0), .int 4 (nat_lit 0), .ref (nat_lit 614), .int 281 (nat_lit 0), .int 4 (nat_lit 0), .ref (nat_lit 621), .int 284 (nat_lit 0), .int 4 (nat_lit 0), .ref (nat_lit 628)]) #[]) .nil .nil) .nil) (.node (tu #[.str "self" (nat_lit 823), .str "datum" (nat_lit 824)]) (.node (fb "__init__" "World.__init__" (mth 50 0) "emacs.world" (nat_lit 1132) 705) .nil .nil) .nil))) (.node (o98 P) (.node (co "__init__" (nat_lit 432) "Subr.__init__" (nat_lit 433) (nat_lit 434) 34 6 3 (nat_lit 157) true 181 (nat_lit 158) (nat_lit 159) (nat_lit 160) (nat_lit 161) 441 34 (nat_lit 442)) (.node (tu #[.str "self" (nat_lit 621), .str "number" (nat_lit 622), .str "advances" (nat_lit 623)]) (.node (tu #[]) .nil .nil) .nil) (.node (Obj.mk (.type "code") none (.fields #[.str "Cells" (nat_lit 777), .str "Cells" (nat_lit 778), .str "/claim/cut.py" (nat_lit 779), .int 176 (nat_lit 0), .int 0 (nat_lit 0), .int 0 (nat_lit 0), .int 0 (nat_lit 0), .int 0 (nat_lit 0), .ref (nat_lit 416), .bool false, .int 181 (nat_lit 0), .ref (nat_lit 417), .none, .none, .none, .none, .int 780 (nat_lit 0), .int 176 (nat_lit 0), .str "/claim/cut.py" (nat_lit 781)]) #[]) (.node (tu #[.str "self" (nat_lit 1110), .str "symbol" (nat_lit 1111)]) .nil .nil) .nil)) (.node (fb "is_atom" "is_atom" (top 17) "emacs.bytefold" (nat_lit 513) 225) (.node (co "times" (nat_lit 695) "times" (nat_lit 696) (nat_lit 697) 147 2 3 (nat_lit 349) true 181 (nat_lit 350) (nat_lit 351) (nat_lit 352) (nat_lit 353) 702 147 (nat_lit 703)) (.node nn .nil .nil) .nil) (.node (fb "get" "Cells.get" (mth 43 8) "emacs.cells" (nat_lit 771) 481) (.node (Obj.mk (.type "getset_descriptor") none (.fields #[.str "__dict__" (nat_lit 1191), .ref (nat_lit 737), .builtin "function.__dict__", .builtin "function.__dict__#set"]) #[]) .nil .nil) .nil)))) (.node (o50 P) (.node (tu #[.type "Exception"]) (.node (Obj.mk (.type "getset_descriptor") none (.fields #[.str "__dict__" (nat_lit 413), .ref (nat_lit 145), .builtin "function.__dict__", .builtin "function.__dict__#set"]) #[]) (.node (tu #[.str "values" (nat_lit 595)]) (.node (co "fresh" (nat_lit 924) "Obarray.fresh" (nat_lit 925) (nat_lit 926) 242 2 3 (nat_lit 525) true 181 (nat_lit 526) (nat_lit 527) (nat_lit 528) (nat_lit 529) 930 242 (nat_lit 931)) .nil .nil) (.node nn .nil .nil)) (.node nn (.node (tu #[]) .nil .nil) .nil)) (.node (fa "is_whole" "is_whole" (top 14)) (.node (tu #[]) (.node (fb "default_value" "Variables.default_value" (mth 47 1) "emacs.variables" (nat_lit 981) 593) .nil .nil) .nil) (.node (fa "set_plist" "Cells.set_plist" (mth 43 6)) (.node nn .nil .nil) .nil))) (.node (co "__init__" (nat_lit 350) "Symbol.__init__" (nat_lit 351) (nat_lit 352) 22 3 3 (nat_lit 109) true 181 (nat_lit 110) (nat_lit 111) (nat_lit 112) (nat_lit 113) 356 22 (nat_lit 357)) (.node (tu #[]) (.node (fa "kind" "Marker.kind" (mth 24 2)) (.node (tu #[.str "self" (nat_lit 967)]) .nil .nil) .nil) (.node (tu #[]) (.node (Obj.mk (.type "getset_descriptor") none (.fields #[.str "__weakref__" (nat_lit 1127), .ref (nat_lit 688), .builtin "ExceptionGroup.__weakref__", .none]) #[]) .nil .nil) .nil)) (.node (tu #[]) (.node (tu #[]) (.node (tu #[]) .nil .nil) .nil) (.node (Obj.mk (.type "builtin_function_or_method") none (.fields #[.builtin "type.__prepare__", .type "type"]) #[]) (.node (tu #[]) .nil .nil) .nil))))) (.node (o26 P) (.node (o42 P) (.node (fb "plain_index" "plain_index" (top 3) "emacs.bytecode" (nat_lit 194) 73) (.node (tu #[.str "self" (nat_lit 404), .str "car" (nat_lit 405), .str "cdr" (nat_lit 406)]) (.node (fb "index_of" "Constants.index_of" (mth 22 1) "emacs.byteunit" (nat_lit 556) 265) (.node (fa "soft" "Obarray.soft" (mth 45 2)) .nil .nil) (.node (Obj.mk (.type "code") none (.fields #[.str "_law_called" (nat_lit 1248), .str "_law_called" (nat_lit 1249), .str "/claim/cut.py" (nat_lit 1250), .int 373 (nat_lit 0), .int 2 (nat_lit 0), .int 0 (nat_lit 0), .int 0 (nat_lit 0), .int 3 (nat_lit 0), .ref (nat_lit 775), .bool true, .int 181 (nat_lit 0), .ref (nat_lit 776), .none, .none, .none, .ref (nat_lit 777), .int 1251 (nat_lit 0), .int 373 (nat_lit 0), .str "/claim/cut.py" (nat_lit 1252)]) #[]) .nil .nil)) (.node (co "alike" (nat_lit 743) "alike" (nat_lit 744) (nat_lit 745) 166 2 3 (nat_lit 389) true 181 (nat_lit 390) (nat_lit 391) (nat_lit 392) (nat_lit 393) 748 166 (nat_lit 749)) (.node (fb "__init__" "Locals.__init__" (mth 48 0) "emacs.variables" (nat_lit 981) 649) .nil .nil) .nil)) (.node (Obj.mk (.type "getset_descriptor") none (.fields #[.str "__dict__" (nat_lit 492), .ref (nat_lit 201), .builtin "function.__dict__", .builtin "function.__dict__#set"]) #[]) (.node (tu #[.str "number" (nat_lit 671)]) (.node (co "__init__" (nat_lit 995) "Variables.__init__" (nat_lit 996) (nat_lit 997) 264 1 3 (nat_lit 581) true 181 (nat_lit 582) (nat_lit 583) (nat_lit 584) (nat_lit 585) 999 264 (nat_lit 1000)) .nil .nil) .nil) (.node (tu #[]) (.node (tu #[]) .nil .nil) .nil))) (.node (Obj.mk .none none (.fields #[.int 22 (nat_lit 0), .int 4 (nat_lit 0), .ref (nat_lit 114)]) #[]) (.node (Obj.mk (.type "builtin_function_or_method") none (.fields #[.builtin "object.__init_subclass__", .ref (nat_lit 166)]) #[]) (.node (tu #[]) (.node nn .nil .nil) .nil) (.node (fb "__init__" "Cells.__init__" (mth 43 0) "emacs.cells" (nat_lit 771) 425) (.node (tu #[]) .nil .nil) .nil)) (.node (tu #[.str "world" (nat_lit 531), .str "name" (nat_lit 532), .str "arguments" (nat_lit 533), .str "subr" (nat_lit 534), .str "found" (nat_lit 535)]) (.node (fb "one_more" "one_more" (top 32) "emacs.numprims" (nat_lit 657) 361) (.node (tu #[.str "self" (nat_lit 1040), .str "symbol" (nat_lit 1041)]) .nil .nil) .nil) (.node (tu #[.str "functions" (nat_lit 876), .str "plists" (nat_lit 877)]) (.node (fb "_law_pot" "_law_pot" (top 52) "law_oj0029_01" (nat_lit 1198) 745) .nil .nil) .nil)))) (.node (o58 P) (.node nn (.node (Obj.mk .none none (.fields #[.int 34 (nat_lit 0), .int 4 (nat_lit 0), .ref (nat_lit 162)]) #[]) (.node (Obj.mk (.type "builtin_function_or_method") none (.fields #[.builtin "type.__prepare__", .type "type"]) #[]) (.node (fb "by_number" "Obarray.by_number" (mth 45 4) "emacs.obarray" (nat_lit 886) 537) .nil .nil) (.node (fa "law" "law" (top 60)) .nil .nil)) (.node (fa "is_number" "is_number" (top 40)) (.node nn .nil .nil) .nil)) (.node (co "boolean" (nat_lit 506) "boolean" (nat_lit 507) (nat_lit 508) 52 1 3 (nat_lit 213) true 181 (nat_lit 214) (nat_lit 215) (nat_lit 216) (nat_lit 217) 510 52 (nat_lit 511)) (.node (fa "minus" "minus" (top 30)) (.node (tu #[]) .nil .nil) .nil) (.node (co "place_of" (nat_lit 845) "Cells.place_of" (nat_lit 846) (nat_lit 847) 207 3 3 (nat_lit 469) true 181 (nat_lit 470) (nat_lit 471) (nat_lit 472) (nat_lit 473) 853 207 (nat_lit 854)) (.node (tu #[.str "self" (nat_lit 1178), .str "functions" (nat_lit 1179)]) .nil .nil) .nil))) (.node (Obj.mk (.type "builtin_function_or_method") none (.fields #[.builtin "object.__init_subclass__", .ref (nat_lit 118)]) #[]) (.node nn (.node (co "same_as" (nat_lit 641) "Marker.same_as" (nat_lit 642) (nat_lit 643) 117 2 3 (nat_lit 309) true 181 (nat_lit 310) (nat_lit 311) (nat_lit 312) (nat_lit 313) 646 117 (nat_lit 647)) (.node (Obj.mk (.type "getset_descriptor") none (.fields #[.str "__dict__" (nat_lit 974), .ref (nat_lit 569), .builtin "function.__dict__", .builtin "function.__dict__#set"]) #[]) .nil .nil) .nil) (.node nn (.node (Obj.mk (.type "code") none (.fields #[.str "World" (nat_lit 1136), .str "World" (nat_lit 1137), .str "/claim/cut.py" (nat_lit 1138), .int 306 (nat_lit 0), .int 0 (nat_lit 0), .int 0 (nat_lit 0), .int 0 (nat_lit 0), .int 0 (nat_lit 0), .ref (nat_lit 696), .bool false, .int 181 (nat_lit 0), .ref (nat_lit 697), .none, .none, .none, .none, .int 1139 (nat_lit 0), .int 306 (nat_lit 0), .str "/claim/cut.py" (nat_lit 1140)]) #[]) .nil .nil) .nil)) (.node (Obj.mk .none none (.fields #[.int 90 (nat_lit 0), .int 4 (nat_lit 0), .ref (nat_lit 258), .int 93 (nat_lit 0), .int 4 (nat_lit 0), .ref (nat_lit 265), .int 100 (nat_lit 0), .int 4 (nat_lit 0), .ref (nat_lit 272)]) #[]) (.node (tu #[]) (.node (Obj.mk (.type "getset_descriptor") none (.fields #[.str "__weakref__" (nat_lit 1059), .ref (nat_lit 632), .builtin "ExceptionGroup.__weakref__", .none]) #[]) .nil .nil) .nil) (.node (tu #[.str "self" (nat_lit 903)]) (.node nn .nil .nil) .nil)))))) (.node (sa14 P) (.node (o22 P) (.node (o38 P) (.node (tu #[.str "name" (nat_lit 290), .str "many" (nat_lit 291), .str "index" (nat_lit 292), .str "row" (nat_lit 293)]) (.node (Obj.mk (.type "code") none (.fields #[.str "Cons" (nat_lit 391), .str "Cons" (nat_lit 392), .str "/claim/cut.py" (nat_lit 393), .int 27 (nat_lit 0), .int 0 (nat_lit 0), .int 0 (nat_lit 0), .int 0 (nat_lit 0), .int 0 (nat_lit 0), .ref (nat_lit 132), .bool false, .int 181 (nat_lit 0), .ref (nat_lit 133), .none, .none, .none, .none, .int 394 (nat_lit 0), .int 27 (nat_lit 0), .str "/claim/cut.py" (nat_lit 395)]) #[]) (.node (tu #[.str "self" (nat_lit 580), .str "value" (nat_lit 581), .str "index" (nat_lit 582), .str "own" (nat_lit 583)]) (.node (tu #[]) .nil .nil) (.node (fb "_law_two" "_law_two" (top 56) "law_oj0029_01" (nat_lit 1198) 773) .nil .nil)) (.node nn (.node (tu #[.str "self" (nat_lit 1079)]) .nil .nil) .nil)) (.node (fb "same_as" "Opaque.same_as" (mth 13 2) "emacs.objects" (nat_lit 336) 197) (.node (co "number_of" (nat_lit 661) "number_of" (nat_lit 662) (nat_lit 663) 121 1 3 (nat_lit 321) true 181 (nat_lit 322) (nat_lit 323) (nat_lit 324) (nat_lit 325) 665 121 (nat_lit 666)) (.node nn .nil .nil) .nil) (.node (fb "indirect_function" "Cells.indirect_function" (mth 43 4) "emacs.cells" (nat_lit 771) 453) (.node (tu #[]) .nil .nil) .nil))) (.node (tu #[]) (.node (Obj.mk (.type "type") none (.cls (ClassData.mk "Subr" [(.type "object")] [(.ref 166), .type "object"] 165 "Subr" true [] [] false none false)) #[none, none, (some (.str "Subr" (nat_lit 420))), (some (.str "Subr" (nat_lit 428))), (some (.builtin "object.__new__")), (some (.bool true))]) (.node (fb "__init__" "Marker.__init__" (mth 24 0) "emacs.markers" (nat_lit 604) 293) (.node (fa "unintern" "Obarray.unintern" (mth 45 6)) .nil .nil) .nil) (.node (tu #[.str "self" (nat_lit 790)]) (.node (fb "kill" "Locals.kill" (mth 48 4) "emacs.variables" (nat_lit 981) 677) .nil .nil) .nil)) (.node (Obj.mk (.type "code") none (.fields #[.str "constants_behind" (nat_lit 522), .str "constants_behind" (nat_lit 523), .str "/claim/cut.py" (nat_lit 524), .int 57 (nat_lit 0), .int 3 (nat_lit 0), .int 0 (nat_lit 0), .int 0 (nat_lit 0), .int 3 (nat_lit 0), .ref (nat_lit 227), .bool true, .int 181 (nat_lit 0), .ref (nat_lit 228), .none, .none, .none, .ref (nat_lit 229), .int 525 (nat_lit 0), .int 57 (nat_lit 0), .str "/claim/cut.py" (nat_lit 526)]) #[]) (.node (tu #[.str "world" (nat_lit 708), .str "args" (nat_lit 709)]) (.node (co "make_permanent" (nat_lit 1028) "Variables.make_permanent" (nat_lit 1029) (nat_lit 1030) 278 3 3 (nat_lit 609) true 181 (nat_lit 610) (nat_lit 611) (nat_lit 612) (nat_lit 613) 1034 278 (nat_lit 1035)) .nil .nil) .nil) (.node (tu #[]) (.node (tu #[]) .nil .nil) .nil)))) (.node (o54 P) (.node (Obj.mk .none none (.fields #[.int 16 (nat_lit 0), .int 4 (nat_lit 0), .ref (nat_lit 94)]) #[]) (.node (tu #[]) (.node (Obj.mk (.type "getset_descriptor") none (.fields #[.str "__weakref__" (nat_lit 599), .ref (nat_lit 276), .builtin "ExceptionGroup.__weakref__", .none]) #[]) (.node (tu #[.str "self" (nat_lit 936), .str "number" (nat_lit 937)]) .nil .nil) (.node (tu #[]) .nil .nil)) (.node (tu #[]) (.node (fa "names" "Locals.names" (mth 48 2)) .nil .nil) .nil)) (.node nn (.node (tu #[]) (.node (tu #[]) .nil .nil) .nil) (.node nn (.node (co "fresh_marker" (nat_lit 1168) "World.fresh_marker" (nat_lit 1169) (nat_lit 1170) 325 1 3 (nat_lit 721) true 181 (nat_lit 722) (nat_lit 723) (nat_lit 724) (nat_lit 725) 1172 325 (nat_lit 1173)) .nil .nil) .nil))) (.node (Obj.mk (.type "type") none (.cls (ClassData.mk "Symbol" [(.type "object")] [(.ref 118), .type "object"] 117 "Symbol" true [] [] false none false)) #[none, none, (some (.str "Symbol" (nat_lit 338))), (some (.str "Symbol" (nat_lit 346))), (some (.builtin "object.__new__")), (some (.bool true))]) (.node (fa "shown" "Opaque.shown" (mth 13 0)) (.node nn (.node (fb "size" "Obarray.size" (mth 45 8) "emacs.obarray" (nat_lit 886) 565) .nil .nil) .nil) (.node (fa "is_defined" "Cells.is_defined" (mth 43 2)) (.node (Obj.mk (.type "builtin_function_or_method") none (.fields #[.builtin "type.__prepare__", .type "type"]) #[]) .nil .nil) .nil)) (.node (tu #[]) (.node (fb "are_chained" "are_chained" (top 34) "emacs.numprims" (nat_lit 657) 373) (.node (tu #[.str "automatic" (nat_lit 1053), .str "defaults" (nat_lit 1054), .str "permanent" (nat_lit 1055)]) .nil .nil) .nil) (.node (Obj.mk (.type "code") none (.fields #[.str "Obarray" (nat_lit 890), .str "Obarray" (nat_lit 891), .str "/claim/cut.py" (nat_lit 892), .int 226 (nat_lit 0), .int 0 (nat_lit 0), .int 0 (nat_lit 0), .int 0 (nat_lit 0), .int 0 (nat_lit 0), .ref (nat_lit 500), .bool false, .int 181 (nat_lit 0), .ref (nat_lit 501), .none, .none, .none, .none, .int 893 (nat_lit 0), .int 226 (nat_lit 0), .str "/claim/cut.py" (nat_lit 894)]) #[]) (.node (fa "_law_world" "_law_world" (top 54)) .nil .nil) .nil))))) (.node (o30 P) (.node (o46 P) (.node (tu #[]) (.node (fb "__init__" "Cons.__init__" (mth 11 0) "emacs.objects" (nat_lit 336) 141) (.node (tu #[]) (.node nn .nil .nil) (.node (fa "_law_run" "_law_run" (top 58)) .nil .nil)) (.node (fa "greatest" "greatest" (top 38)) (.node (tu #[]) .nil .nil) .nil)) (.node (tu #[]) (.node (fb "fitting" "fitting" (top 28) "emacs.numprims" (nat_lit 657) 333) (.node (tu #[.str "self" (nat_lit 1005), .str "symbol" (nat_lit 1006)]) .nil .nil) .nil) (.node (tu #[]) (.node (fa "own" "World.own" (mth 50 2)) .nil .nil) .nil))) (.node nn (.node (tu #[]) (.node (tu #[]) (.node (co "all_names" (nat_lit 957) "Obarray.all_names" (nat_lit 958) (nat_lit 959) 256 1 3 (nat_lit 553) true 181 (nat_lit 554) (nat_lit 555) (nat_lit 556) (nat_lit 557) 961 256 (nat_lit 962)) .nil .nil) .nil) (.node (tu #[]) (.node (tu #[.str "values" (nat_lit 1123)]) .nil .nil) .nil)) (.node (fb "told_value" "told_value" (top 19) "emacs.bytefold" (nat_lit 513) 237) (.node (tu #[]) (.node (fb "is_automatic" "Variables.is_automatic" (mth 47 5) "emacs.variables" (nat_lit 981) 621) .nil .nil) .nil) (.node (Obj.mk (.type "getset_descriptor") none (.fields #[.str "__weakref__" (nat_lit 881), .ref (nat_lit 492), .builtin "ExceptionGroup.__weakref__", .none]) #[]) (.node (tu #[]) .nil .nil) .nil)))) (.node (o62 P) (.node (co "__init__" (nat_lit 317) "LispSignal.__init__" (nat_lit 318) (nat_lit 319) 16 3 3 (nat_lit 89) true 181 (nat_lit 90) (nat_lit 91) (nat_lit 92) (nat_lit 93) 323 16 (nat_lit 324)) (.node nn (.node (Obj.mk (.type "code") none (.fields #[.str "Marker" (nat_lit 608), .str "Marker" (nat_lit 609), .str "/claim/cut.py" (nat_lit 610), .int 103 (nat_lit 0), .int 0 (nat_lit 0), .int 0 (nat_lit 0), .int 0 (nat_lit 0), .int 0 (nat_lit 0), .ref (nat_lit 284), .bool false, .int 181 (nat_lit 0), .ref (nat_lit 285), .none, .none, .none, .none, .int 611 (nat_lit 0), .int 103 (nat_lit 0), .str "/claim/cut.py" (nat_lit 612)]) #[]) (.node (tu #[]) .nil .nil) .nil) (.node (Obj.mk (.type "builtin_function_or_method") none (.fields #[.builtin "type.__prepare__", .type "type"]) #[]) (.node (co "make_local" (nat_lit 1098) "Locals.make_local" (nat_lit 1099) (nat_lit 1100) 297 3 3 (nat_lit 665) true 181 (nat_lit 666) (nat_lit 667) (nat_lit 668) (nat_lit 669) 1104 297 (nat_lit 1105)) .nil .nil) .nil)) (.node (tu #[.str "value" (nat_lit 518)]) (.node nn (.node (fa "make_automatic" "Variables.make_automatic" (mth 47 3)) .nil .nil) .nil) (.node (tu #[.str "self" (nat_lit 859), .str "symbol" (nat_lit 860), .str "name" (nat_lit 861), .str "found" (nat_lit 862)]) (.node (fb "put_functions" "World.put_functions" (mth 50 4) "emacs.world" (nat_lit 1132) 733) .nil .nil) .nil))) (.node (o126 P) (.node (co "kind" (nat_lit 476) "Opaque.kind" (nat_lit 477) (nat_lit 478) 45 1 3 (nat_lit 185) true 181 (nat_lit 186) (nat_lit 187) (nat_lit 188) (nat_lit 189) 480 45 (nat_lit 481)) (.node (Obj.mk (.type "type") none (.cls (ClassData.mk "Marker" [(.ref 201)] [(.ref 318), .ref 201, .type "object"] 317 "Marker" true [] [] false none false)) #[(some (.ref 281)), none, (some (.str "Marker" (nat_lit 606))), (some (.str "Marker" (nat_lit 614))), (some (.builtin "object.__new__")), (some (.bool true))]) (.node (tu #[]) .nil .nil) .nil) (.node (co "set_function" (nat_lit 810) "Cells.set_function" (nat_lit 811) (nat_lit 812) 188 3 3 (nat_lit 441) true 181 (nat_lit 442) (nat_lit 443) (nat_lit 444) (nat_lit 445) 817 188 (nat_lit 818)) (.node (tu #[.str "self" (nat_lit 1149)]) .nil .nil) .nil)) (.node nn (.node (tu #[]) (.node (Obj.mk (.type "builtin_function_or_method") none (.fields #[.builtin "type.__prepare__", .type "type"]) #[]) .nil .nil) .nil) (.node (fb "__init__" "Obarray.__init__" (mth 45 0) "emacs.obarray" (nat_lit 886) 509) (.node (co "_law_lines" (nat_lit 1225) "_law_lines" (nat_lit 1226) (nat_lit 1227) 348 2 3 (nat_lit 761) true 181 (nat_lit 762) (nat_lit 763) (nat_lit 764) (nat_lit 765) 1236 348 (nat_lit 1237)) .nil .nil) .nil)))))))))
noncomputable def K (P : Params) : Frag := (nat_lit 2, (o2 P)) :: (nat_lit 3, (di #[(en P "__name__" (nat_lit 165) (.str "law_oj0029_01" (nat_lit 1198))), (en P "__doc__" (nat_lit 166) .none), (en P "__package__" (nat_lit 167) .none), (en P "__loader__" (nat_lit 168) (.builtin "__main__.__loader__#opaque")), (en P "__spec__" (nat_lit 169) .none), (en P "__annotations__" (nat_lit 170) (.ref 6)), (en P "__builtins__" (nat_lit 171) (.ref 4)), (en P "__file__" (nat_lit 173) (.str "/claim/cut.py" (nat_lit 172))), (en P "__cached__" (nat_lit 174) .none), (en P "_wall" (nat_lit 193) (.ref 21)), (en P "PLAIN_FUNCTIONS" (nat_lit 286) (.ref 67)), (en P "plain_index" (nat_lit 296) (.ref 74)), (en P "pure_names" (nat_lit 302) (.ref 81)), (en P "LispSignal" (nat_lit 335) (.ref 98)), (en P "Symbol" (nat_lit 368) (.ref 118)), (en P "NIL" (nat_lit 378) (.ref 124)), (en P "T" (nat_lit 388) (.ref 127)), (en P "Cons" (nat_lit 419) (.ref 145)), (en P "Subr" (nat_lit 456) (.ref 166)), (en P "Opaque" (nat_lit 498) (.ref 201)), (en P "is_whole" (nat_lit 505) (.ref 212)), (en P "boolean" (nat_lit 512) (.ref 219)), (en P "is_atom" (nat_lit 521) (.ref 226)), (en P "constants_behind" (nat_lit 527) (.ref 231)), (en P "told_value" (nat_lit 538) (.ref 238)), (en P "folded" (nat_lit 555) (.ref 245)), (en P "Constants" (nat_lit 603) (.ref 276)), (en P "Marker" (nat_lit 656) (.ref 318)), (en P "WIDTH" (nat_lit 660) (.int 65536 (nat_lit 659))), (en P "number_of" (nat_lit 667) (.ref 327)), (en P "fitting" (nat_lit 674) (.ref 334)), (en P "plus" (nat_lit 684) (.ref 341)), (en P "minus" (nat_lit 694) (.ref 348)), (en P "times" (nat_lit 704) (.ref 355)), (en P "one_more" (nat_lit 712) (.ref 362)), (en P "one_less" (nat_lit 720) (.ref 369)), (en P "are_chained" (nat_lit 726) (.ref 374)), (en P "less" (nat_lit 734) (.ref 381)), (en P "at_most" (nat_lit 742) (.ref 388)), (en P "alike" (nat_lit 750) (.ref 395)), (en P "greatest" (nat_lit 756) (.ref 400)), (en P "least_of" (nat_lit 762) (.ref 405)), (en P "is_number" (nat_lit 770) (.ref 412)), (en P "MOST_PARTS" (nat_lit 774) (.int 100000 (nat_lit 773))), (en P "Cells" (nat_lit 885) (.ref 492)), (en P "Obarray" (nat_lit 980) (.ref 569)), (en P "Variables" (nat_lit 1063) (.ref 632)), (en P "Locals" (nat_lit 1131) (.ref 688)), (en P "World" (nat_lit 1197) (.ref 737)), (en P "_law_pot" (nat_lit 1205) (.ref 746)), (en P "_law_dip" (nat_lit 1214) (.ref 753)), (en P "_law_world" (nat_lit 1224) (.ref 760)), (en P "_law_lines" (nat_lit 1238) (.ref 767)), (en P "_law_two" (nat_lit 1247) (.ref 774)), (en P "_law_called" (nat_lit 1253) (.ref 779)), (en P "_law_run" (nat_lit 1259) (.ref 784)), (en P "_law_is_left" (nat_lit 1265) (.ref 789)), (en P "law" (nat_lit 1278) (.ref 796))] 58)) :: (nat_lit 20, (co "_wall" (nat_lit 187) "_wall" (nat_lit 188) (nat_lit 189) 1 1 3 (nat_lit 15) true 181 (nat_lit 16) (nat_lit 17) (nat_lit 18) (nat_lit 19) 191 1 (nat_lit 192))) :: (nat_lit 21, (fb "_wall" "_wall" (top 0) "__main__" (nat_lit 164) 20)) :: (nat_lit 22, (o22 P)) :: (nat_lit 23, (o23 P)) :: (nat_lit 24, (o24 P)) :: (nat_lit 25, (o25 P)) :: (nat_lit 26, (o26 P)) :: (nat_lit 27, (o27 P)) :: (nat_lit 28, (o28 P)) :: (nat_lit 29, (o29 P)) :: (nat_lit 30, (o30 P)) :: (nat_lit 31, (o31 P)) :: (nat_lit 32, (o32 P)) :: (nat_lit 33, (o33 P)) :: (nat_lit 34, (o34 P)) :: (nat_lit 35, (o35 P)) :: (nat_lit 36, (o36 P)) :: (nat_lit 37, (o37 P)) :: (nat_lit 38, (o38 P)) :: (nat_lit 39, (o39 P)) :: (nat_lit 40, (o40 P)) :: (nat_lit 41, (o41 P)) :: (nat_lit 42, (o42 P)) :: (nat_lit 43, (o43 P)) :: (nat_lit 44, (o44 P)) :: (nat_lit 45, (o45 P)) :: (nat_lit 46, (o46 P)) :: (nat_lit 47, (o47 P)) :: (nat_lit 48, (o48 P)) :: (nat_lit 49, (o49 P)) :: (nat_lit 50, (o50 P)) :: (nat_lit 51, (o51 P)) :: (nat_lit 52, (o52 P)) :: (nat_lit 53, (o53 P)) :: (nat_lit 54, (o54 P)) :: (nat_lit 55, (o55 P)) :: (nat_lit 56, (o56 P)) :: (nat_lit 57, (o57 P)) :: (nat_lit 58, (o58 P)) :: (nat_lit 59, (o59 P)) :: (nat_lit 60, (o60 P)) :: (nat_lit 61, (o61 P)) :: (nat_lit 62, (o62 P)) :: (nat_lit 63, (o63 P)) :: (nat_lit 64, (o64 P)) :: (nat_lit 65, (o65 P)) :: (nat_lit 66, (o66 P)) :: (nat_lit 67, (o67 P)) :: (nat_lit 73, (co "plain_index" (nat_lit 287) "plain_index" (nat_lit 288) (nat_lit 289) 6 2 3 (nat_lit 68) true 181 (nat_lit 69) (nat_lit 70) (nat_lit 71) (nat_lit 72) 294 6 (nat_lit 295))) :: (nat_lit 74, (fb "plain_index" "plain_index" (top 3) "emacs.bytecode" (nat_lit 194) 73)) :: (nat_lit 80, (co "pure_names" (nat_lit 297) "pure_names" (nat_lit 298) (nat_lit 299) 11 0 3 (nat_lit 75) true 181 (nat_lit 76) (nat_lit 77) (nat_lit 78) (nat_lit 79) 300 11 (nat_lit 301))) :: (nat_lit 81, (fb "pure_names" "pure_names" (top 4) "emacs.bytecode" (nat_lit 194) 80)) :: (nat_lit 94, (co "__init__" (nat_lit 317) "LispSignal.__init__" (nat_lit 318) (nat_lit 319) 16 3 3 (nat_lit 89) true 181 (nat_lit 90) (nat_lit 91) (nat_lit 92) (nat_lit 93) 323 16 (nat_lit 324))) :: (nat_lit 95, (o95 P)) :: (nat_lit 97, (o97 P)) :: (nat_lit 98, (o98 P)) :: (nat_lit 99, (Obj.mk (.type "getset_descriptor") none (.fields #[.str "__weakref__" (nat_lit 329), .ref (nat_lit 98), .builtin "ExceptionGroup.__weakref__", .none]) #[])) :: (nat_lit 114, (co "__init__" (nat_lit 350) "Symbol.__init__" (nat_lit 351) (nat_lit 352) 22 3 3 (nat_lit 109) true 181 (nat_lit 110) (nat_lit 111) (nat_lit 112) (nat_lit 113) 356 22 (nat_lit 357))) :: (nat_lit 115, (fb "__init__" "Symbol.__init__" (mth 8 0) "emacs.objects" (nat_lit 336) 114)) :: (nat_lit 117, (di #[(en P "__module__" (nat_lit 345) (.str "emacs.objects" (nat_lit 336))), (en P "__firstlineno__" (nat_lit 349) (.int 20 (nat_lit 348))), (en P "__init__" (nat_lit 358) (.ref 115)), (en P "__static_attributes__" (nat_lit 361) (.ref 116)), (en P "__dict__" (nat_lit 363) (.ref 119)), (en P "__weakref__" (nat_lit 365) (.ref 120)), (en P "__doc__" (nat_lit 366) .none)] 4)) :: (nat_lit 118, (Obj.mk (.type "type") none (.cls (ClassData.mk "Symbol" [(.type "object")] [(.ref 118), .type "object"] 117 "Symbol" true [] [] false none false)) #[none, none, (some (.str "Symbol" (nat_lit 338))), (some (.str "Symbol" (nat_lit 346))), (some (.builtin "object.__new__")), (some (.bool true))])) :: (nat_lit 119, (Obj.mk (.type "getset_descriptor") none (.fields #[.str "__dict__" (nat_lit 362), .ref (nat_lit 118), .builtin "function.__dict__", .builtin "function.__dict__#set"]) #[])) :: (nat_lit 120, (Obj.mk (.type "getset_descriptor") none (.fields #[.str "__weakref__" (nat_lit 364), .ref (nat_lit 118), .builtin "ExceptionGroup.__weakref__", .none]) #[])) :: (nat_lit 123, (o123 P)) :: (nat_lit 124, (o124 P)) :: (nat_lit 126, (o126 P)) :: (nat_lit 127, (o127 P)) :: (nat_lit 141, (co "__init__" (nat_lit 401) "Cons.__init__" (nat_lit 402) (nat_lit 403) 29 3 3 (nat_lit 136) true 181 (nat_lit 137) (nat_lit 138) (nat_lit 139) (nat_lit 140) 407 29 (nat_lit 408))) :: (nat_lit 142, (fb "__init__" "Cons.__init__" (mth 11 0) "emacs.objects" (nat_lit 336) 141)) :: (nat_lit 144, (di #[(en P "__module__" (nat_lit 396) (.str "emacs.objects" (nat_lit 336))), (en P "__firstlineno__" (nat_lit 400) (.int 27 (nat_lit 399))), (en P "__init__" (nat_lit 409) (.ref 142)), (en P "__static_attributes__" (nat_lit 412) (.ref 143)), (en P "__dict__" (nat_lit 414) (.ref 146)), (en P "__weakref__" (nat_lit 416) (.ref 147)), (en P "__doc__" (nat_lit 417) .none)] 4)) :: (nat_lit 145, (Obj.mk (.type "type") none (.cls (ClassData.mk "Cons" [(.type "object")] [(.ref 145), .type "object"] 144 "Cons" true [] [] false none false)) #[none, none, (some (.str "Cons" (nat_lit 389))), (some (.str "Cons" (nat_lit 397))), (some (.builtin "object.__new__")), (some (.bool true))])) :: (nat_lit 146, (Obj.mk (.type "getset_descriptor") none (.fields #[.str "__dict__" (nat_lit 413), .ref (nat_lit 145), .builtin "function.__dict__", .builtin "function.__dict__#set"]) #[])) :: (nat_lit 147, (Obj.mk (.type "getset_descriptor") none (.fields #[.str "__weakref__" (nat_lit 415), .ref (nat_lit 145), .builtin "ExceptionGroup.__weakref__", .none]) #[])) :: (nat_lit 162, (co "__init__" (nat_lit 432) "Subr.__init__" (nat_lit 433) (nat_lit 434) 34 6 3 (nat_lit 157) true 181 (nat_lit 158) (nat_lit 159) (nat_lit 160) (nat_lit 161) 441 34 (nat_lit 442))) :: (nat_lit 163, (fb "__init__" "Subr.__init__" (mth 12 0) "emacs.objects" (nat_lit 336) 162)) :: (nat_lit 165, (di #[(en P "__module__" (nat_lit 427) (.str "emacs.objects" (nat_lit 336))), (en P "__firstlineno__" (nat_lit 431) (.int 32 (nat_lit 430))), (en P "__init__" (nat_lit 443) (.ref 163)), (en P "__static_attributes__" (nat_lit 449) (.ref 164)), (en P "__dict__" (nat_lit 451) (.ref 167)), (en P "__weakref__" (nat_lit 453) (.ref 168)), (en P "__doc__" (nat_lit 454) .none)] 4)) :: (nat_lit 166, (Obj.mk (.type "type") none (.cls (ClassData.mk "Subr" [(.type "object")] [(.ref 166), .type "object"] 165 "Subr" true [] [] false none false)) #[none, none, (some (.str "Subr" (nat_lit 420))), (some (.str "Subr" (nat_lit 428))), (some (.builtin "object.__new__")), (some (.bool true))])) :: (nat_lit 167, (Obj.mk (.type "getset_descriptor") none (.fields #[.str "__dict__" (nat_lit 450), .ref (nat_lit 166), .builtin "function.__dict__", .builtin "function.__dict__#set"]) #[])) :: (nat_lit 168, (Obj.mk (.type "getset_descriptor") none (.fields #[.str "__weakref__" (nat_lit 452), .ref (nat_lit 166), .builtin "ExceptionGroup.__weakref__", .none]) #[])) :: (nat_lit 183, (co "shown" (nat_lit 469) "Opaque.shown" (nat_lit 470) (nat_lit 471) 42 1 3 (nat_lit 178) true 181 (nat_lit 179) (nat_lit 180) (nat_lit 181) (nat_lit 182) 473 42 (nat_lit 474))) :: (nat_lit 184, (fb "shown" "Opaque.shown" (mth 13 0) "emacs.objects" (nat_lit 336) 183)) :: (nat_lit 190, (co "kind" (nat_lit 476) "Opaque.kind" (nat_lit 477) (nat_lit 478) 45 1 3 (nat_lit 185) true 181 (nat_lit 186) (nat_lit 187) (nat_lit 188) (nat_lit 189) 480 45 (nat_lit 481))) :: (nat_lit 191, (fb "kind" "Opaque.kind" (mth 13 1) "emacs.objects" (nat_lit 336) 190)) :: (nat_lit 197, (co "same_as" (nat_lit 483) "Opaque.same_as" (nat_lit 484) (nat_lit 485) 48 2 3 (nat_lit 192) true 181 (nat_lit 193) (nat_lit 194) (nat_lit 195) (nat_lit 196) 488 48 (nat_lit 489))) :: (nat_lit 198, (fb "same_as" "Opaque.same_as" (mth 13 2) "emacs.objects" (nat_lit 336) 197)) :: (nat_lit 200, (di #[(en P "__module__" (nat_lit 464) (.str "emacs.objects" (nat_lit 336))), (en P "__firstlineno__" (nat_lit 468) (.int 40 (nat_lit 467))), (en P "shown" (nat_lit 475) (.ref 184)), (en P "kind" (nat_lit 482) (.ref 191)), (en P "same_as" (nat_lit 490) (.ref 198)), (en P "__static_attributes__" (nat_lit 491) (.ref 199)), (en P "__dict__" (nat_lit 493) (.ref 202)), (en P "__weakref__" (nat_lit 495) (.ref 203)), (en P "__doc__" (nat_lit 496) .none)] 4)) :: (nat_lit 201, (Obj.mk (.type "type") none (.cls (ClassData.mk "Opaque" [(.type "object")] [(.ref 201), .type "object"] 200 "Opaque" true [] [(.ref 318)] false none false)) #[none, none, (some (.str "Opaque" (nat_lit 457))), (some (.str "Opaque" (nat_lit 465))), (some (.builtin "object.__new__")), (some (.bool true))])) :: (nat_lit 202, (Obj.mk (.type "getset_descriptor") none (.fields #[.str "__dict__" (nat_lit 492), .ref (nat_lit 201), .builtin "function.__dict__", .builtin "function.__dict__#set"]) #[])) :: (nat_lit 203, (Obj.mk (.type "getset_descriptor") none (.fields #[.str "__weakref__" (nat_lit 494), .ref (nat_lit 201), .builtin "ExceptionGroup.__weakref__", .none]) #[])) :: (nat_lit 211, (co "is_whole" (nat_lit 499) "is_whole" (nat_lit 500) (nat_lit 501) 50 1 3 (nat_lit 206) true 181 (nat_lit 207) (nat_lit 208) (nat_lit 209) (nat_lit 210) 503 50 (nat_lit 504))) :: (nat_lit 212, (fb "is_whole" "is_whole" (top 14) "emacs.objects" (nat_lit 336) 211)) :: (nat_lit 218, (co "boolean" (nat_lit 506) "boolean" (nat_lit 507) (nat_lit 508) 52 1 3 (nat_lit 213) true 181 (nat_lit 214) (nat_lit 215) (nat_lit 216) (nat_lit 217) 510 52 (nat_lit 511))) :: (nat_lit 219, (fb "boolean" "boolean" (top 15) "emacs.objects" (nat_lit 336) 218)) :: (nat_lit 225, (co "is_atom" (nat_lit 515) "is_atom" (nat_lit 516) (nat_lit 517) 55 1 3 (nat_lit 220) true 181 (nat_lit 221) (nat_lit 222) (nat_lit 223) (nat_lit 224) 519 55 (nat_lit 520))) :: (nat_lit 226, (fb "is_atom" "is_atom" (top 17) "emacs.bytefold" (nat_lit 513) 225)) :: (nat_lit 230, (Obj.mk (.type "code") none (.fields #[.str "constants_behind" (nat_lit 522), .str "constants_behind" (nat_lit 523), .str "/claim/cut.py" (nat_lit 524), .int 57 (nat_lit 0), .int 3 (nat_lit 0), .int 0 (nat_lit 0), .int 0 (nat_lit 0), .int 3 (nat_lit 0), .ref (nat_lit 227), .bool true, .int 181 (nat_lit 0), .ref (nat_lit 228), .none, .none, .none, .ref (nat_lit 229), .int 525 (nat_lit 0), .int 57 (nat_lit 0), .str "/claim/cut.py" (nat_lit 526)]) #[])) :: (nat_lit 231, (fb "constants_behind" "constants_behind" (top 18) "emacs.bytefold" (nat_lit 513) 230)) :: (nat_lit 237, (co "told_value" (nat_lit 528) "told_value" (nat_lit 529) (nat_lit 530) 65 3 3 (nat_lit 232) true 181 (nat_lit 233) (nat_lit 234) (nat_lit 235) (nat_lit 236) 536 65 (nat_lit 537))) :: (nat_lit 238, (fb "told_value" "told_value" (top 19) "emacs.bytefold" (nat_lit 513) 237)) :: (nat_lit 244, (co "folded" (nat_lit 539) "folded" (nat_lit 540) (nat_lit 541) 74 3 3 (nat_lit 239) true 181 (nat_lit 240) (nat_lit 241) (nat_lit 242) (nat_lit 243) 553 74 (nat_lit 554))) :: (nat_lit 245, (fb "folded" "folded" (top 20) "emacs.bytefold" (nat_lit 513) 244)) :: (nat_lit 258, (co "__init__" (nat_lit 570) "Constants.__init__" (nat_lit 571) (nat_lit 572) 90 1 3 (nat_lit 253) true 181 (nat_lit 254) (nat_lit 255) (nat_lit 256) (nat_lit 257) 574 90 (nat_lit 575))) :: (nat_lit 259, (fb "__init__" "Constants.__init__" (mth 22 0) "emacs.byteunit" (nat_lit 556) 258)) :: (nat_lit 265, (co "index_of" (nat_lit 577) "Constants.index_of" (nat_lit 578) (nat_lit 579) 93 2 3 (nat_lit 260) true 181 (nat_lit 261) (nat_lit 262) (nat_lit 263) (nat_lit 264) 584 93 (nat_lit 585))) :: (nat_lit 266, (fb "index_of" "Constants.index_of" (mth 22 1) "emacs.byteunit" (nat_lit 556) 265)) :: (nat_lit 272, (co "is_nil" (nat_lit 587) "Constants.is_nil" (nat_lit 588) (nat_lit 589) 100 2 3 (nat_lit 267) true 181 (nat_lit 268) (nat_lit 269) (nat_lit 270) (nat_lit 271) 592 100 (nat_lit 593))) :: (nat_lit 273, (fb "is_nil" "Constants.is_nil" (mth 22 2) "emacs.byteunit" (nat_lit 556) 272)) :: (nat_lit 275, (di #[(en P "__module__" (nat_lit 565) (.str "emacs.byteunit" (nat_lit 556))), (en P "__firstlineno__" (nat_lit 569) (.int 88 (nat_lit 568))), (en P "__init__" (nat_lit 576) (.ref 259)), (en P "index_of" (nat_lit 586) (.ref 266)), (en P "is_nil" (nat_lit 594) (.ref 273)), (en P "__static_attributes__" (nat_lit 596) (.ref 274)), (en P "__dict__" (nat_lit 598) (.ref 277)), (en P "__weakref__" (nat_lit 600) (.ref 278)), (en P "__doc__" (nat_lit 601) .none)] 4)) :: (nat_lit 276, (Obj.mk (.type "type") none (.cls (ClassData.mk "Constants" [(.type "object")] [(.ref 276), .type "object"] 275 "Constants" true [] [] false none false)) #[none, none, (some (.str "Constants" (nat_lit 558))), (some (.str "Constants" (nat_lit 566))), (some (.builtin "object.__new__")), (some (.bool true))])) :: (nat_lit 277, (Obj.mk (.type "getset_descriptor") none (.fields #[.str "__dict__" (nat_lit 597), .ref (nat_lit 276), .builtin "function.__dict__", .builtin "function.__dict__#set"]) #[])) :: (nat_lit 278, (Obj.mk (.type "getset_descriptor") none (.fields #[.str "__weakref__" (nat_lit 599), .ref (nat_lit 276), .builtin "ExceptionGroup.__weakref__", .none]) #[])) :: (nat_lit 293, (co "__init__" (nat_lit 618) "Marker.__init__" (nat_lit 619) (nat_lit 620) 105 3 3 (nat_lit 288) true 181 (nat_lit 289) (nat_lit 290) (nat_lit 291) (nat_lit 292) 624 105 (nat_lit 625))) :: (nat_lit 294, (fb "__init__" "Marker.__init__" (mth 24 0) "emacs.markers" (nat_lit 604) 293)) :: (nat_lit 300, (co "shown" (nat_lit 627) "Marker.shown" (nat_lit 628) (nat_lit 629) 111 1 3 (nat_lit 295) true 181 (nat_lit 296) (nat_lit 297) (nat_lit 298) (nat_lit 299) 631 111 (nat_lit 632))) :: (nat_lit 301, (fb "shown" "Marker.shown" (mth 24 1) "emacs.markers" (nat_lit 604) 300)) :: (nat_lit 307, (co "kind" (nat_lit 634) "Marker.kind" (nat_lit 635) (nat_lit 636) 114 1 3 (nat_lit 302) true 181 (nat_lit 303) (nat_lit 304) (nat_lit 305) (nat_lit 306) 638 114 (nat_lit 639))) :: (nat_lit 308, (fb "kind" "Marker.kind" (mth 24 2) "emacs.markers" (nat_lit 604) 307)) :: (nat_lit 314, (co "same_as" (nat_lit 641) "Marker.same_as" (nat_lit 642) (nat_lit 643) 117 2 3 (nat_lit 309) true 181 (nat_lit 310) (nat_lit 311) (nat_lit 312) (nat_lit 313) 646 117 (nat_lit 647))) :: (nat_lit 315, (fb "same_as" "Marker.same_as" (mth 24 3) "emacs.markers" (nat_lit 604) 314)) :: (nat_lit 317, (di #[(en P "__module__" (nat_lit 613) (.str "emacs.markers" (nat_lit 604))), (en P "__firstlineno__" (nat_lit 617) (.int 103 (nat_lit 616))), (en P "__init__" (nat_lit 626) (.ref 294)), (en P "shown" (nat_lit 633) (.ref 301)), (en P "kind" (nat_lit 640) (.ref 308)), (en P "same_as" (nat_lit 648) (.ref 315)), (en P "__static_attributes__" (nat_lit 653) (.ref 316)), (en P "__doc__" (nat_lit 654) .none)] 2)) :: (nat_lit 318, (Obj.mk (.type "type") none (.cls (ClassData.mk "Marker" [(.ref 201)] [(.ref 318), .ref 201, .type "object"] 317 "Marker" true [] [] false none false)) #[(some (.ref 281)), none, (some (.str "Marker" (nat_lit 606))), (some (.str "Marker" (nat_lit 614))), (some (.builtin "object.__new__")), (some (.bool true))])) :: (nat_lit 326, (co "number_of" (nat_lit 661) "number_of" (nat_lit 662) (nat_lit 663) 121 1 3 (nat_lit 321) true 181 (nat_lit 322) (nat_lit 323) (nat_lit 324) (nat_lit 325) 665 121 (nat_lit 666))) :: (nat_lit 327, (fb "number_of" "number_of" (top 27) "emacs.numprims" (nat_lit 657) 326)) :: (nat_lit 333, (co "fitting" (nat_lit 668) "fitting" (nat_lit 669) (nat_lit 670) 129 1 3 (nat_lit 328) true 181 (nat_lit 329) (nat_lit 330) (nat_lit 331) (nat_lit 332) 672 129 (nat_lit 673))) :: (nat_lit 334, (fb "fitting" "fitting" (top 28) "emacs.numprims" (nat_lit 657) 333)) :: (nat_lit 340, (co "plus" (nat_lit 675) "plus" (nat_lit 676) (nat_lit 677) 133 2 3 (nat_lit 335) true 181 (nat_lit 336) (nat_lit 337) (nat_lit 338) (nat_lit 339) 682 133 (nat_lit 683))) :: (nat_lit 341, (fb "plus" "plus" (top 29) "emacs.numprims" (nat_lit 657) 340)) :: (nat_lit 347, (co "minus" (nat_lit 685) "minus" (nat_lit 686) (nat_lit 687) 138 2 3 (nat_lit 342) true 181 (nat_lit 343) (nat_lit 344) (nat_lit 345) (nat_lit 346) 692 138 (nat_lit 693))) :: (nat_lit 348, (fb "minus" "minus" (top 30) "emacs.numprims" (nat_lit 657) 347)) :: (nat_lit 354, (co "times" (nat_lit 695) "times" (nat_lit 696) (nat_lit 697) 147 2 3 (nat_lit 349) true 181 (nat_lit 350) (nat_lit 351) (nat_lit 352) (nat_lit 353) 702 147 (nat_lit 703))) :: (nat_lit 355, (fb "times" "times" (top 31) "emacs.numprims" (nat_lit 657) 354)) :: (nat_lit 361, (co "one_more" (nat_lit 705) "one_more" (nat_lit 706) (nat_lit 707) 152 2 3 (nat_lit 356) true 181 (nat_lit 357) (nat_lit 358) (nat_lit 359) (nat_lit 360) 710 152 (nat_lit 711))) :: (nat_lit 362, (fb "one_more" "one_more" (top 32) "emacs.numprims" (nat_lit 657) 361)) :: (nat_lit 368, (co "one_less" (nat_lit 713) "one_less" (nat_lit 714) (nat_lit 715) 154 2 3 (nat_lit 363) true 181 (nat_lit 364) (nat_lit 365) (nat_lit 366) (nat_lit 367) 718 154 (nat_lit 719))) :: (nat_lit 369, (fb "one_less" "one_less" (top 33) "emacs.numprims" (nat_lit 657) 368)) :: (nat_lit 373, (Obj.mk (.type "code") none (.fields #[.str "are_chained" (nat_lit 721), .str "are_chained" (nat_lit 722), .str "/claim/cut.py" (nat_lit 723), .int 156 (nat_lit 0), .int 2 (nat_lit 0), .int 0 (nat_lit 0), .int 0 (nat_lit 0), .int 3 (nat_lit 0), .ref (nat_lit 370), .bool true, .int 181 (nat_lit 0), .ref (nat_lit 371), .none, .none, .none, .ref (nat_lit 372), .int 724 (nat_lit 0), .int 156 (nat_lit 0), .str "/claim/cut.py" (nat_lit 725)]) #[])) :: (nat_lit 374, (fb "are_chained" "are_chained" (top 34) "emacs.numprims" (nat_lit 657) 373)) :: (nat_lit 380, (co "less" (nat_lit 727) "less" (nat_lit 728) (nat_lit 729) 162 2 3 (nat_lit 375) true 181 (nat_lit 376) (nat_lit 377) (nat_lit 378) (nat_lit 379) 732 162 (nat_lit 733))) :: (nat_lit 381, (fb "less" "less" (top 35) "emacs.numprims" (nat_lit 657) 380)) :: (nat_lit 387, (co "at_most" (nat_lit 735) "at_most" (nat_lit 736) (nat_lit 737) 164 2 3 (nat_lit 382) true 181 (nat_lit 383) (nat_lit 384) (nat_lit 385) (nat_lit 386) 740 164 (nat_lit 741))) :: (nat_lit 388, (fb "at_most" "at_most" (top 36) "emacs.numprims" (nat_lit 657) 387)) :: (nat_lit 394, (co "alike" (nat_lit 743) "alike" (nat_lit 744) (nat_lit 745) 166 2 3 (nat_lit 389) true 181 (nat_lit 390) (nat_lit 391) (nat_lit 392) (nat_lit 393) 748 166 (nat_lit 749))) :: (nat_lit 395, (fb "alike" "alike" (top 37) "emacs.numprims" (nat_lit 657) 394)) :: (nat_lit 399, (Obj.mk (.type "code") none (.fields #[.str "greatest" (nat_lit 751), .str "greatest" (nat_lit 752), .str "/claim/cut.py" (nat_lit 753), .int 168 (nat_lit 0), .int 2 (nat_lit 0), .int 0 (nat_lit 0), .int 0 (nat_lit 0), .int 3 (nat_lit 0), .ref (nat_lit 396), .bool true, .int 181 (nat_lit 0), .ref (nat_lit 397), .none, .none, .none, .ref (nat_lit 398), .int 754 (nat_lit 0), .int 168 (nat_lit 0), .str "/claim/cut.py" (nat_lit 755)]) #[])) :: (nat_lit 400, (fb "greatest" "greatest" (top 38) "emacs.numprims" (nat_lit 657) 399)) :: (nat_lit 404, (Obj.mk (.type "code") none (.fields #[.str "least_of" (nat_lit 757), .str "least_of" (nat_lit 758), .str "/claim/cut.py" (nat_lit 759), .int 170 (nat_lit 0), .int 2 (nat_lit 0), .int 0 (nat_lit 0), .int 0 (nat_lit 0), .int 3 (nat_lit 0), .ref (nat_lit 401), .bool true, .int 181 (nat_lit 0), .ref (nat_lit 402), .none, .none, .none, .ref (nat_lit 403), .int 760 (nat_lit 0), .int 170 (nat_lit 0), .str "/claim/cut.py" (nat_lit 761)]) #[])) :: (nat_lit 405, (fb "least_of" "least_of" (top 39) "emacs.numprims" (nat_lit 657) 404)) :: (nat_lit 411, (co "is_number" (nat_lit 763) "is_number" (nat_lit 764) (nat_lit 765) 172 2 3 (nat_lit 406) true 181 (nat_lit 407) (nat_lit 408) (nat_lit 409) (nat_lit 410) 768 172 (nat_lit 769))) :: (nat_lit 412, (fb "is_number" "is_number" (top 40) "emacs.numprims" (nat_lit 657) 411)) :: (nat_lit 425, (co "__init__" (nat_lit 787) "Cells.__init__" (nat_lit 788) (nat_lit 789) 178 1 3 (nat_lit 420) true 181 (nat_lit 421) (nat_lit 422) (nat_lit 423) (nat_lit 424) 791 178 (nat_lit 792))) :: (nat_lit 426, (fb "__init__" "Cells.__init__" (mth 43 0) "emacs.cells" (nat_lit 771) 425)) :: (nat_lit 432, (co "function_of" (nat_lit 794) "Cells.function_of" (nat_lit 795) (nat_lit 796) 182 2 3 (nat_lit 427) true 181 (nat_lit 428) (nat_lit 429) (nat_lit 430) (nat_lit 431) 799 182 (nat_lit 800))) :: (nat_lit 433, (fb "function_of" "Cells.function_of" (mth 43 1) "emacs.cells" (nat_lit 771) 432)) :: (nat_lit 439, (co "is_defined" (nat_lit 802) "Cells.is_defined" (nat_lit 803) (nat_lit 804) 185 2 3 (nat_lit 434) true 181 (nat_lit 435) (nat_lit 436) (nat_lit 437) (nat_lit 438) 807 185 (nat_lit 808))) :: (nat_lit 440, (fb "is_defined" "Cells.is_defined" (mth 43 2) "emacs.cells" (nat_lit 771) 439)) :: (nat_lit 446, (co "set_function" (nat_lit 810) "Cells.set_function" (nat_lit 811) (nat_lit 812) 188 3 3 (nat_lit 441) true 181 (nat_lit 442) (nat_lit 443) (nat_lit 444) (nat_lit 445) 817 188 (nat_lit 818))) :: (nat_lit 447, (fb "set_function" "Cells.set_function" (mth 43 3) "emacs.cells" (nat_lit 771) 446)) :: (nat_lit 453, (co "indirect_function" (nat_lit 820) "Cells.indirect_function" (nat_lit 821) (nat_lit 822) 198 2 3 (nat_lit 448) true 181 (nat_lit 449) (nat_lit 450) (nat_lit 451) (nat_lit 452) 825 198 (nat_lit 826))) :: (nat_lit 454, (fb "indirect_function" "Cells.indirect_function" (mth 43 4) "emacs.cells" (nat_lit 771) 453)) :: (nat_lit 460, (co "plist_of" (nat_lit 828) "Cells.plist_of" (nat_lit 829) (nat_lit 830) 201 2 3 (nat_lit 455) true 181 (nat_lit 456) (nat_lit 457) (nat_lit 458) (nat_lit 459) 833 201 (nat_lit 834))) :: (nat_lit 461, (fb "plist_of" "Cells.plist_of" (mth 43 5) "emacs.cells" (nat_lit 771) 460)) :: (nat_lit 467, (co "set_plist" (nat_lit 836) "Cells.set_plist" (nat_lit 837) (nat_lit 838) 204 3 3 (nat_lit 462) true 181 (nat_lit 463) (nat_lit 464) (nat_lit 465) (nat_lit 466) 842 204 (nat_lit 843))) :: (nat_lit 468, (fb "set_plist" "Cells.set_plist" (mth 43 6) "emacs.cells" (nat_lit 771) 467)) :: (nat_lit 474, (co "place_of" (nat_lit 845) "Cells.place_of" (nat_lit 846) (nat_lit 847) 207 3 3 (nat_lit 469) true 181 (nat_lit 470) (nat_lit 471) (nat_lit 472) (nat_lit 473) 853 207 (nat_lit 854))) :: (nat_lit 475, (fb "place_of" "Cells.place_of" (mth 43 7) "emacs.cells" (nat_lit 771) 474)) :: (nat_lit 481, (co "get" (nat_lit 856) "Cells.get" (nat_lit 857) (nat_lit 858) 219 3 3 (nat_lit 476) true 181 (nat_lit 477) (nat_lit 478) (nat_lit 479) (nat_lit 480) 863 219 (nat_lit 864))) :: (nat_lit 482, (fb "get" "Cells.get" (mth 43 8) "emacs.cells" (nat_lit 771) 481)) :: (nat_lit 488, (co "put" (nat_lit 866) "Cells.put" (nat_lit 867) (nat_lit 868) 223 4 3 (nat_lit 483) true 181 (nat_lit 484) (nat_lit 485) (nat_lit 486) (nat_lit 487) 873 223 (nat_lit 874))) :: (nat_lit 489, (fb "put" "Cells.put" (mth 43 9) "emacs.cells" (nat_lit 771) 488)) :: (nat_lit 491, (di #[(en P "__module__" (nat_lit 782) (.str "emacs.cells" (nat_lit 771))), (en P "__firstlineno__" (nat_lit 786) (.int 176 (nat_lit 785))), (en P "__init__" (nat_lit 793) (.ref 426)), (en P "function_of" (nat_lit 801) (.ref 433)), (en P "is_defined" (nat_lit 809) (.ref 440)), (en P "set_function" (nat_lit 819) (.ref 447)), (en P "indirect_function" (nat_lit 827) (.ref 454)), (en P "plist_of" (nat_lit 835) (.ref 461)), (en P "set_plist" (nat_lit 844) (.ref 468)), (en P "place_of" (nat_lit 855) (.ref 475)), (en P "get" (nat_lit 865) (.ref 482)), (en P "put" (nat_lit 875) (.ref 489)), (en P "__static_attributes__" (nat_lit 878) (.ref 490)), (en P "__dict__" (nat_lit 880) (.ref 493)), (en P "__weakref__" (nat_lit 882) (.ref 494)), (en P "__doc__" (nat_lit 883) .none)] 4)) :: (nat_lit 492, (Obj.mk (.type "type") none (.cls (ClassData.mk "Cells" [(.type "object")] [(.ref 492), .type "object"] 491 "Cells" true [] [] false none false)) #[none, none, (some (.str "Cells" (nat_lit 775))), (some (.str "Cells" (nat_lit 783))), (some (.builtin "object.__new__")), (some (.bool true))])) :: (nat_lit 493, (Obj.mk (.type "getset_descriptor") none (.fields #[.str "__dict__" (nat_lit 879), .ref (nat_lit 492), .builtin "function.__dict__", .builtin "function.__dict__#set"]) #[])) :: (nat_lit 494, (Obj.mk (.type "getset_descriptor") none (.fields #[.str "__weakref__" (nat_lit 881), .ref (nat_lit 492), .builtin "ExceptionGroup.__weakref__", .none]) #[])) :: (nat_lit 509, (co "__init__" (nat_lit 900) "Obarray.__init__" (nat_lit 901) (nat_lit 902) 228 1 3 (nat_lit 504) true 181 (nat_lit 505) (nat_lit 506) (nat_lit 507) (nat_lit 508) 904 228 (nat_lit 905))) :: (nat_lit 510, (fb "__init__" "Obarray.__init__" (mth 45 0) "emacs.obarray" (nat_lit 886) 509)) :: (nat_lit 516, (co "intern" (nat_lit 907) "Obarray.intern" (nat_lit 908) (nat_lit 909) 232 2 3 (nat_lit 511) true 181 (nat_lit 512) (nat_lit 513) (nat_lit 514) (nat_lit 515) 913 232 (nat_lit 914))) :: (nat_lit 517, (fb "intern" "Obarray.intern" (mth 45 1) "emacs.obarray" (nat_lit 886) 516)) :: (nat_lit 523, (co "soft" (nat_lit 916) "Obarray.soft" (nat_lit 917) (nat_lit 918) 239 2 3 (nat_lit 518) true 181 (nat_lit 519) (nat_lit 520) (nat_lit 521) (nat_lit 522) 921 239 (nat_lit 922))) :: (nat_lit 524, (fb "soft" "Obarray.soft" (mth 45 2) "emacs.obarray" (nat_lit 886) 523)) :: (nat_lit 530, (co "fresh" (nat_lit 924) "Obarray.fresh" (nat_lit 925) (nat_lit 926) 242 2 3 (nat_lit 525) true 181 (nat_lit 526) (nat_lit 527) (nat_lit 528) (nat_lit 529) 930 242 (nat_lit 931))) :: (nat_lit 531, (fb "fresh" "Obarray.fresh" (mth 45 3) "emacs.obarray" (nat_lit 886) 530)) :: (nat_lit 537, (co "by_number" (nat_lit 933) "Obarray.by_number" (nat_lit 934) (nat_lit 935) 247 2 3 (nat_lit 532) true 181 (nat_lit 533) (nat_lit 534) (nat_lit 535) (nat_lit 536) 938 247 (nat_lit 939))) :: (nat_lit 538, (fb "by_number" "Obarray.by_number" (mth 45 4) "emacs.obarray" (nat_lit 886) 537)) :: (nat_lit 544, (co "is_interned" (nat_lit 941) "Obarray.is_interned" (nat_lit 942) (nat_lit 943) 250 2 3 (nat_lit 539) true 181 (nat_lit 540) (nat_lit 541) (nat_lit 542) (nat_lit 543) 946 250 (nat_lit 947))) :: (nat_lit 545, (fb "is_interned" "Obarray.is_interned" (mth 45 5) "emacs.obarray" (nat_lit 886) 544)) :: (nat_lit 551, (co "unintern" (nat_lit 949) "Obarray.unintern" (nat_lit 950) (nat_lit 951) 253 2 3 (nat_lit 546) true 181 (nat_lit 547) (nat_lit 548) (nat_lit 549) (nat_lit 550) 954 253 (nat_lit 955))) :: (nat_lit 552, (fb "unintern" "Obarray.unintern" (mth 45 6) "emacs.obarray" (nat_lit 886) 551)) :: (nat_lit 558, (co "all_names" (nat_lit 957) "Obarray.all_names" (nat_lit 958) (nat_lit 959) 256 1 3 (nat_lit 553) true 181 (nat_lit 554) (nat_lit 555) (nat_lit 556) (nat_lit 557) 961 256 (nat_lit 962))) :: (nat_lit 559, (fb "all_names" "Obarray.all_names" (mth 45 7) "emacs.obarray" (nat_lit 886) 558)) :: (nat_lit 565, (co "size" (nat_lit 964) "Obarray.size" (nat_lit 965) (nat_lit 966) 259 1 3 (nat_lit 560) true 181 (nat_lit 561) (nat_lit 562) (nat_lit 563) (nat_lit 564) 968 259 (nat_lit 969))) :: (nat_lit 566, (fb "size" "Obarray.size" (mth 45 8) "emacs.obarray" (nat_lit 886) 565)) :: (nat_lit 568, (di #[(en P "__module__" (nat_lit 895) (.str "emacs.obarray" (nat_lit 886))), (en P "__firstlineno__" (nat_lit 899) (.int 226 (nat_lit 898))), (en P "__init__" (nat_lit 906) (.ref 510)), (en P "intern" (nat_lit 915) (.ref 517)), (en P "soft" (nat_lit 923) (.ref 524)), (en P "fresh" (nat_lit 932) (.ref 531)), (en P "by_number" (nat_lit 940) (.ref 538)), (en P "is_interned" (nat_lit 948) (.ref 545)), (en P "unintern" (nat_lit 956) (.ref 552)), (en P "all_names" (nat_lit 963) (.ref 559)), (en P "size" (nat_lit 970) (.ref 566)), (en P "__static_attributes__" (nat_lit 973) (.ref 567)), (en P "__dict__" (nat_lit 975) (.ref 570)), (en P "__weakref__" (nat_lit 977) (.ref 571)), (en P "__doc__" (nat_lit 978) .none)] 4)) :: (nat_lit 569, (Obj.mk (.type "type") none (.cls (ClassData.mk "Obarray" [(.type "object")] [(.ref 569), .type "object"] 568 "Obarray" true [] [] false none false)) #[none, none, (some (.str "Obarray" (nat_lit 888))), (some (.str "Obarray" (nat_lit 896))), (some (.builtin "object.__new__")), (some (.bool true))])) :: (nat_lit 570, (Obj.mk (.type "getset_descriptor") none (.fields #[.str "__dict__" (nat_lit 974), .ref (nat_lit 569), .builtin "function.__dict__", .builtin "function.__dict__#set"]) #[])) :: (nat_lit 571, (Obj.mk (.type "getset_descriptor") none (.fields #[.str "__weakref__" (nat_lit 976), .ref (nat_lit 569), .builtin "ExceptionGroup.__weakref__", .none]) #[])) :: (nat_lit 586, (co "__init__" (nat_lit 995) "Variables.__init__" (nat_lit 996) (nat_lit 997) 264 1 3 (nat_lit 581) true 181 (nat_lit 582) (nat_lit 583) (nat_lit 584) (nat_lit 585) 999 264 (nat_lit 1000))) :: (nat_lit 587, (fb "__init__" "Variables.__init__" (mth 47 0) "emacs.variables" (nat_lit 981) 586)) :: (nat_lit 593, (co "default_value" (nat_lit 1002) "Variables.default_value" (nat_lit 1003) (nat_lit 1004) 269 2 3 (nat_lit 588) true 181 (nat_lit 589) (nat_lit 590) (nat_lit 591) (nat_lit 592) 1007 269 (nat_lit 1008))) :: (nat_lit 594, (fb "default_value" "Variables.default_value" (mth 47 1) "emacs.variables" (nat_lit 981) 593)) :: (nat_lit 600, (co "set_default" (nat_lit 1010) "Variables.set_default" (nat_lit 1011) (nat_lit 1012) 272 3 3 (nat_lit 595) true 181 (nat_lit 596) (nat_lit 597) (nat_lit 598) (nat_lit 599) 1016 272 (nat_lit 1017))) :: (nat_lit 601, (fb "set_default" "Variables.set_default" (mth 47 2) "emacs.variables" (nat_lit 981) 600)) :: (nat_lit 607, (co "make_automatic" (nat_lit 1019) "Variables.make_automatic" (nat_lit 1020) (nat_lit 1021) 275 3 3 (nat_lit 602) true 181 (nat_lit 603) (nat_lit 604) (nat_lit 605) (nat_lit 606) 1025 275 (nat_lit 1026))) :: (nat_lit 608, (fb "make_automatic" "Variables.make_automatic" (mth 47 3) "emacs.variables" (nat_lit 981) 607)) :: (nat_lit 614, (co "make_permanent" (nat_lit 1028) "Variables.make_permanent" (nat_lit 1029) (nat_lit 1030) 278 3 3 (nat_lit 609) true 181 (nat_lit 610) (nat_lit 611) (nat_lit 612) (nat_lit 613) 1034 278 (nat_lit 1035))) :: (nat_lit 615, (fb "make_permanent" "Variables.make_permanent" (mth 47 4) "emacs.variables" (nat_lit 981) 614)) :: (nat_lit 621, (co "is_automatic" (nat_lit 1037) "Variables.is_automatic" (nat_lit 1038) (nat_lit 1039) 281 2 3 (nat_lit 616) true 181 (nat_lit 617) (nat_lit 618) (nat_lit 619) (nat_lit 620) 1042 281 (nat_lit 1043))) :: (nat_lit 622, (fb "is_automatic" "Variables.is_automatic" (mth 47 5) "emacs.variables" (nat_lit 981) 621)) :: (nat_lit 628, (co "is_permanent" (nat_lit 1045) "Variables.is_permanent" (nat_lit 1046) (nat_lit 1047) 284 2 3 (nat_lit 623) true 181 (nat_lit 624) (nat_lit 625) (nat_lit 626) (nat_lit 627) 1050 284 (nat_lit 1051))) :: (nat_lit 629, (fb "is_permanent" "Variables.is_permanent" (mth 47 6) "emacs.variables" (nat_lit 981) 628)) :: (nat_lit 631, (di #[(en P "__module__" (nat_lit 990) (.str "emacs.variables" (nat_lit 981))), (en P "__firstlineno__" (nat_lit 994) (.int 262 (nat_lit 993))), (en P "__init__" (nat_lit 1001) (.ref 587)), (en P "default_value" (nat_lit 1009) (.ref 594)), (en P "set_default" (nat_lit 1018) (.ref 601)), (en P "make_automatic" (nat_lit 1027) (.ref 608)), (en P "make_permanent" (nat_lit 1036) (.ref 615)), (en P "is_automatic" (nat_lit 1044) (.ref 622)), (en P "is_permanent" (nat_lit 1052) (.ref 629)), (en P "__static_attributes__" (nat_lit 1056) (.ref 630)), (en P "__dict__" (nat_lit 1058) (.ref 633)), (en P "__weakref__" (nat_lit 1060) (.ref 634)), (en P "__doc__" (nat_lit 1061) .none)] 4)) :: (nat_lit 632, (Obj.mk (.type "type") none (.cls (ClassData.mk "Variables" [(.type "object")] [(.ref 632), .type "object"] 631 "Variables" true [] [] false none false)) #[none, none, (some (.str "Variables" (nat_lit 983))), (some (.str "Variables" (nat_lit 991))), (some (.builtin "object.__new__")), (some (.bool true))])) :: (nat_lit 633, (Obj.mk (.type "getset_descriptor") none (.fields #[.str "__dict__" (nat_lit 1057), .ref (nat_lit 632), .builtin "function.__dict__", .builtin "function.__dict__#set"]) #[])) :: (nat_lit 634, (Obj.mk (.type "getset_descriptor") none (.fields #[.str "__weakref__" (nat_lit 1059), .ref (nat_lit 632), .builtin "ExceptionGroup.__weakref__", .none]) #[])) :: (nat_lit 649, (co "__init__" (nat_lit 1076) "Locals.__init__" (nat_lit 1077) (nat_lit 1078) 288 1 3 (nat_lit 644) true 181 (nat_lit 645) (nat_lit 646) (nat_lit 647) (nat_lit 648) 1080 288 (nat_lit 1081))) :: (nat_lit 650, (fb "__init__" "Locals.__init__" (mth 48 0) "emacs.variables" (nat_lit 981) 649)) :: (nat_lit 656, (co "is_local" (nat_lit 1083) "Locals.is_local" (nat_lit 1084) (nat_lit 1085) 291 2 3 (nat_lit 651) true 181 (nat_lit 652) (nat_lit 653) (nat_lit 654) (nat_lit 655) 1088 291 (nat_lit 1089))) :: (nat_lit 657, (fb "is_local" "Locals.is_local" (mth 48 1) "emacs.variables" (nat_lit 981) 656)) :: (nat_lit 663, (co "names" (nat_lit 1091) "Locals.names" (nat_lit 1092) (nat_lit 1093) 294 1 3 (nat_lit 658) true 181 (nat_lit 659) (nat_lit 660) (nat_lit 661) (nat_lit 662) 1095 294 (nat_lit 1096))) :: (nat_lit 664, (fb "names" "Locals.names" (mth 48 2) "emacs.variables" (nat_lit 981) 663)) :: (nat_lit 670, (co "make_local" (nat_lit 1098) "Locals.make_local" (nat_lit 1099) (nat_lit 1100) 297 3 3 (nat_lit 665) true 181 (nat_lit 666) (nat_lit 667) (nat_lit 668) (nat_lit 669) 1104 297 (nat_lit 1105))) :: (nat_lit 671, (fb "make_local" "Locals.make_local" (mth 48 3) "emacs.variables" (nat_lit 981) 670)) :: (nat_lit 677, (co "kill" (nat_lit 1107) "Locals.kill" (nat_lit 1108) (nat_lit 1109) 300 2 3 (nat_lit 672) true 181 (nat_lit 673) (nat_lit 674) (nat_lit 675) (nat_lit 676) 1112 300 (nat_lit 1113))) :: (nat_lit 678, (fb "kill" "Locals.kill" (mth 48 4) "emacs.variables" (nat_lit 981) 677)) :: (nat_lit 684, (co "kill_all" (nat_lit 1115) "Locals.kill_all" (nat_lit 1116) (nat_lit 1117) 303 2 3 (nat_lit 679) true 181 (nat_lit 680) (nat_lit 681) (nat_lit 682) (nat_lit 683) 1120 303 (nat_lit 1121))) :: (nat_lit 685, (fb "kill_all" "Locals.kill_all" (mth 48 5) "emacs.variables" (nat_lit 981) 684)) :: (nat_lit 687, (di #[(en P "__module__" (nat_lit 1071) (.str "emacs.variables" (nat_lit 981))), (en P "__firstlineno__" (nat_lit 1075) (.int 286 (nat_lit 1074))), (en P "__init__" (nat_lit 1082) (.ref 650)), (en P "is_local" (nat_lit 1090) (.ref 657)), (en P "names" (nat_lit 1097) (.ref 664)), (en P "make_local" (nat_lit 1106) (.ref 671)), (en P "kill" (nat_lit 1114) (.ref 678)), (en P "kill_all" (nat_lit 1122) (.ref 685)), (en P "__static_attributes__" (nat_lit 1124) (.ref 686)), (en P "__dict__" (nat_lit 1126) (.ref 689)), (en P "__weakref__" (nat_lit 1128) (.ref 690)), (en P "__doc__" (nat_lit 1129) .none)] 4)) :: (nat_lit 688, (Obj.mk (.type "type") none (.cls (ClassData.mk "Locals" [(.type "object")] [(.ref 688), .type "object"] 687 "Locals" true [] [] false none false)) #[none, none, (some (.str "Locals" (nat_lit 1064))), (some (.str "Locals" (nat_lit 1072))), (some (.builtin "object.__new__")), (some (.bool true))])) :: (nat_lit 689, (Obj.mk (.type "getset_descriptor") none (.fields #[.str "__dict__" (nat_lit 1125), .ref (nat_lit 688), .builtin "function.__dict__", .builtin "function.__dict__#set"]) #[])) :: (nat_lit 690, (Obj.mk (.type "getset_descriptor") none (.fields #[.str "__weakref__" (nat_lit 1127), .ref (nat_lit 688), .builtin "ExceptionGroup.__weakref__", .none]) #[])) :: (nat_lit 705, (co "__init__" (nat_lit 1146) "World.__init__" (nat_lit 1147) (nat_lit 1148) 308 1 3 (nat_lit 700) true 181 (nat_lit 701) (nat_lit 702) (nat_lit 703) (nat_lit 704) 1150 308 (nat_lit 1151))) :: (nat_lit 706, (fb "__init__" "World.__init__" (mth 50 0) "emacs.world" (nat_lit 1132) 705)) :: (nat_lit 712, (co "symbol" (nat_lit 1153) "World.symbol" (nat_lit 1154) (nat_lit 1155) 317 2 3 (nat_lit 707) true 181 (nat_lit 708) (nat_lit 709) (nat_lit 710) (nat_lit 711) 1158 317 (nat_lit 1159))) :: (nat_lit 713, (fb "symbol" "World.symbol" (mth 50 1) "emacs.world" (nat_lit 1132) 712)) :: (nat_lit 719, (co "own" (nat_lit 1161) "World.own" (nat_lit 1162) (nat_lit 1163) 320 1 3 (nat_lit 714) true 181 (nat_lit 715) (nat_lit 716) (nat_lit 717) (nat_lit 718) 1165 320 (nat_lit 1166))) :: (nat_lit 720, (fb "own" "World.own" (mth 50 2) "emacs.world" (nat_lit 1132) 719)) :: (nat_lit 726, (co "fresh_marker" (nat_lit 1168) "World.fresh_marker" (nat_lit 1169) (nat_lit 1170) 325 1 3 (nat_lit 721) true 181 (nat_lit 722) (nat_lit 723) (nat_lit 724) (nat_lit 725) 1172 325 (nat_lit 1173))) :: (nat_lit 727, (fb "fresh_marker" "World.fresh_marker" (mth 50 3) "emacs.world" (nat_lit 1132) 726)) :: (nat_lit 733, (co "put_functions" (nat_lit 1175) "World.put_functions" (nat_lit 1176) (nat_lit 1177) 328 2 3 (nat_lit 728) true 181 (nat_lit 729) (nat_lit 730) (nat_lit 731) (nat_lit 732) 1180 328 (nat_lit 1181))) :: (nat_lit 734, (fb "put_functions" "World.put_functions" (mth 50 4) "emacs.world" (nat_lit 1132) 733)) :: (nat_lit 736, (di #[(en P "__module__" (nat_lit 1141) (.str "emacs.world" (nat_lit 1132))), (en P "__firstlineno__" (nat_lit 1145) (.int 306 (nat_lit 1144))), (en P "__init__" (nat_lit 1152) (.ref 706)), (en P "symbol" (nat_lit 1160) (.ref 713)), (en P "own" (nat_lit 1167) (.ref 720)), (en P "fresh_marker" (nat_lit 1174) (.ref 727)), (en P "put_functions" (nat_lit 1182) (.ref 734)), (en P "__static_attributes__" (nat_lit 1190) (.ref 735)), (en P "__dict__" (nat_lit 1192) (.ref 738)), (en P "__weakref__" (nat_lit 1194) (.ref 739)), (en P "__doc__" (nat_lit 1195) .none)] 4)) :: (nat_lit 737, (Obj.mk (.type "type") none (.cls (ClassData.mk "World" [(.type "object")] [(.ref 737), .type "object"] 736 "World" true [] [] false none false)) #[none, none, (some (.str "World" (nat_lit 1134))), (some (.str "World" (nat_lit 1142))), (some (.builtin "object.__new__")), (some (.bool true))])) :: (nat_lit 738, (Obj.mk (.type "getset_descriptor") none (.fields #[.str "__dict__" (nat_lit 1191), .ref (nat_lit 737), .builtin "function.__dict__", .builtin "function.__dict__#set"]) #[])) :: (nat_lit 739, (Obj.mk (.type "getset_descriptor") none (.fields #[.str "__weakref__" (nat_lit 1193), .ref (nat_lit 737), .builtin "ExceptionGroup.__weakref__", .none]) #[])) :: (nat_lit 745, (Obj.mk (.type "code") none (.fields #[.str "_law_pot" (nat_lit 1200), .str "_law_pot" (nat_lit 1201), .str "/claim/cut.py" (nat_lit 1202), .int 331 (nat_lit 0), .int 1 (nat_lit 0), .int 0 (nat_lit 0), .int 0 (nat_lit 0), .int 3 (nat_lit 0), .ref (nat_lit 742), .bool true, .int 181 (nat_lit 0), .ref (nat_lit 743), .none, .none, .none, .ref (nat_lit 744), .int 1203 (nat_lit 0), .int 331 (nat_lit 0), .str "/claim/cut.py" (nat_lit 1204)]) #[])) :: (nat_lit 746, (fb "_law_pot" "_law_pot" (top 52) "law_oj0029_01" (nat_lit 1198) 745)) :: (nat_lit 752, (co "_law_dip" (nat_lit 1206) "_law_dip" (nat_lit 1207) (nat_lit 1208) 334 2 3 (nat_lit 747) true 181 (nat_lit 748) (nat_lit 749) (nat_lit 750) (nat_lit 751) 1212 334 (nat_lit 1213))) :: (nat_lit 753, (fb "_law_dip" "_law_dip" (top 53) "law_oj0029_01" (nat_lit 1198) 752)) :: (nat_lit 759, (co "_law_world" (nat_lit 1215) "_law_world" (nat_lit 1216) (nat_lit 1217) 341 0 3 (nat_lit 754) true 181 (nat_lit 755) (nat_lit 756) (nat_lit 757) (nat_lit 758) 1222 341 (nat_lit 1223))) :: (nat_lit 760, (fb "_law_world" "_law_world" (top 54) "law_oj0029_01" (nat_lit 1198) 759)) :: (nat_lit 766, (co "_law_lines" (nat_lit 1225) "_law_lines" (nat_lit 1226) (nat_lit 1227) 348 2 3 (nat_lit 761) true 181 (nat_lit 762) (nat_lit 763) (nat_lit 764) (nat_lit 765) 1236 348 (nat_lit 1237))) :: (nat_lit 767, (fb "_law_lines" "_law_lines" (top 55) "law_oj0029_01" (nat_lit 1198) 766)) :: (nat_lit 773, (co "_law_two" (nat_lit 1239) "_law_two" (nat_lit 1240) (nat_lit 1241) 367 3 3 (nat_lit 768) true 181 (nat_lit 769) (nat_lit 770) (nat_lit 771) (nat_lit 772) 1245 367 (nat_lit 1246))) :: (nat_lit 774, (fb "_law_two" "_law_two" (top 56) "law_oj0029_01" (nat_lit 1198) 773)) :: (nat_lit 778, (Obj.mk (.type "code") none (.fields #[.str "_law_called" (nat_lit 1248), .str "_law_called" (nat_lit 1249), .str "/claim/cut.py" (nat_lit 1250), .int 373 (nat_lit 0), .int 2 (nat_lit 0), .int 0 (nat_lit 0), .int 0 (nat_lit 0), .int 3 (nat_lit 0), .ref (nat_lit 775), .bool true, .int 181 (nat_lit 0), .ref (nat_lit 776), .none, .none, .none, .ref (nat_lit 777), .int 1251 (nat_lit 0), .int 373 (nat_lit 0), .str "/claim/cut.py" (nat_lit 1252)]) #[])) :: (nat_lit 779, (fb "_law_called" "_law_called" (top 57) "law_oj0029_01" (nat_lit 1198) 778)) :: (nat_lit 783, (Obj.mk (.type "code") none (.fields #[.str "_law_run" (nat_lit 1254), .str "_law_run" (nat_lit 1255), .str "/claim/cut.py" (nat_lit 1256), .int 383 (nat_lit 0), .int 2 (nat_lit 0), .int 0 (nat_lit 0), .int 0 (nat_lit 0), .int 3 (nat_lit 0), .ref (nat_lit 780), .bool true, .int 181 (nat_lit 0), .ref (nat_lit 781), .none, .none, .none, .ref (nat_lit 782), .int 1257 (nat_lit 0), .int 383 (nat_lit 0), .str "/claim/cut.py" (nat_lit 1258)]) #[])) :: (nat_lit 784, (fb "_law_run" "_law_run" (top 58) "law_oj0029_01" (nat_lit 1198) 783)) :: (nat_lit 788, (Obj.mk (.type "code") none (.fields #[.str "_law_is_left" (nat_lit 1260), .str "_law_is_left" (nat_lit 1261), .str "/claim/cut.py" (nat_lit 1262), .int 398 (nat_lit 0), .int 2 (nat_lit 0), .int 0 (nat_lit 0), .int 0 (nat_lit 0), .int 3 (nat_lit 0), .ref (nat_lit 785), .bool true, .int 181 (nat_lit 0), .ref (nat_lit 786), .none, .none, .none, .ref (nat_lit 787), .int 1263 (nat_lit 0), .int 398 (nat_lit 0), .str "/claim/cut.py" (nat_lit 1264)]) #[])) :: (nat_lit 789, (fb "_law_is_left" "_law_is_left" (top 59) "law_oj0029_01" (nat_lit 1198) 788)) :: (nat_lit 795, (co "law" (nat_lit 1266) "law" (nat_lit 1267) (nat_lit 1268) 408 1 3 (nat_lit 790) true 181 (nat_lit 791) (nat_lit 792) (nat_lit 793) (nat_lit 794) 1276 408 (nat_lit 1277))) :: (nat_lit 796, (fb "law" "law" (top 60) "law_oj0029_01" (nat_lit 1198) 795)) :: []
noncomputable def env1 : Env := { scope := pw.main.scope, locals := mainNs, globals := mainNs, cells := [], code := .ref 13, frame := some 14 }
abbrev cd1 : Code := .body (behindTheImports pw) env1
abbrev p0 : Pos := ⟨0, 0, 0, 0⟩
abbrev p9 : Pos := ⟨408, 0, 415, 51⟩
theorem r_pre (w : World) (os : OsState) : topGo treeTable pw w 11 (some (.ref 6)) 12 ⟨boot_heap w.params, #[], boot_drawn, boot_toks, os⟩ (topStub pw) =
    some (⟨Sa w.params, #[], {}, 187, os⟩, ⟨denote treeTable cd1, cd1, p0, [topFrame p0]⟩) := by
  rewrite [PySem.W.Fast.te15667345088766844465, PySem.W.Fast.te14364793385576792824, PySem.W.Fast.te11892475500146522536]
  kernel_rfl
theorem r_block (w : World) (os : OsState) : segRun treeTable pw w 11 (some (.ref 6)) 1 1 ⟨Sa w.params, #[], {}, 187, os⟩ (blockOf (behindTheImports pw) env1 cd1 p0 [topFrame p0]) =
    some (.next, (⟨T0 w.params, 15, {}, #[], {}, 187, os⟩ : SharedT).abs, cd1, p0) := by
  rewrite [PySem.W.Fast.te14374325043358763698, PySem.W.Fast.te14364793385576792824]
  kernel_rfl
noncomputable def cutT (n : Nat) (T : BT) : Nat → Nat → BT := BT.rec (motive := fun _ => Nat → Nat → BT) (fun _ _ => .nil) (fun o _ _ il ir a b => cond (Nat.blt b n) (.node o (il (Nat.mul 2 a) (Nat.add a b)) (ir (Nat.mul 2 a) (Nat.add (Nat.mul 2 a) b))) .nil) T
abbrev Lb : List Stmt := behindTheImports pw
noncomputable def Tm1 (P : Params) : BT := (((cutT (nat_lit 150) (T1 P) (nat_lit 1) (nat_lit 0)).set (nat_lit 3) fun _ => (di #[(en P "__name__" (nat_lit 165) (.str "emacs.objects" (nat_lit 336))), (en P "__doc__" (nat_lit 166) .none), (en P "__package__" (nat_lit 167) .none), (en P "__loader__" (nat_lit 168) (.builtin "__main__.__loader__#opaque")), (en P "__spec__" (nat_lit 169) .none), (en P "__annotations__" (nat_lit 170) (.ref 6)), (en P "__builtins__" (nat_lit 171) (.ref 4)), (en P "__file__" (nat_lit 173) (.str "/claim/cut.py" (nat_lit 172))), (en P "__cached__" (nat_lit 174) .none), (en P "_wall" (nat_lit 193) (.ref 21)), (en P "PLAIN_FUNCTIONS" (nat_lit 286) (.ref 67)), (en P "plain_index" (nat_lit 296) (.ref 74)), (en P "pure_names" (nat_lit 302) (.ref 81)), (en P "LispSignal" (nat_lit 335) (.ref 98)), (en P "Symbol" (nat_lit 368) (.ref 118)), (en P "NIL" (nat_lit 378) (.ref 124)), (en P "T" (nat_lit 388) (.ref 127)), (en P "Cons" (nat_lit 419) (.ref 145))] 18)).set (nat_lit 12) fun _ => (Obj.mk .none none (.fields #[.int 1 (nat_lit 0), .int 0 (nat_lit 0), .ref (nat_lit 20), .int 6 (nat_lit 0), .int 0 (nat_lit 0), .ref (nat_lit 73), .int 11 (nat_lit 0), .int 0 (nat_lit 0), .ref (nat_lit 80), .int 14 (nat_lit 0), .int 0 (nat_lit 0), .ref (nat_lit 87), .int 20 (nat_lit 0), .int 0 (nat_lit 0), .ref (nat_lit 107), .int 27 (nat_lit 0), .int 0 (nat_lit 0), .ref (nat_lit 134)]) #[]))
noncomputable def Tm2 (P : Params) : BT := ((((cutT (nat_lit 281) (T1 P) (nat_lit 1) (nat_lit 0)).set (nat_lit 3) fun _ => (di #[(en P "__name__" (nat_lit 165) (.str "emacs.markers" (nat_lit 604))), (en P "__doc__" (nat_lit 166) .none), (en P "__package__" (nat_lit 167) .none), (en P "__loader__" (nat_lit 168) (.builtin "__main__.__loader__#opaque")), (en P "__spec__" (nat_lit 169) .none), (en P "__annotations__" (nat_lit 170) (.ref 6)), (en P "__builtins__" (nat_lit 171) (.ref 4)), (en P "__file__" (nat_lit 173) (.str "/claim/cut.py" (nat_lit 172))), (en P "__cached__" (nat_lit 174) .none), (en P "_wall" (nat_lit 193) (.ref 21)), (en P "PLAIN_FUNCTIONS" (nat_lit 286) (.ref 67)), (en P "plain_index" (nat_lit 296) (.ref 74)), (en P "pure_names" (nat_lit 302) (.ref 81)), (en P "LispSignal" (nat_lit 335) (.ref 98)), (en P "Symbol" (nat_lit 368) (.ref 118)), (en P "NIL" (nat_lit 378) (.ref 124)), (en P "T" (nat_lit 388) (.ref 127)), (en P "Cons" (nat_lit 419) (.ref 145)), (en P "Subr" (nat_lit 456) (.ref 166)), (en P "Opaque" (nat_lit 498) (.ref 201)), (en P "is_whole" (nat_lit 505) (.ref 212)), (en P "boolean" (nat_lit 512) (.ref 219)), (en P "is_atom" (nat_lit 521) (.ref 226)), (en P "constants_behind" (nat_lit 527) (.ref 231)), (en P "told_value" (nat_lit 538) (.ref 238)), (en P "folded" (nat_lit 555) (.ref 245)), (en P "Constants" (nat_lit 603) (.ref 276))] 27)).set (nat_lit 12) fun _ => (Obj.mk .none none (.fields #[.int 1 (nat_lit 0), .int 0 (nat_lit 0), .ref (nat_lit 20), .int 6 (nat_lit 0), .int 0 (nat_lit 0), .ref (nat_lit 73), .int 11 (nat_lit 0), .int 0 (nat_lit 0), .ref (nat_lit 80), .int 14 (nat_lit 0), .int 0 (nat_lit 0), .ref (nat_lit 87), .int 20 (nat_lit 0), .int 0 (nat_lit 0), .ref (nat_lit 107), .int 27 (nat_lit 0), .int 0 (nat_lit 0), .ref (nat_lit 134), .int 32 (nat_lit 0), .int 0 (nat_lit 0), .ref (nat_lit 155), .int 40 (nat_lit 0), .int 0 (nat_lit 0), .ref (nat_lit 176), .int 50 (nat_lit 0), .int 0 (nat_lit 0), .ref (nat_lit 211), .int 52 (nat_lit 0), .int 0 (nat_lit 0), .ref (nat_lit 218), .int 55 (nat_lit 0), .int 0 (nat_lit 0), .ref (nat_lit 225), .int 57 (nat_lit 0), .int 0 (nat_lit 0), .ref (nat_lit 230), .int 65 (nat_lit 0), .int 0 (nat_lit 0), .ref (nat_lit 237), .int 74 (nat_lit 0), .int 0 (nat_lit 0), .ref (nat_lit 244), .int 88 (nat_lit 0), .int 0 (nat_lit 0), .ref (nat_lit 251)]) #[])).set (nat_lit 201) fun _ => (Obj.mk (.type "type") none (.cls (ClassData.mk "Opaque" [(.type "object")] [(.ref 201), .type "object"] 200 "Opaque" true [] [] false none false)) #[none, none, (some (.str "Opaque" (nat_lit 457))), (some (.str "Opaque" (nat_lit 465))), (some (.builtin "object.__new__")), (some (.bool true))]))
noncomputable def Tm3 (P : Params) : BT := (((cutT (nat_lit 413) (T1 P) (nat_lit 1) (nat_lit 0)).set (nat_lit 3) fun _ => (di #[(en P "__name__" (nat_lit 165) (.str "emacs.cells" (nat_lit 771))), (en P "__doc__" (nat_lit 166) .none), (en P "__package__" (nat_lit 167) .none), (en P "__loader__" (nat_lit 168) (.builtin "__main__.__loader__#opaque")), (en P "__spec__" (nat_lit 169) .none), (en P "__annotations__" (nat_lit 170) (.ref 6)), (en P "__builtins__" (nat_lit 171) (.ref 4)), (en P "__file__" (nat_lit 173) (.str "/claim/cut.py" (nat_lit 172))), (en P "__cached__" (nat_lit 174) .none), (en P "_wall" (nat_lit 193) (.ref 21)), (en P "PLAIN_FUNCTIONS" (nat_lit 286) (.ref 67)), (en P "plain_index" (nat_lit 296) (.ref 74)), (en P "pure_names" (nat_lit 302) (.ref 81)), (en P "LispSignal" (nat_lit 335) (.ref 98)), (en P "Symbol" (nat_lit 368) (.ref 118)), (en P "NIL" (nat_lit 378) (.ref 124)), (en P "T" (nat_lit 388) (.ref 127)), (en P "Cons" (nat_lit 419) (.ref 145)), (en P "Subr" (nat_lit 456) (.ref 166)), (en P "Opaque" (nat_lit 498) (.ref 201)), (en P "is_whole" (nat_lit 505) (.ref 212)), (en P "boolean" (nat_lit 512) (.ref 219)), (en P "is_atom" (nat_lit 521) (.ref 226)), (en P "constants_behind" (nat_lit 527) (.ref 231)), (en P "told_value" (nat_lit 538) (.ref 238)), (en P "folded" (nat_lit 555) (.ref 245)), (en P "Constants" (nat_lit 603) (.ref 276)), (en P "Marker" (nat_lit 656) (.ref 318)), (en P "WIDTH" (nat_lit 660) (.int 65536 (nat_lit 659))), (en P "number_of" (nat_lit 667) (.ref 327)), (en P "fitting" (nat_lit 674) (.ref 334)), (en P "plus" (nat_lit 684) (.ref 341)), (en P "minus" (nat_lit 694) (.ref 348)), (en P "times" (nat_lit 704) (.ref 355)), (en P "one_more" (nat_lit 712) (.ref 362)), (en P "one_less" (nat_lit 720) (.ref 369)), (en P "are_chained" (nat_lit 726) (.ref 374)), (en P "less" (nat_lit 734) (.ref 381)), (en P "at_most" (nat_lit 742) (.ref 388)), (en P "alike" (nat_lit 750) (.ref 395)), (en P "greatest" (nat_lit 756) (.ref 400)), (en P "least_of" (nat_lit 762) (.ref 405)), (en P "is_number" (nat_lit 770) (.ref 412)), (en P "MOST_PARTS" (nat_lit 774) (.int 100000 (nat_lit 773)))] 44)).set (nat_lit 12) fun _ => (Obj.mk .none none (.fields #[.int 1 (nat_lit 0), .int 0 (nat_lit 0), .ref (nat_lit 20), .int 6 (nat_lit 0), .int 0 (nat_lit 0), .ref (nat_lit 73), .int 11 (nat_lit 0), .int 0 (nat_lit 0), .ref (nat_lit 80), .int 14 (nat_lit 0), .int 0 (nat_lit 0), .ref (nat_lit 87), .int 20 (nat_lit 0), .int 0 (nat_lit 0), .ref (nat_lit 107), .int 27 (nat_lit 0), .int 0 (nat_lit 0), .ref (nat_lit 134), .int 32 (nat_lit 0), .int 0 (nat_lit 0), .ref (nat_lit 155), .int 40 (nat_lit 0), .int 0 (nat_lit 0), .ref (nat_lit 176), .int 50 (nat_lit 0), .int 0 (nat_lit 0), .ref (nat_lit 211), .int 52 (nat_lit 0), .int 0 (nat_lit 0), .ref (nat_lit 218), .int 55 (nat_lit 0), .int 0 (nat_lit 0), .ref (nat_lit 225), .int 57 (nat_lit 0), .int 0 (nat_lit 0), .ref (nat_lit 230), .int 65 (nat_lit 0), .int 0 (nat_lit 0), .ref (nat_lit 237), .int 74 (nat_lit 0), .int 0 (nat_lit 0), .ref (nat_lit 244), .int 88 (nat_lit 0), .int 0 (nat_lit 0), .ref (nat_lit 251), .int 103 (nat_lit 0), .int 0 (nat_lit 0), .ref (nat_lit 286), .int 121 (nat_lit 0), .int 0 (nat_lit 0), .ref (nat_lit 326), .int 129 (nat_lit 0), .int 0 (nat_lit 0), .ref (nat_lit 333), .int 133 (nat_lit 0), .int 0 (nat_lit 0), .ref (nat_lit 340), .int 138 (nat_lit 0), .int 0 (nat_lit 0), .ref (nat_lit 347), .int 147 (nat_lit 0), .int 0 (nat_lit 0), .ref (nat_lit 354), .int 152 (nat_lit 0), .int 0 (nat_lit 0), .ref (nat_lit 361), .int 154 (nat_lit 0), .int 0 (nat_lit 0), .ref (nat_lit 368), .int 156 (nat_lit 0), .int 0 (nat_lit 0), .ref (nat_lit 373), .int 162 (nat_lit 0), .int 0 (nat_lit 0), .ref (nat_lit 380), .int 164 (nat_lit 0), .int 0 (nat_lit 0), .ref (nat_lit 387), .int 166 (nat_lit 0), .int 0 (nat_lit 0), .ref (nat_lit 394), .int 168 (nat_lit 0), .int 0 (nat_lit 0), .ref (nat_lit 399), .int 170 (nat_lit 0), .int 0 (nat_lit 0), .ref (nat_lit 404), .int 172 (nat_lit 0), .int 0 (nat_lit 0), .ref (nat_lit 411)]) #[]))
noncomputable def Tm4 (P : Params) : BT := (((cutT (nat_lit 574) (T1 P) (nat_lit 1) (nat_lit 0)).set (nat_lit 3) fun _ => (di #[(en P "__name__" (nat_lit 165) (.str "emacs.variables" (nat_lit 981))), (en P "__doc__" (nat_lit 166) .none), (en P "__package__" (nat_lit 167) .none), (en P "__loader__" (nat_lit 168) (.builtin "__main__.__loader__#opaque")), (en P "__spec__" (nat_lit 169) .none), (en P "__annotations__" (nat_lit 170) (.ref 6)), (en P "__builtins__" (nat_lit 171) (.ref 4)), (en P "__file__" (nat_lit 173) (.str "/claim/cut.py" (nat_lit 172))), (en P "__cached__" (nat_lit 174) .none), (en P "_wall" (nat_lit 193) (.ref 21)), (en P "PLAIN_FUNCTIONS" (nat_lit 286) (.ref 67)), (en P "plain_index" (nat_lit 296) (.ref 74)), (en P "pure_names" (nat_lit 302) (.ref 81)), (en P "LispSignal" (nat_lit 335) (.ref 98)), (en P "Symbol" (nat_lit 368) (.ref 118)), (en P "NIL" (nat_lit 378) (.ref 124)), (en P "T" (nat_lit 388) (.ref 127)), (en P "Cons" (nat_lit 419) (.ref 145)), (en P "Subr" (nat_lit 456) (.ref 166)), (en P "Opaque" (nat_lit 498) (.ref 201)), (en P "is_whole" (nat_lit 505) (.ref 212)), (en P "boolean" (nat_lit 512) (.ref 219)), (en P "is_atom" (nat_lit 521) (.ref 226)), (en P "constants_behind" (nat_lit 527) (.ref 231)), (en P "told_value" (nat_lit 538) (.ref 238)), (en P "folded" (nat_lit 555) (.ref 245)), (en P "Constants" (nat_lit 603) (.ref 276)), (en P "Marker" (nat_lit 656) (.ref 318)), (en P "WIDTH" (nat_lit 660) (.int 65536 (nat_lit 659))), (en P "number_of" (nat_lit 667) (.ref 327)), (en P "fitting" (nat_lit 674) (.ref 334)), (en P "plus" (nat_lit 684) (.ref 341)), (en P "minus" (nat_lit 694) (.ref 348)), (en P "times" (nat_lit 704) (.ref 355)), (en P "one_more" (nat_lit 712) (.ref 362)), (en P "one_less" (nat_lit 720) (.ref 369)), (en P "are_chained" (nat_lit 726) (.ref 374)), (en P "less" (nat_lit 734) (.ref 381)), (en P "at_most" (nat_lit 742) (.ref 388)), (en P "alike" (nat_lit 750) (.ref 395)), (en P "greatest" (nat_lit 756) (.ref 400)), (en P "least_of" (nat_lit 762) (.ref 405)), (en P "is_number" (nat_lit 770) (.ref 412)), (en P "MOST_PARTS" (nat_lit 774) (.int 100000 (nat_lit 773))), (en P "Cells" (nat_lit 885) (.ref 492)), (en P "Obarray" (nat_lit 980) (.ref 569))] 46)).set (nat_lit 12) fun _ => (Obj.mk .none none (.fields #[.int 1 (nat_lit 0), .int 0 (nat_lit 0), .ref (nat_lit 20), .int 6 (nat_lit 0), .int 0 (nat_lit 0), .ref (nat_lit 73), .int 11 (nat_lit 0), .int 0 (nat_lit 0), .ref (nat_lit 80), .int 14 (nat_lit 0), .int 0 (nat_lit 0), .ref (nat_lit 87), .int 20 (nat_lit 0), .int 0 (nat_lit 0), .ref (nat_lit 107), .int 27 (nat_lit 0), .int 0 (nat_lit 0), .ref (nat_lit 134), .int 32 (nat_lit 0), .int 0 (nat_lit 0), .ref (nat_lit 155), .int 40 (nat_lit 0), .int 0 (nat_lit 0), .ref (nat_lit 176), .int 50 (nat_lit 0), .int 0 (nat_lit 0), .ref (nat_lit 211), .int 52 (nat_lit 0), .int 0 (nat_lit 0), .ref (nat_lit 218), .int 55 (nat_lit 0), .int 0 (nat_lit 0), .ref (nat_lit 225), .int 57 (nat_lit 0), .int 0 (nat_lit 0), .ref (nat_lit 230), .int 65 (nat_lit 0), .int 0 (nat_lit 0), .ref (nat_lit 237), .int 74 (nat_lit 0), .int 0 (nat_lit 0), .ref (nat_lit 244), .int 88 (nat_lit 0), .int 0 (nat_lit 0), .ref (nat_lit 251), .int 103 (nat_lit 0), .int 0 (nat_lit 0), .ref (nat_lit 286), .int 121 (nat_lit 0), .int 0 (nat_lit 0), .ref (nat_lit 326), .int 129 (nat_lit 0), .int 0 (nat_lit 0), .ref (nat_lit 333), .int 133 (nat_lit 0), .int 0 (nat_lit 0), .ref (nat_lit 340), .int 138 (nat_lit 0), .int 0 (nat_lit 0), .ref (nat_lit 347), .int 147 (nat_lit 0), .int 0 (nat_lit 0), .ref (nat_lit 354), .int 152 (nat_lit 0), .int 0 (nat_lit 0), .ref (nat_lit 361), .int 154 (nat_lit 0), .int 0 (nat_lit 0), .ref (nat_lit 368), .int 156 (nat_lit 0), .int 0 (nat_lit 0), .ref (nat_lit 373), .int 162 (nat_lit 0), .int 0 (nat_lit 0), .ref (nat_lit 380), .int 164 (nat_lit 0), .int 0 (nat_lit 0), .ref (nat_lit 387), .int 166 (nat_lit 0), .int 0 (nat_lit 0), .ref (nat_lit 394), .int 168 (nat_lit 0), .int 0 (nat_lit 0), .ref (nat_lit 399), .int 170 (nat_lit 0), .int 0 (nat_lit 0), .ref (nat_lit 404), .int 172 (nat_lit 0), .int 0 (nat_lit 0), .ref (nat_lit 411), .int 176 (nat_lit 0), .int 0 (nat_lit 0), .ref (nat_lit 418), .int 226 (nat_lit 0), .int 0 (nat_lit 0), .ref (nat_lit 502)]) #[]))
theorem r_run0 (w : World) (os : OsState) : segRunT treeTable pw w 11 (some (.ref 6)) 1 1350 ⟨T0 w.params, 15, {}, #[], {}, 187, os⟩ (piecesOf (Lb.take 12) env1 cd1 p0 [topFrame p0]) =
    some (.next, ⟨Tm1 w.params, 150, {}, #[], {}, 420, os⟩, cd1, ⟨27, 0, 31, 22⟩) := by
  rewrite [PySem.W.Fast.te10110043849684766642, PySem.W.Fast.te14364793385576792824]
  kernel_rfl
theorem r_run1 (w : World) (os : OsState) : segRunT treeTable pw w 11 (some (.ref 6)) 1 1100 ⟨Tm1 w.params, 150, {}, #[], {}, 420, os⟩ (piecesOf ((Lb.drop 12).take 12) env1 cd1 ⟨27, 0, 31, 22⟩ [topFrame p0]) =
    some (.next, ⟨Tm2 w.params, 281, {}, #[], {}, 606, os⟩, cd1, ⟨102, 0, 102, 8⟩) := by
  rewrite [PySem.W.Fast.te10110043849684766642, PySem.W.Fast.te14364793385576792824]
  kernel_rfl
theorem r_run2 (w : World) (os : OsState) : segRunT treeTable pw w 11 (some (.ref 6)) 1 850 ⟨Tm2 w.params, 281, {}, #[], {}, 606, os⟩ (piecesOf (((Lb.drop 12).drop 12).take 19) env1 cd1 ⟨102, 0, 102, 8⟩ [topFrame p0]) =
    some (.next, ⟨Tm3 w.params, 413, {}, #[], {}, 775, os⟩, cd1, ⟨175, 0, 175, 10⟩) := by
  rewrite [PySem.W.Fast.te10110043849684766642, PySem.W.Fast.te14364793385576792824]
  kernel_rfl
theorem r_run3 (w : World) (os : OsState) : segRunT treeTable pw w 11 (some (.ref 6)) 1 1100 ⟨Tm3 w.params, 413, {}, #[], {}, 775, os⟩ (piecesOf ((((Lb.drop 12).drop 12).drop 19).take 4) env1 cd1 ⟨175, 0, 175, 10⟩ [topFrame p0]) =
    some (.next, ⟨Tm4 w.params, 574, {}, #[], {}, 983, os⟩, cd1, ⟨261, 0, 261, 8⟩) := by
  rewrite [PySem.W.Fast.te10110043849684766642, PySem.W.Fast.te14364793385576792824]
  kernel_rfl
theorem r_run4 (w : World) (os : OsState) : segRunT treeTable pw w 11 (some (.ref 6)) 1 1500 ⟨Tm4 w.params, 574, {}, #[], {}, 983, os⟩ (piecesOf ((((Lb.drop 12).drop 12).drop 19).drop 4) env1 cd1 ⟨261, 0, 261, 8⟩ [topFrame p0]) =
    some (.next, ⟨T1 w.params, 797, {}, #[], {}, 1279, os⟩, cd1, p9) := by
  rewrite [PySem.W.Fast.te10110043849684766642, PySem.W.Fast.te14364793385576792824]
  kernel_rfl
abbrev H1 (P : Params) : Heap := absHeap (T1 P) 797 {}
theorem r_fin (w : World) (os : OsState) : topRun treeTable pw w 11 (some (.ref 6)) 2 ⟨H1 w.params, #[], {}, 1279, os⟩ ⟨doneF .next, cd1, p9, [topFrame p0]⟩ = some ⟨H1 w.params, #[], {}, 1279, os⟩ := by
  kernel_rfl
theorem r_top (w : World) (os : OsState) : topRun treeTable pw w 11 (some (.ref 6)) (12 + (1 + (1350 + (1100 + (850 + (1100 + (1500 + 2))))))) ⟨boot_heap w.params, #[], boot_drawn, boot_toks, os⟩ (topStub pw) = some ⟨H1 w.params, #[], {}, 1279, os⟩ := by
  refine go_top (r_pre w os) (piece_block (r_block w os) ?_)
  have h := piece_app (rest := []) (segRun_of (r_run4 w os)) (piece_nil (r_fin w os))
  rw [List.append_nil] at h
  replace h := piece_app (segRun_of (r_run3 w os)) h
  replace h := piece_app (segRun_of (r_run2 w os)) h
  replace h := piece_app (segRun_of (r_run1 w os)) h
  replace h := piece_app (segRun_of (r_run0 w os)) h
  rw [List.take_append_drop, List.take_append_drop, List.take_append_drop, List.take_append_drop] at h
  exact h

theorem r_size (w : World) : ((boot_heap w.params).isNs mainGlobals && (#[] : Array GenState).size == 0, (boot_heap w.params).objs.size, (boot_heap w.params).nsMap mainGlobals "__annotations__") = (true, 11, some (.ref 6)) := by
  kernel_rfl
theorem r_open (w : World) : (fencedOpening treeTable pw w 12100).map (fun s => (s.heap, s.gens, s.drawn, s.toks)) = some (boot_heap w.params, #[], boot_drawn, boot_toks) :=
  boot_open (by kernel_rfl) (by decide) (fun _ => by kernel_rfl) w
noncomputable def vw : Program := { pw with main := { pw.main with body := pw.main.body.drop 60 } }
noncomputable def loose : List Str := [(Str.ofString "_wall"), (Str.ofString "PLAIN_FUNCTIONS"), (Str.ofString "plain_index"), (Str.ofString "pure_names"), (Str.ofString "LispSignal"), (Str.ofString "Symbol"), (Str.ofString "NIL"), (Str.ofString "T"), (Str.ofString "Cons"), (Str.ofString "Subr"), (Str.ofString "Opaque"), (Str.ofString "is_whole"), (Str.ofString "boolean"), (Str.ofString "is_atom"), (Str.ofString "constants_behind"), (Str.ofString "told_value"), (Str.ofString "folded"), (Str.ofString "Constants"), (Str.ofString "Marker"), (Str.ofString "WIDTH"), (Str.ofString "number_of"), (Str.ofString "fitting"), (Str.ofString "plus"), (Str.ofString "minus"), (Str.ofString "times"), (Str.ofString "one_more"), (Str.ofString "one_less"), (Str.ofString "are_chained"), (Str.ofString "less"), (Str.ofString "at_most"), (Str.ofString "alike"), (Str.ofString "greatest"), (Str.ofString "least_of"), (Str.ofString "is_number"), (Str.ofString "MOST_PARTS"), (Str.ofString "Cells"), (Str.ofString "Obarray"), (Str.ofString "Variables"), (Str.ofString "Locals"), (Str.ofString "World"), (Str.ofString "_law_pot"), (Str.ofString "_law_dip"), (Str.ofString "_law_world"), (Str.ofString "_law_lines"), (Str.ofString "_law_two"), (Str.ofString "_law_called"), (Str.ofString "_law_run"), (Str.ofString "_law_is_left")]
abbrev st1 (w : World) (os : OsState) : Shared := ⟨H1 w.params, #[], {}, 1279, os⟩
theorem l_tab (w : World) (os : OsState) : (staticsOk (importedModules pw.main.body) (boot_heap w.params) (H1 w.params) && namesBound pw (H1 w.params) && gensDone (st1 w os) && laidKept (boot_heap w.params) (H1 w.params)) = true := by
  kernel_rfl
theorem l_seen (w : World) (os : OsState) : openSeen vw loose (importedModules pw.main.body) (fun _ => true) true (st1 w os) = openGood vw loose := by
  rewrite [PySem.W.Fast.te4187177175401517315]
  kernel_rfl
theorem left1 : LeftO pw vw loose (fun _ => true) (fun s => s.heap) (fun w => H1 w.params) 12100 :=
  LeftO.of_pieces r_open r_size r_top (by decide) fun w => funext fun os => by rw [l_tab w os, l_seen w os]
theorem lk_mem {a : Nat} {o : Obj} {K : Frag} (h : K.lookup a = some o) : (a, o) ∈ K := by
  induction K with
  | nil => exact nomatch h
  | cons p r ih =>
    rw [List.lookup] at h
    cases q : a == p.1 with
    | true => rw [q] at h; rw [beq_iff_eq.mp q, ← Option.some.inj h]; exact .head _
    | false => rw [q] at h; exact .tail _ (ih h)
theorem in_abs {T : BT} {n : Nat} {life : Life} {K : Frag} (e : K.map (fun p => (Nat.blt p.1 n, T.get p.1)) = K.map (fun p => (true, some p.2))) (al : K.map (fun p => alive p.2) = K.map (fun p => some p.2)) : K.In (absHeap T n life) := by
  intro a o h
  have e1 := List.map_inj_left.mp e _ (lk_mem h)
  rw [abs_get (Nat.le_of_ble_eq_true (congrArg Prod.fst e1)) (congrArg Prod.snd e1)]
  exact List.map_inj_left.mp al _ (lk_mem h)
theorem inK (w : World) : (K w.params).In (H1 w.params) := in_abs (by kernel_rfl) (by kernel_rfl)
noncomputable def dlaw : DefRec := ⟨"law", sA (top 60), sB (top 60), sS (top 60), p9⟩
theorem said : PySem.Challenge.rw_oj0029_01.wellSaid = true := by
  rewrite [PySem.W.Fast.te9446332074065402090]
  delta PySem.W.Fast.tw9446332074065402090
  repeat' first
    | with_reducible refine look_both ?_ ?_
    | ((with_reducible show PySem.W.Fast.tw17960256430627541270 _ = _); delta PySem.W.Fast.tw17960256430627541270)
    | ((with_reducible show PySem.W.Fast.tw2436336058641802641 _ = _); delta PySem.W.Fast.tw2436336058641802641)
    | ((with_reducible show PySem.W.Fast.tw12908688711261696721 _ = _); delta PySem.W.Fast.tw12908688711261696721)
  all_goals decide +kernel
theorem head (call : WalkO vw loose (fun _ _ => True) (InK K) PySem.Challenge.rw_oj0029_01.row.toRowW dlaw [] (fun f vs => PySem.call f vs)) : PySem.Challenge.rw_oj0029_01.Holds := by
  refine holds_law said fun sd => holds_open (q := vw) (loose := loose) (Xt := fun _ => true) (XP := fun _ _ => True) (Yf := fun s => s.heap) (Ya := fun w => H1 w.params) (YP := InK K) (d := dlaw) (kwd := []) (N := 12100)
    left1 (fun w s e => by have e' : s.heap = H1 w.params := e; show (K w.params).In s.heap; rw [e']; exact inK w) InK.keeps (fun _ _ => trivial) (fun _ _ _ _ _ => trivial) (by kernel_rfl) (by kernel_rfl) (by kernel_rfl) (fun _ _ => recFacts_nil rfl) rfl sd (by decide +kernel) ⟨rfl, rfl, rfl, rfl, rfl, by decide +kernel⟩ ?_ call
  exact ⟨[.list [.int 1]], by decide +kernel, by decide +kernel⟩
end
end
end Mine
end
section
open PySem PySem.W PySem.Calls PyProof.Rows PyProof.V
set_option Elab.async false
set_option linter.unusedVariables false
set_option maxRecDepth 100000
set_option maxHeartbeats 8000000
set_option compiler.extract_closed false
namespace Mine
open List (mem_cons not_mem_nil map_cons map_nil)
theorem Z1 {α : Type} {x0 x1 : α} {l : List α} : x1 ∈ x0 :: x1 :: l := (.tail _ (.head _))
theorem Z2 {α : Type} {x0 x1 x2 : α} {l : List α} : x2 ∈ x0 :: x1 :: x2 :: l := (.tail _ (.tail _ (.head _)))
theorem Z3 {α : Type} {x0 x1 x2 x3 : α} {l : List α} : x3 ∈ x0 :: x1 :: x2 :: x3 :: l := (.tail _ (.tail _ (.tail _ (.head _))))
theorem Z4 {α : Type} {x0 x1 x2 x3 x4 : α} {l : List α} : x4 ∈ x0 :: x1 :: x2 :: x3 :: x4 :: l := (.tail _ (.tail _ (.tail _ (.tail _ (.head _)))))
theorem Z5 {α : Type} {x0 x1 x2 x3 x4 x5 : α} {l : List α} : x5 ∈ x0 :: x1 :: x2 :: x3 :: x4 :: x5 :: l := (.tail _ (.tail _ (.tail _ (.tail _ (.tail _ (.head _))))))
theorem Z6 {α : Type} {x0 x1 x2 x3 x4 x5 x6 : α} {l : List α} : x6 ∈ x0 :: x1 :: x2 :: x3 :: x4 :: x5 :: x6 :: l := (.tail _ (.tail _ (.tail _ (.tail _ (.tail _ (.tail _ (.head _)))))))
theorem Z7 {α : Type} {x0 x1 x2 x3 x4 x5 x6 x7 : α} {l : List α} : x7 ∈ x0 :: x1 :: x2 :: x3 :: x4 :: x5 :: x6 :: x7 :: l := (.tail _ (.tail _ (.tail _ (.tail _ (.tail _ (.tail _ (.tail _ (.head _))))))))
theorem Z8 {α : Type} {x0 x1 x2 x3 x4 x5 x6 x7 x8 : α} {l : List α} : x8 ∈ x0 :: x1 :: x2 :: x3 :: x4 :: x5 :: x6 :: x7 :: x8 :: l := (.tail _ (.tail _ (.tail _ (.tail _ (.tail _ (.tail _ (.tail _ (.tail _ (.head _)))))))))
theorem Z9 {α : Type} {x0 x1 x2 x3 x4 x5 x6 x7 x8 x9 : α} {l : List α} : x9 ∈ x0 :: x1 :: x2 :: x3 :: x4 :: x5 :: x6 :: x7 :: x8 :: x9 :: l := (.tail _ (.tail _ (.tail _ (.tail _ (.tail _ (.tail _ (.tail _ (.tail _ (.tail _ (.head _))))))))))
theorem Z10 {α : Type} {x0 x1 x2 x3 x4 x5 x6 x7 x8 x9 x10 : α} {l : List α} : x10 ∈ x0 :: x1 :: x2 :: x3 :: x4 :: x5 :: x6 :: x7 :: x8 :: x9 :: x10 :: l := (.tail _ (.tail _ (.tail _ (.tail _ (.tail _ (.tail _ (.tail _ (.tail _ (.tail _ (.tail _ (.head _)))))))))))
theorem Z11 {α : Type} {x0 x1 x2 x3 x4 x5 x6 x7 x8 x9 x10 x11 : α} {l : List α} : x11 ∈ x0 :: x1 :: x2 :: x3 :: x4 :: x5 :: x6 :: x7 :: x8 :: x9 :: x10 :: x11 :: l := (.tail _ (.tail _ (.tail _ (.tail _ (.tail _ (.tail _ (.tail _ (.tail _ (.tail _ (.tail _ (.tail _ (.head _))))))))))))
theorem Z12 {α : Type} {x0 x1 x2 x3 x4 x5 x6 x7 x8 x9 x10 x11 x12 : α} {l : List α} : x12 ∈ x0 :: x1 :: x2 :: x3 :: x4 :: x5 :: x6 :: x7 :: x8 :: x9 :: x10 :: x11 :: x12 :: l := (.tail _ (.tail _ (.tail _ (.tail _ (.tail _ (.tail _ (.tail _ (.tail _ (.tail _ (.tail _ (.tail _ (.tail _ (.head _)))))))))))))
theorem Z13 {α : Type} {x0 x1 x2 x3 x4 x5 x6 x7 x8 x9 x10 x11 x12 x13 : α} {l : List α} : x13 ∈ x0 :: x1 :: x2 :: x3 :: x4 :: x5 :: x6 :: x7 :: x8 :: x9 :: x10 :: x11 :: x12 :: x13 :: l := (.tail _ (.tail _ (.tail _ (.tail _ (.tail _ (.tail _ (.tail _ (.tail _ (.tail _ (.tail _ (.tail _ (.tail _ (.tail _ (.head _))))))))))))))
theorem Z14 {α : Type} {x0 x1 x2 x3 x4 x5 x6 x7 x8 x9 x10 x11 x12 x13 x14 : α} {l : List α} : x14 ∈ x0 :: x1 :: x2 :: x3 :: x4 :: x5 :: x6 :: x7 :: x8 :: x9 :: x10 :: x11 :: x12 :: x13 :: x14 :: l := (.tail _ (.tail _ (.tail _ (.tail _ (.tail _ (.tail _ (.tail _ (.tail _ (.tail _ (.tail _ (.tail _ (.tail _ (.tail _ (.tail _ (.head _)))))))))))))))
theorem Z15 {α : Type} {x0 x1 x2 x3 x4 x5 x6 x7 x8 x9 x10 x11 x12 x13 x14 x15 : α} {l : List α} : x15 ∈ x0 :: x1 :: x2 :: x3 :: x4 :: x5 :: x6 :: x7 :: x8 :: x9 :: x10 :: x11 :: x12 :: x13 :: x14 :: x15 :: l := (.tail _ (.tail _ (.tail _ (.tail _ (.tail _ (.tail _ (.tail _ (.tail _ (.tail _ (.tail _ (.tail _ (.tail _ (.tail _ (.tail _ (.tail _ (.head _))))))))))))))))
local macro_rules | `(tactic| walk_at $s:str) => `(tactic| k_extra $(Lean.quote ("@" ++ s.getString)))
local macro_rules | `(tactic| k_ne) => `(tactic| walk_at "m_ne")
local macro_rules | `(tactic| lcg_off) => `(tactic| walk_at "m_off")
local macro_rules | `(tactic| passes_own) => `(tactic| walk_at "m_po")
theorem zom : True := by
  k_with "@nk" => ((with_reducible rename _ ∧ _ => hh); first
    | (refine q12 ?_; first | with_reducible exact hh.1 | with_reducible exact hh.2.1 | with_reducible exact hh.2.2.1 | with_reducible exact hh.2.2.2.1 | with_reducible exact hh.2.2.2.2.1 | with_reducible exact hh.2.2.2.2.2.1 | with_reducible exact hh.2.2.2.2.2.2.1 | with_reducible exact hh.2.2.2.2.2.2.2.1 | with_reducible exact hh.2 | with_reducible exact hh.2.2 | with_reducible exact hh.2.2.2 | with_reducible exact hh.2.2.2.2 | with_reducible exact hh.2.2.2.2.2 | with_reducible exact hh.2.2.2.2.2.2 | with_reducible exact hh.1.1 | with_reducible exact hh.1.2.1 | with_reducible exact hh.1.2.2 | with_reducible exact hh.2.1.1 | with_reducible exact hh.2.1.2.1 | with_reducible exact hh.2.1.2.2 | with_reducible exact hh.2.2.1.1 | with_reducible exact hh.2.2.1.2.1 | with_reducible exact hh.2.2.1.2.2) | (refine q11 ?_; first | with_reducible exact hh.1 | with_reducible exact hh.2.1 | with_reducible exact hh.2.2.1 | with_reducible exact hh.2.2.2.1 | with_reducible exact hh.2.2.2.2.1 | with_reducible exact hh.2.2.2.2.2.1 | with_reducible exact hh.2.2.2.2.2.2.1 | with_reducible exact hh.2.2.2.2.2.2.2.1 | with_reducible exact hh.2 | with_reducible exact hh.2.2 | with_reducible exact hh.2.2.2 | with_reducible exact hh.2.2.2.2 | with_reducible exact hh.2.2.2.2.2 | with_reducible exact hh.2.2.2.2.2.2 | with_reducible exact hh.1.1 | with_reducible exact hh.1.2.1 | with_reducible exact hh.1.2.2 | with_reducible exact hh.2.1.1 | with_reducible exact hh.2.1.2.1 | with_reducible exact hh.2.1.2.2 | with_reducible exact hh.2.2.1.1 | with_reducible exact hh.2.2.1.2.1 | with_reducible exact hh.2.2.1.2.2) | (first | with_reducible exact hh.1 | with_reducible exact hh.2.1 | with_reducible exact hh.2.2.1 | with_reducible exact hh.2.2.2.1 | with_reducible exact hh.2.2.2.2.1 | with_reducible exact hh.2.2.2.2.2.1 | with_reducible exact hh.2.2.2.2.2.2.1 | with_reducible exact hh.2.2.2.2.2.2.2.1 | with_reducible exact hh.2 | with_reducible exact hh.2.2 | with_reducible exact hh.2.2.2 | with_reducible exact hh.2.2.2.2 | with_reducible exact hh.2.2.2.2.2 | with_reducible exact hh.2.2.2.2.2.2 | with_reducible exact hh.1.1 | with_reducible exact hh.1.2.1 | with_reducible exact hh.1.2.2 | with_reducible exact hh.2.1.1 | with_reducible exact hh.2.1.2.1 | with_reducible exact hh.2.1.2.2 | with_reducible exact hh.2.2.1.1 | with_reducible exact hh.2.2.1.2.1 | with_reducible exact hh.2.2.1.2.2) | (refine Ne.symm ?_; first | with_reducible exact hh.1 | with_reducible exact hh.2.1 | with_reducible exact hh.2.2.1 | with_reducible exact hh.2.2.2.1 | with_reducible exact hh.2.2.2.2.1 | with_reducible exact hh.2.2.2.2.2.1 | with_reducible exact hh.2.2.2.2.2.2.1 | with_reducible exact hh.2.2.2.2.2.2.2.1 | with_reducible exact hh.2 | with_reducible exact hh.2.2 | with_reducible exact hh.2.2.2 | with_reducible exact hh.2.2.2.2 | with_reducible exact hh.2.2.2.2.2 | with_reducible exact hh.2.2.2.2.2.2 | with_reducible exact hh.1.1 | with_reducible exact hh.1.2.1 | with_reducible exact hh.1.2.2 | with_reducible exact hh.2.1.1 | with_reducible exact hh.2.1.2.1 | with_reducible exact hh.2.1.2.2 | with_reducible exact hh.2.2.1.1 | with_reducible exact hh.2.2.1.2.1 | with_reducible exact hh.2.2.1.2.2)
    | (clear hh; walk_at "nk"))
  k_with "@nj" => ((with_reducible show _ ≠ _); first | (with_reducible assumption) | exact Ne.symm (by with_reducible assumption) | exact q12 (by with_reducible assumption) | exact q11 (by with_reducible assumption) | walk_at "nk")
  k_with "@ch" => first
    | (with_reducible exact Nat.le_refl _)
    | (with_reducible assumption)
    | ((with_reducible refine ch1 ?_); walk_at "ch")
    | ((with_reducible refine Nat.le_trans ?_ (by with_reducible assumption)); walk_at "ch")
  k_with "@om" => first
    | (with_reducible assumption)
    | exact Nat.le_of_ble_eq_true (by with_reducible rfl)
    | exact ch2 (Nat.le_of_ble_eq_true (by with_reducible rfl))
    | ((with_reducible show _ ≠ _); walk_at "nj")
    | with_reducible exact q0 (by with_reducible assumption) | with_reducible exact q1 (by with_reducible assumption) (by first | with_reducible rfl | decide) | with_reducible exact q2 (by with_reducible assumption) (by first | with_reducible rfl | decide) | with_reducible exact q3 (by with_reducible assumption) (by first | with_reducible rfl | decide)
    | with_reducible exact q4 (by with_reducible assumption) (by first | with_reducible rfl | decide) | with_reducible exact q5 (by with_reducible assumption) (by first | with_reducible rfl | decide) | with_reducible exact q6 (by with_reducible assumption) (by first | with_reducible rfl | decide) | with_reducible exact q7 (by with_reducible assumption) | with_reducible exact q8 (by with_reducible assumption)
    | with_reducible exact q14 | with_reducible exact q13 (by first | with_reducible rfl | decide) | with_reducible exact q9 (by with_reducible assumption) | with_reducible exact q9 (q9 (by with_reducible assumption))
    | ((with_reducible refine litg ?_); walk_at "oz")
    | ((with_reducible refine litl ?_); walk_at "oz")
    | ((with_reducible show _ ≤ _); walk_at "ch")
    | ((with_reducible refine ch2 ?_); walk_at "ch")
    | ((with_reducible refine Nat.lt_of_lt_of_le (by with_reducible assumption) ?_); walk_at "ch")
    | walk_at "oz"
  k_with "@oz" => first | lia | omega
  k_with "@df" => (repeat' first | exact default | exact dW | exact { } | exact At.nil | exact Op.sub | exact Ln.c 0 | exact Res.leaves [] | exact At0 0 0 none none | exact ⟨.function, [], false, false, []⟩ | constructor)
  k_with "@in" => (set_option tactic.hygienic false in intros)
  trivial
theorem epx_ne {α : Type} (hn : Nonempty α) (P : α → Prop) : Nonempty {c : α // P c → ∀ x, P x} := by
  by_cases h : ∀ x, P x
  · exact hn.elim fun x => ⟨⟨x, fun _ => h⟩⟩
  · obtain ⟨x, hx⟩ := Classical.not_forall.mp h
    exact ⟨⟨x, fun q => absurd q hx⟩⟩
noncomputable def epx {α : Type} (hn : Nonempty α) (P : α → Prop) : α := (Classical.choice (epx_ne hn P)).1
theorem epx_all {α : Type} (hn : Nonempty α) (P : α → Prop) (h : P (epx hn P)) : ∀ x, P x := (Classical.choice (epx_ne hn P)).2 h
noncomputable def ex1 {a : Type} (hn : Nonempty (a)) (P : a → Prop) : a := epx hn fun q => P q
theorem ix1 {a : Type} {P : a → Prop} (hn : Nonempty (a)) (h : let xa := (ex1 hn P); P xa) xa : P xa := epx_all hn (fun q => P q) h xa
noncomputable def ex2 {a b : Type} (hn : Nonempty (a × b)) (P : a → b → Prop) : a × b := epx hn fun q => P q.1 q.2
theorem ix2 {a b : Type} {P : a → b → Prop} (hn : Nonempty (a × b)) (h : let xa := (ex2 hn P).1; let xb := (ex2 hn P).2; P xa xb) xa xb : P xa xb := epx_all hn (fun q => P q.1 q.2) h ⟨xa, xb⟩
noncomputable def ex4 {a b c d : Type} (hn : Nonempty (a × b × c × d)) (P : a → b → c → d → Prop) : a × b × c × d := epx hn fun q => P q.1 q.2.1 q.2.2.1 q.2.2.2
theorem ix4 {a b c d : Type} {P : a → b → c → d → Prop} (hn : Nonempty (a × b × c × d)) (h : let xa := (ex4 hn P).1; let xb := (ex4 hn P).2.1; let xc := (ex4 hn P).2.2.1; let xd := (ex4 hn P).2.2.2; P xa xb xc xd) xa xb xc xd : P xa xb xc xd := epx_all hn (fun q => P q.1 q.2.1 q.2.2.1 q.2.2.2) h ⟨xa, xb, xc, xd⟩
noncomputable def ex8 {a b c d e f g i : Type} (hn : Nonempty ((a × b × c × d × e) × (f × g × i))) (P : a → b → c → d → e → f → g → i → Prop) : (a × b × c × d × e) × (f × g × i) := epx hn fun q => P q.1.1 q.1.2.1 q.1.2.2.1 q.1.2.2.2.1 q.1.2.2.2.2 q.2.1 q.2.2.1 q.2.2.2
theorem ix8 {a b c d e f g i : Type} {P : a → b → c → d → e → f → g → i → Prop} (hn : Nonempty ((a × b × c × d × e) × (f × g × i))) (h : let xa := (ex8 hn P).1.1; let xb := (ex8 hn P).1.2.1; let xc := (ex8 hn P).1.2.2.1; let xd := (ex8 hn P).1.2.2.2.1; let xe := (ex8 hn P).1.2.2.2.2; let xf := (ex8 hn P).2.1; let xg := (ex8 hn P).2.2.1; let xi := (ex8 hn P).2.2.2; P xa xb xc xd xe xf xg xi) xa xb xc xd xe xf xg xi : P xa xb xc xd xe xf xg xi := epx_all hn (fun q => P q.1.1 q.1.2.1 q.1.2.2.1 q.1.2.2.2.1 q.1.2.2.2.2 q.2.1 q.2.2.1 q.2.2.2) h ⟨⟨xa, xb, xc, xd, xe⟩, ⟨xf, xg, xi⟩⟩
theorem iy8 {a b c d e f g i : Type} {P : a → b → c → d → e → f → g → i → Prop} (ya : a) (yb : b) (yc : c) (yd : d) (ye : e) (yf : f) (yg : g) (yi : i) (hn : Nonempty ((a × b × c × d × e) × (f × g × i))) (h : let xa := (ex8 hn P).1.1; let xb := (ex8 hn P).1.2.1; let xc := (ex8 hn P).1.2.2.1; let xd := (ex8 hn P).1.2.2.2.1; let xe := (ex8 hn P).1.2.2.2.2; let xf := (ex8 hn P).2.1; let xg := (ex8 hn P).2.2.1; let xi := (ex8 hn P).2.2.2; P xa xb xc xd xe xf xg xi) : P ya yb yc yd ye yf yg yi := ix8 hn h ya yb yc yd ye yf yg yi
noncomputable def ex10 {a b c d e f g i j k : Type} (hn : Nonempty ((a × b × c × d × e) × (f × g × i × j × k))) (P : a → b → c → d → e → f → g → i → j → k → Prop) : (a × b × c × d × e) × (f × g × i × j × k) := epx hn fun q => P q.1.1 q.1.2.1 q.1.2.2.1 q.1.2.2.2.1 q.1.2.2.2.2 q.2.1 q.2.2.1 q.2.2.2.1 q.2.2.2.2.1 q.2.2.2.2.2
theorem ix10 {a b c d e f g i j k : Type} {P : a → b → c → d → e → f → g → i → j → k → Prop} (hn : Nonempty ((a × b × c × d × e) × (f × g × i × j × k))) (h : let xa := (ex10 hn P).1.1; let xb := (ex10 hn P).1.2.1; let xc := (ex10 hn P).1.2.2.1; let xd := (ex10 hn P).1.2.2.2.1; let xe := (ex10 hn P).1.2.2.2.2; let xf := (ex10 hn P).2.1; let xg := (ex10 hn P).2.2.1; let xi := (ex10 hn P).2.2.2.1; let xj := (ex10 hn P).2.2.2.2.1; let xk := (ex10 hn P).2.2.2.2.2; P xa xb xc xd xe xf xg xi xj xk) xa xb xc xd xe xf xg xi xj xk : P xa xb xc xd xe xf xg xi xj xk := epx_all hn (fun q => P q.1.1 q.1.2.1 q.1.2.2.1 q.1.2.2.2.1 q.1.2.2.2.2 q.2.1 q.2.2.1 q.2.2.2.1 q.2.2.2.2.1 q.2.2.2.2.2) h ⟨⟨xa, xb, xc, xd, xe⟩, ⟨xf, xg, xi, xj, xk⟩⟩
theorem iy10 {a b c d e f g i j k : Type} {P : a → b → c → d → e → f → g → i → j → k → Prop} (ya : a) (yb : b) (yc : c) (yd : d) (ye : e) (yf : f) (yg : g) (yi : i) (yj : j) (yk : k) (hn : Nonempty ((a × b × c × d × e) × (f × g × i × j × k))) (h : let xa := (ex10 hn P).1.1; let xb := (ex10 hn P).1.2.1; let xc := (ex10 hn P).1.2.2.1; let xd := (ex10 hn P).1.2.2.2.1; let xe := (ex10 hn P).1.2.2.2.2; let xf := (ex10 hn P).2.1; let xg := (ex10 hn P).2.2.1; let xi := (ex10 hn P).2.2.2.1; let xj := (ex10 hn P).2.2.2.2.1; let xk := (ex10 hn P).2.2.2.2.2; P xa xb xc xd xe xf xg xi xj xk) : P ya yb yc yd ye yf yg yi yj yk := ix10 hn h ya yb yc yd ye yf yg yi yj yk
noncomputable def ex16 {a b c d e f g i j k l m n o p r : Type} (hn : Nonempty ((a × b × c × d × e) × (f × g × i × j × k) × (l × m × n × o × p) × r)) (P : a → b → c → d → e → f → g → i → j → k → l → m → n → o → p → r → Prop) : (a × b × c × d × e) × (f × g × i × j × k) × (l × m × n × o × p) × r := epx hn fun q => P q.1.1 q.1.2.1 q.1.2.2.1 q.1.2.2.2.1 q.1.2.2.2.2 q.2.1.1 q.2.1.2.1 q.2.1.2.2.1 q.2.1.2.2.2.1 q.2.1.2.2.2.2 q.2.2.1.1 q.2.2.1.2.1 q.2.2.1.2.2.1 q.2.2.1.2.2.2.1 q.2.2.1.2.2.2.2 q.2.2.2
theorem ix16 {a b c d e f g i j k l m n o p r : Type} {P : a → b → c → d → e → f → g → i → j → k → l → m → n → o → p → r → Prop} (hn : Nonempty ((a × b × c × d × e) × (f × g × i × j × k) × (l × m × n × o × p) × r)) (h : let xa := (ex16 hn P).1.1; let xb := (ex16 hn P).1.2.1; let xc := (ex16 hn P).1.2.2.1; let xd := (ex16 hn P).1.2.2.2.1; let xe := (ex16 hn P).1.2.2.2.2; let xf := (ex16 hn P).2.1.1; let xg := (ex16 hn P).2.1.2.1; let xi := (ex16 hn P).2.1.2.2.1; let xj := (ex16 hn P).2.1.2.2.2.1; let xk := (ex16 hn P).2.1.2.2.2.2; let xl := (ex16 hn P).2.2.1.1; let xm := (ex16 hn P).2.2.1.2.1; let xn := (ex16 hn P).2.2.1.2.2.1; let xo := (ex16 hn P).2.2.1.2.2.2.1; let xp := (ex16 hn P).2.2.1.2.2.2.2; let xr := (ex16 hn P).2.2.2; P xa xb xc xd xe xf xg xi xj xk xl xm xn xo xp xr) xa xb xc xd xe xf xg xi xj xk xl xm xn xo xp xr : P xa xb xc xd xe xf xg xi xj xk xl xm xn xo xp xr := epx_all hn (fun q => P q.1.1 q.1.2.1 q.1.2.2.1 q.1.2.2.2.1 q.1.2.2.2.2 q.2.1.1 q.2.1.2.1 q.2.1.2.2.1 q.2.1.2.2.2.1 q.2.1.2.2.2.2 q.2.2.1.1 q.2.2.1.2.1 q.2.2.1.2.2.1 q.2.2.1.2.2.2.1 q.2.2.1.2.2.2.2 q.2.2.2) h ⟨⟨xa, xb, xc, xd, xe⟩, ⟨xf, xg, xi, xj, xk⟩, ⟨xl, xm, xn, xo, xp⟩, xr⟩
noncomputable def ex24 {a b c d e f g i j k l m n o p r s t u v w x y z : Type} (hn : Nonempty ((a × b × c × d × e) × (f × g × i × j × k) × (l × m × n × o × p) × (r × s × t × u × v) × (w × x × y × z))) (P : a → b → c → d → e → f → g → i → j → k → l → m → n → o → p → r → s → t → u → v → w → x → y → z → Prop) : (a × b × c × d × e) × (f × g × i × j × k) × (l × m × n × o × p) × (r × s × t × u × v) × (w × x × y × z) := epx hn fun q => P q.1.1 q.1.2.1 q.1.2.2.1 q.1.2.2.2.1 q.1.2.2.2.2 q.2.1.1 q.2.1.2.1 q.2.1.2.2.1 q.2.1.2.2.2.1 q.2.1.2.2.2.2 q.2.2.1.1 q.2.2.1.2.1 q.2.2.1.2.2.1 q.2.2.1.2.2.2.1 q.2.2.1.2.2.2.2 q.2.2.2.1.1 q.2.2.2.1.2.1 q.2.2.2.1.2.2.1 q.2.2.2.1.2.2.2.1 q.2.2.2.1.2.2.2.2 q.2.2.2.2.1 q.2.2.2.2.2.1 q.2.2.2.2.2.2.1 q.2.2.2.2.2.2.2
theorem ix24 {a b c d e f g i j k l m n o p r s t u v w x y z : Type} {P : a → b → c → d → e → f → g → i → j → k → l → m → n → o → p → r → s → t → u → v → w → x → y → z → Prop} (hn : Nonempty ((a × b × c × d × e) × (f × g × i × j × k) × (l × m × n × o × p) × (r × s × t × u × v) × (w × x × y × z))) (h : let xa := (ex24 hn P).1.1; let xb := (ex24 hn P).1.2.1; let xc := (ex24 hn P).1.2.2.1; let xd := (ex24 hn P).1.2.2.2.1; let xe := (ex24 hn P).1.2.2.2.2; let xf := (ex24 hn P).2.1.1; let xg := (ex24 hn P).2.1.2.1; let xi := (ex24 hn P).2.1.2.2.1; let xj := (ex24 hn P).2.1.2.2.2.1; let xk := (ex24 hn P).2.1.2.2.2.2; let xl := (ex24 hn P).2.2.1.1; let xm := (ex24 hn P).2.2.1.2.1; let xn := (ex24 hn P).2.2.1.2.2.1; let xo := (ex24 hn P).2.2.1.2.2.2.1; let xp := (ex24 hn P).2.2.1.2.2.2.2; let xr := (ex24 hn P).2.2.2.1.1; let xs := (ex24 hn P).2.2.2.1.2.1; let xt := (ex24 hn P).2.2.2.1.2.2.1; let xu := (ex24 hn P).2.2.2.1.2.2.2.1; let xv := (ex24 hn P).2.2.2.1.2.2.2.2; let xw := (ex24 hn P).2.2.2.2.1; let xx := (ex24 hn P).2.2.2.2.2.1; let xy := (ex24 hn P).2.2.2.2.2.2.1; let xz := (ex24 hn P).2.2.2.2.2.2.2; P xa xb xc xd xe xf xg xi xj xk xl xm xn xo xp xr xs xt xu xv xw xx xy xz) xa xb xc xd xe xf xg xi xj xk xl xm xn xo xp xr xs xt xu xv xw xx xy xz : P xa xb xc xd xe xf xg xi xj xk xl xm xn xo xp xr xs xt xu xv xw xx xy xz := epx_all hn (fun q => P q.1.1 q.1.2.1 q.1.2.2.1 q.1.2.2.2.1 q.1.2.2.2.2 q.2.1.1 q.2.1.2.1 q.2.1.2.2.1 q.2.1.2.2.2.1 q.2.1.2.2.2.2 q.2.2.1.1 q.2.2.1.2.1 q.2.2.1.2.2.1 q.2.2.1.2.2.2.1 q.2.2.1.2.2.2.2 q.2.2.2.1.1 q.2.2.2.1.2.1 q.2.2.2.1.2.2.1 q.2.2.2.1.2.2.2.1 q.2.2.2.1.2.2.2.2 q.2.2.2.2.1 q.2.2.2.2.2.1 q.2.2.2.2.2.2.1 q.2.2.2.2.2.2.2) h ⟨⟨xa, xb, xc, xd, xe⟩, ⟨xf, xg, xi, xj, xk⟩, ⟨xl, xm, xn, xo, xp⟩, ⟨xr, xs, xt, xu, xv⟩, ⟨xw, xx, xy, xz⟩⟩
theorem iy24 {a b c d e f g i j k l m n o p r s t u v w x y z : Type} {P : a → b → c → d → e → f → g → i → j → k → l → m → n → o → p → r → s → t → u → v → w → x → y → z → Prop} (ya : a) (yb : b) (yc : c) (yd : d) (ye : e) (yf : f) (yg : g) (yi : i) (yj : j) (yk : k) (yl : l) (ym : m) (yn : n) (yo : o) (yp : p) (yr : r) (ys : s) (yt : t) (yu : u) (yv : v) (yw : w) (yx : x) (yy : y) (yz : z) (hn : Nonempty ((a × b × c × d × e) × (f × g × i × j × k) × (l × m × n × o × p) × (r × s × t × u × v) × (w × x × y × z))) (h : let xa := (ex24 hn P).1.1; let xb := (ex24 hn P).1.2.1; let xc := (ex24 hn P).1.2.2.1; let xd := (ex24 hn P).1.2.2.2.1; let xe := (ex24 hn P).1.2.2.2.2; let xf := (ex24 hn P).2.1.1; let xg := (ex24 hn P).2.1.2.1; let xi := (ex24 hn P).2.1.2.2.1; let xj := (ex24 hn P).2.1.2.2.2.1; let xk := (ex24 hn P).2.1.2.2.2.2; let xl := (ex24 hn P).2.2.1.1; let xm := (ex24 hn P).2.2.1.2.1; let xn := (ex24 hn P).2.2.1.2.2.1; let xo := (ex24 hn P).2.2.1.2.2.2.1; let xp := (ex24 hn P).2.2.1.2.2.2.2; let xr := (ex24 hn P).2.2.2.1.1; let xs := (ex24 hn P).2.2.2.1.2.1; let xt := (ex24 hn P).2.2.2.1.2.2.1; let xu := (ex24 hn P).2.2.2.1.2.2.2.1; let xv := (ex24 hn P).2.2.2.1.2.2.2.2; let xw := (ex24 hn P).2.2.2.2.1; let xx := (ex24 hn P).2.2.2.2.2.1; let xy := (ex24 hn P).2.2.2.2.2.2.1; let xz := (ex24 hn P).2.2.2.2.2.2.2; P xa xb xc xd xe xf xg xi xj xk xl xm xn xo xp xr xs xt xu xv xw xx xy xz) : P ya yb yc yd ye yf yg yi yj yk yl ym yn yo yp yr ys yt yu yv yw yx yy yz := ix24 hn h ya yb yc yd ye yf yg yi yj yk yl ym yn yo yp yr ys yt yu yv yw yx yy yz
theorem zrd : True := by
  k_with "@9a" => (with_reducible rename News _ _ _ _ => kN)
  k_with "@9b" => (with_reducible rename Fr _ _ _ _ => kF)
  k_with "@9c" => (refine no_implicit_lambda% (ix16 ⟨by walk_at "df"⟩ ?_))
  k_with "@9d" => (refine wpAny_with_toks (Nat.le_refl s.toks) (wpAny_call ?_))
  k_with "@9e" => (refine no_implicit_lambda% (ix2 ⟨by walk_at "df"⟩ ?_))
  k_with "@9f" => (refine no_implicit_lambda% (ix4 ⟨by walk_at "df"⟩ ?_))
  k_with "@9g" => (refine no_implicit_lambda% (ix1 ⟨by walk_at "df"⟩ ?_))
  k_with "@9h" => (refine endM (by with_reducible assumption) (by k_asm) (by k_asm) ?_)
  k_with "@9i" => (refine no_implicit_lambda% (ix8 ⟨by walk_at "df"⟩ ?_))
  k_with "@9j" => ((refine leave_flew rfl (by k_asm) (fun b o q _ => kg'.get q) (Heap.UpToSlots.of_keeps fun b o q => Fr.keep (by k_asm) b o (kg'.get q)) (by with_reducible assumption) ?_; intro h' fl' ht; exact hE _ _ _ (by first | (rw [hn1]; rfl) | (rw [hn2, Bool.and_false])) fl' ht))
  k_with "@9k" => (refine' enterM (binds := [(Str.ofString "world", wv), (Str.ofString "args", .ref al)]) G Led.nil ?ho ?hcd ?hr ?hb ?hl ?_ ?c1 ?c2 ?c3 ?c4)
  k_with "@9l" => (have NX := fun (tkz : Nat) (htz : tkb ≤ tkz) => LS.next (x := .p o) (tk' := tkz) B hL0 flN (ns_mu hns) (hdrop (led_get kN Z5) (led_get kN Z6) (led_get kN Z7) (turn_kept (X' := [_, _, _, _, _, _, _, _]) kF kN hall)) (led_get kN Z2) (led_get kN Z3) (led_get kN Z4) hz trivial Ext.refl B.av9 B.ok9 (fun j t q => Nat.lt_of_lt_of_le (B.tk9 j t q) (Nat.le_trans ht1b htz)) (Nat.le_trans ht1b htz) B.bd9 (Nat.le_succ_of_le B.lv9) rn (by walk_at "om") (by walk_at "om") hslb hsub)
  k_with "@9m" => ((case hM => exact fun p hp => List.mem_map_of_mem (f := fun p : Addr × Obj => p.1) hp))
  k_with "@9n" => (have LW : Led h₀ s.heap [(W.wa, instObj 737 W.wd), (W.wd, worldD w.params W.t3 W.t4 W.t5 W.t6 W.t7 W.t8 W.t9 W.t10 W.ob W.ce W.va W.ba), (W.ob, instObj 569 W.od), (W.od, obD w.params W.t1 W.t2 W.rl W.nd), (W.nd, D.no)] := (fa1 ⟨xwa.1, xwa.2.1⟩ (fa1 ⟨xwd.1, xwd.2.1⟩ (fa1 ⟨xob.1, xob.2.1⟩ (fa1 ⟨xod.1, xod.2.1⟩ (fa1 ⟨xnd.1, xnd.2.1⟩ fa0))))))
  k_with "@9o" => (exact (Kept.of_left (M' := [vl]) kk ll LL (fun p hp => List.mem_append_left _ hp) (fa1 (.inr (by dsimp only [List.map]; k_mem)) (fa1 (.inr (by dsimp only [List.map]; k_mem)) (fa1 (.inl (by k_mem)) fa0)))).fix hvl (Fr.keep (by k_asm) _ _ hvl0))
  k_with "@9p" => (have LG : Led h₀ s.heap [(W.ce, instObj 492 W.cd), (W.cd, cellsD w.params W.t11 W.t12 W.fd W.pd), (W.fd, D.fo), (sa, instObj 118 sd), (sd, symD w.params s1 s2 s3 s4 num o.name)] := (fa1 ⟨xce.1, xce.2.1⟩ (fa1 ⟨xcd.1, xcd.2.1⟩ (fa1 ⟨xfd.1, xfd.2.1⟩ (fa1 ⟨xsa.1, xsa.2.1⟩ (fa1 ⟨xsd.1, xsd.2.1⟩ fa0))))))
  k_with "@9q" => (refine' EndH.mk kF (fun b o e q => (NX tkb (Nat.le_refl _)).1 b o e (it_nmu (q.resolve_right (fun z => nomatch z)))) ⟨_, _, _, _, _, _, _, hv + 1, _, _, _, _, _, ?loc, (NX _ ?tks).2⟩)
  k_with "@9r" => (refine wpAny_with_toks (Nat.le_refl s.toks) (wpAny_call (new_of (G.X.keeps G.st) (by k_is) (by k_is) (by k_is) ?_)))
  k_with "@9s" => (have kk' := kk.drop (M' := []) fun b hb => by rw [List.mem_singleton.mp hb]; exact .inr ⟨_, hg, (kN _ Z3).1⟩)
  k_with "@9t" => ((refine leave_flew rfl (by k_asm) (fun b o q _ => kg'.get q) (Heap.UpToSlots.of_keeps fun b o q => Fr.keep (by k_asm) b o (kg'.get q)) (by with_reducible assumption) ?_; intro h' fl' ht; exact hE _ _ _ hn fl' ht))
  k_with "@9u" => (refine' enterM (binds := [(Str.ofString "self", .ref x)]) G' LL ?ho ?hcd ?hr ?hb ?hl ?_ ?c1 ?c2 ?c3 ?c4)
  k_with "@9v" => (obtain ⟨own, N1, hoff, -, hall⟩ := turn_open _ F1 hX)
  k_with "@9w" => (have kg' : Kept [] s.heap _ := kb)
  k_with "@9x" => (rcases List.mem_cons.mp hp with rfl | hp)
  k_with "@9y" => (refine wpAny_For (wpAny_mono h (fun xv s₁ h₁ => wpAny_mono h₁ (fun it s₂ h₂ => ?_) fun _ _ e => e) fun _ _ e => e) hs)
  k_with "@9z" => (rcases ha1.split with ⟨i, ti, rfl, rfl⟩ | hn1)
  k_with "@9A" => (refine wpAny_with_toks (Nat.le_refl _) (c_plain_index (Gd.of kF X0 T0) (by walk_at "m_room") (by walk_at "m_room") (op_strOk o) hr1 hf1 plain_strOk ?_))
  k_with "@9B" => (have eX := fun p hp => (hX p hp).1)
  k_with "@9C" => (simp only [mem_cons, not_mem_nil, or_false] at hb)
  k_with "@9D" => (refine SrcPT.intro rfl kF kN (.head _) (pairs2 Z2 rfl rfl Z3 rfl rfl) (Nat.le_of_ble_eq_true rfl) fun g9 => ?_)
  k_with "@9E" => (refine' enterM (binds := [(Str.ofString "args", .ref al), (Str.ofString "wanted", .ref tl)]) G Led.nil ?ho ?hcd ?hr ?hb ?hl ?_ ?c1 ?c2 ?c3 ?c4)
  k_with "@9F" => (have hz : LnZ h₀ _ (.ref _) (.p o) := ⟨_, _, t7, rfl, ⟨_, (kN _ (.head _)).1, rfl, _, rfl⟩, none_base hst (kN _ (.head _)).2.2⟩)
  k_with "@9G" => (have hal' : Heap.IsList _ al #[v1, v2] := ⟨_, hal0, rfl, _, rfl⟩)
  k_with "@9H" => (have hqk : ∀ v s', EnterEnd _ _ _ v s' → qk (Flow.ret v) s' := fun _ _ z => z)
  k_with "@9I" => (have hek : ∀ e s', wpAny _ _ (leaving _ e) _ _ s' → ek e s' := fun _ _ z => z)
  k_with "@9J" => (rcases ha2.split with ⟨j, tj, rfl, rfl⟩ | hn2)
  k_with "@9K" => (intro rb w1b w2b w3b sdb pnb hb tkb hrb hslb hsub kcb hpab htkb)
  k_with "@9L" => (have ht1b : tk₁ ≤ tkb := by walk_at "m_tok")
  k_with "@9M" => (revert prog w dp un fr gd s h₀ p lo mean mg mb Q E)
  k_with "@9N" => (rcases List.mem_cons.mp hb with rfl | hb)
  k_with "@9O" => (simp only [mem_cons, not_mem_nil, or_false, not_or])
  k_with "@9P" => (have k6 : Kept [L0] h₁ _ := turn_same (X' := [_, _, _, _, _, _, _, _, _, _, _, _]) kF kN eX hall (fun _ q => sk5 q))
  k_with "@9Q" => (obtain ⟨Fb', Nb'⟩ := after1 kF kN (by k_updF) kcb hpab)
  k_with "@9R" => (have k6 : Kept [L0] h₁ _ := turn_same (X' := [_, _, _, _, _, _, _, _, _, _, _]) kF kN eX hall (fun _ q => sk5 q))
  k_with "@9S" => (dsimp only [Ln.word, Ln.opd] at N1)
  k_with "@9T" => (have k6 : Kept [L0] h₁ _ := turn_same (X' := [_, _, _, _, _, _, _, _, _, _]) kF kN eX hall (fun _ q => sk3 q))
  k_with "@9U" => (all_goals (try walk_at "m_turn"))
  k_with "@9V" => (revert prog w dp un gd s h₀ p lo mean mg mb Q E wv al n outer)
  k_with "@9W" => (obtain ⟨p, hp, rfl⟩ := List.mem_map.mp q)
  k_with "@9X" => (simp only [if_neg z1, if_neg z2, if_neg z3, if_neg z4, if_neg z5, if_neg z6])
  k_with "@9Y" => (obtain ⟨h1, h2, h3, h4, h5, h6, h7, h8, h9, h10, h11, h12, h13, h14, h15, h16, h17, h18⟩ := h)
  k_with "@9Z" => (revert G hd hF htk0 hsub0 F0 N0 X0 T0 kg kb kg' hqk hek hpo hb1 ha1 hb1' hal' hb2 hQ hE ha2 hb2')
  k_with "@90" => (revert G hd hF ha2 hb2 htk0 hsub0 F0 N0 X0 T0 kg kb kg' hqk hek hpo hal' hb1 hQ hE ha1 hb1' hn2)
  k_with "@91" => (have hvl' : Heap.IsList _ vl vals.toArray := ⟨_, hvl0, rfl, _, rfl⟩)
  k_with "@92" => (exact hP _ (EndH.mk kF (ro_nil (kn_loc k6 hns)) ⟨rfl, led_get kN Z6, kept_base k6 hL0 kp⟩))
  k_with "@93" => (refine ⟨rfl, fun ht => ?_⟩)
  k_with "@94" => (intro prog w dp un gd s h₀ p lo mean mg mb Q E wv al)
  k_with "@95" => (revert G hd hF ha1 ha2 hb1 hb2 hQ hE htk0 hsub0 F0 N0 X0 T0 kg kb kg' hqk hek hpo hal' hn1)
  k_with "@96" => (exact absurd (by rw [hn2, Bool.and_false]) hn)
  k_with "@97" => (exact absurd (by rw [hn1, Bool.false_and]) hn)
  k_with "@98" => (obtain ⟨F', N'⟩ := after0 kF kN k5)
  k_with "@99" => (rcases List.mem_cons.mp q with q | q)
  k_with "@9aa" => (have hoff : OwnOff own [a, a1, a2, L0 + 1, ca, cd, vl] := hoff)
  k_with "@9ab" => (have hal' : Heap.IsList _ al #[.int i ti, .int j tj] := ⟨_, hal0, rfl, _, rfl⟩)
  k_with "@9ac" => (simp only [mem_cons, not_mem_nil, or_false] at hp)
  k_with "@9ad" => (have hqk : ∀ v s', EnterEnd _ s _ v s' → qk (Flow.ret v) s' := fun _ _ z => z)
  k_with "@9ae" => (rcases List.mem_cons.mp hq with rfl | hq)
  k_with "@9af" => ((case loc => walk_at "ln_loc"))
  k_with "@9ag" => (obtain ⟨F', N'⟩ := after0 kF kN kk4)
  k_with "@9ah" => (exact absurd (Nat.lt_of_lt_of_le (Heap.lt_size q3) F.above) (Nat.lt_irrefl _))
  k_with "@9ai" => (rename List.any _ _ = false => c1)
  k_with "@9aj" => (have q2 : b ∉ frs outer := fun z => by rw [hideAll_none _ z] at q; cases q)
  k_with "@9ak" => (obtain rfl := List.mem_singleton.mp hp)
  k_with "@9al" => (intro x d h1 k1 hx hxd nx nd ndx)
  k_with "@9am" => (all_goals (intro kk _ ht; exact h _ _ kk ht))
  k_with "@9an" => (intro prog w dp un fr gd s h₀)
  k_with "@9ao" => (obtain ⟨i, rfl⟩ := isInt_of (x := x1) (by with_reducible assumption))
  k_with "@9ap" => (have hoff : OwnOff own [a, L0 + 1, ca, cd, vl] := hoff)
  k_with "@9aq" => (rcases List.mem_cons.mp (show b ∈ L :: frs outer from z) with rfl | z)
  k_with "@9ar" => (obtain ⟨i, hi, h⟩ := Option.bind_eq_some_iff.mp h)
  k_with "@9as" => (obtain ⟨F', N'⟩ := after0 kF kN kc; (try dsimp only [Option.getD]))
  k_with "@9at" => (have hla' : Heap.IsList _ la vs.toArray := ⟨_, hla0, rfl, _, rfl⟩)
  k_with "@9au" => (apply iy10 v1 v2 a1 a2 g0 h10 L0 tk10 qk ek ⟨by walk_at "df"⟩)
  k_with "@9av" => (exact wpAny_is_other rfl (by intro q; cases q) h)
  k_with "@9aw" => (apply iy10 v2 a2 g0 h10 L0 tk10 qk ek i ti ⟨by walk_at "df"⟩)
  k_with "@9ax" => (have hal' : Heap.IsList _ al #[v1] := ⟨_, hal0, rfl, _, rfl⟩)
  k_with "@9ay" => (simp only [mem_cons, not_mem_nil, or_false] at q)
  k_with "@9az" => (have hil : i < lns.length := (List.getElem?_eq_some_iff.mp hl).1)
  k_with "@9aA" => (obtain ⟨F', N'⟩ := after0 kF kN kc)
  k_with "@9aB" => (apply iy10 g0 h10 L0 tk10 qk ek i j ti tj ⟨by walk_at "df"⟩)
  k_with "@9aC" => (show valueAt (D.kvs ++ [(o.name, Value.ref x)]) o'.name = _)
  k_with "@9aD" => (obtain ⟨a, t, u, rfl, ⟨o, ho, hc, n, hd⟩, h0⟩ := z)
  k_with "@9aE" => (all_goals (intro kk _ ht; refine hQ _ _ _ ?_ kk; simp [*]))
  k_with "@9aF" => (intro prog w A E s env h₀ target)
  k_with "@9aG" => (try dsimp only [List.cons_append, List.nil_append] at N1)
  k_with "@9aH" => (obtain ⟨F', N'⟩ := after1 kF kN (by k_updF) kk4 hvl4)
  k_with "@9aI" => (have := B.rn9.plain (o := o) (by rw [hmo]; walk_at "om"))
  k_with "@9aJ" => (refine with_po (by passes_own) ?_)
  k_with "@9aK" => (intro prog w dp un fr gd s h₀ p lo mean mg mb Q E ob)
  k_with "@9aL" => (obtain ⟨rt, ru, hrow⟩ := (plain_rows X0).get o.row)
  k_with "@9aM" => (simp only [if_neg z1, if_neg z2])
  k_with "@9aN" => (exact (N0 (_, _) (by k_mem)).2.2)
  k_with "@9aO" => (revert prog w A E s env h₀ target body Q iter pos m)
  k_with "@9aP" => (simp only [mem_cons, not_mem_nil, or_false] at hb ⊢)
  k_with "@9aQ" => (intro prog w dp un fr gd s h₀ p lo mean mg mb Q E W)
  k_with "@9aR" => (revert v1 v2 a1 a2 G hd hF hal ha1 ha2 hb1 hb2 hQ hE)
  k_with "@9aS" => (have hLs : env.locals < s.heap.objs.size := F.ns.lt)
  trivial
section
open PySem PySem.W PySem.Calls PyProof.Rows
theorem q0 {d c n : Nat} (h : d + c < n) : d < n := Nat.lt_of_le_of_lt (Nat.le_add_right _ _) h
theorem q1 {d c k n : Nat} (h : d + c < n) (e : Nat.ble k c = true) : d + k < n := Nat.lt_of_le_of_lt (Nat.add_le_add_left (Nat.le_of_ble_eq_true e) _) h
theorem q2 {d c i j n : Nat} (h : d + c < n) (e : Nat.ble (i + j) c = true) : d + i + j < n := by rw [Nat.add_assoc]; exact q1 h e
theorem q3 {d c i j k n : Nat} (h : d + c < n) (e : Nat.ble (i + (j + k)) c = true) : d + i + j + k < n := by rw [Nat.add_assoc]; exact q2 h e
theorem q4 {a c n : Nat} (h : a ≤ c) (e : Nat.ble c n = true) : a ≤ n := Nat.le_trans h (Nat.le_of_ble_eq_true e)
theorem q5 {a c n : Nat} (h : a ≤ c) (e : Nat.blt c n = true) : a < n := Nat.lt_of_le_of_lt h (Nat.le_of_ble_eq_true e)
theorem q6 {a c : Nat} {n : Int} (h : a ≤ c) (e : decide ((c : Int) < n) = true) : (a : Int) < n := Int.lt_of_le_of_lt (Int.ofNat_le.mpr h) (of_decide_eq_true e)
theorem q7 {a b : Nat} (h : a < b) : (a : Int) < (b : Int) := Int.ofNat_lt.mpr h
theorem q8 {a b : Nat} (h : a ≤ b) : (a : Int) ≤ (b : Int) := Int.ofNat_le.mpr h
theorem q9 {a : Int} (h : 0 ≤ a) : 0 ≤ a + 1 := Int.le_add_one h
theorem ch1 {a b : Nat} (h : a ≤ b) : a ≤ b + 1 := Nat.le_succ_of_le h
theorem q10 {a m b : Nat} (e : a + m = b) : a ≤ b := e ▸ Nat.le_add_right _ _
theorem q11 {a b : Nat} (h : a < b) : a ≠ b := Nat.ne_of_lt h
theorem q12 {a b : Nat} (h : a < b) : b ≠ a := Nat.ne_of_gt h
theorem q13 {a b : Int} {i j k : Int} (e : decide (i + j ≤ k) = true) : a + i + j ≤ a + k := by rw [Int.add_assoc]; exact Int.add_le_add_left (of_decide_eq_true e) _
theorem q14 {n : Nat} : 0 ≤ (n : Int) := Int.natCast_nonneg n
theorem ch2 {a b : Nat} (h : a + 1 ≤ b) : a < b := h
theorem litg {a n : Nat} (h : a ≤ OfNat.ofNat n) : a ≤ OfNat.ofNat n := h
theorem litl {a n : Nat} (h : a < OfNat.ofNat n) : a < OfNat.ofNat n := h
theorem ep_ne {α : Type} (a : α) (P : α → Prop) : Nonempty {c : α // P c → ∀ x, P x} :=
  (Classical.em (∃ x, ¬ P x)).elim (fun h => h.elim fun x n => ⟨⟨x, fun p => absurd p n⟩⟩) fun h => ⟨⟨a, fun _ x => Classical.byContradiction fun n => h ⟨x, n⟩⟩⟩
theorem ep_get {α : Type} {P : α → Prop} (k : {c : α // P c → ∀ x, P x}) (h : P k.1) (x : α) : P x := k.2 h x
noncomputable abbrev d4 {a0 a1 a2 a3 a4 : Type} (x : a0 × a1 × a2 × a3 × a4) := x.2.2.2.2
noncomputable abbrev d16 {a0 a1 a2 a3 a4 a5 a6 a7 a8 a9 a10 a11 a12 a13 a14 a15 a16 : Type} (x : a0 × a1 × a2 × a3 × a4 × a5 × a6 × a7 × a8 × a9 × a10 × a11 × a12 × a13 × a14 × a15 × a16) := x.2.2.2.2.2.2.2.2.2.2.2.2.2.2.2.2
noncomputable def dW : World := { draws := fun _ _ => 0, params := { strHash := fun _ => 0, shareClass := fun _ => 0, mergeTok := id, idOf := fun _ => 0, idOfShared := fun _ _ => 0, followText := fun _ => true, idOfImm := fun _ => 0 } }
theorem with_po {M : Model} {A : Around} {t : List Stmt} {env : Env} {Q : Flow → Shared → Prop} {E : Value → Shared → Prop} {s : Shared} (h : PassesOwn M A env E) (k : PassesOwn M A env E → wpAny M A (execs t env) Q E s) : wpAny M A (execs t env) Q E s := k h
end
section
open PySem PySem.W PySem.Calls PyProof.Rows
noncomputable abbrev At0 (dp un : Nat) (fr : Option (List Env)) (gd : Option (List Code)) : Around := { handled := none, depth := dp, frames := fr, guards := gd, units := un }
def Led (h₀ h : Heap) (news : List (Addr × Obj)) : Prop := ∀ p ∈ news, h.get? p.1 = some p.2 ∧ h₀.get? p.1 = none
theorem Led.nil {h₀ h : Heap} : Led h₀ h [] := fun _ hp => nomatch hp
def Kept (M : List Addr) (h h' : Heap) : Prop := ∀ b o, b ∉ M → h.get? b = some o → h'.get? b = some o
theorem Kept.refl {M : List Addr} {h : Heap} : Kept M h h := fun _ _ _ e => e
theorem Kept.trans {M : List Addr} {h h' h'' : Heap} (x : Kept M h h') (y : Kept M h' h'') : Kept M h h'' := fun b o hb e => y b o hb (x b o hb e)
theorem Kept.mono {M N : List Addr} {h h' : Heap} (x : Kept M h h') (k : ∀ b ∈ M, b ∈ N) : Kept N h h' := fun b o hb e => x b o (fun q => hb (k b q)) e
theorem Kept.get {h h' : Heap} {b : Addr} {o : Obj} (x : Kept [] h h') (e : h.get? b = some o) : h'.get? b = some o := x b o (fun q => nomatch q) e
def Left (M : List Addr) (h h' : Heap) (news' : List (Addr × Obj)) : Prop :=
  ∀ p ∈ news', h'.get? p.1 = some p.2 ∧ (p.1 ∈ M ∨ h.get? p.1 = none)
structure Gd (w : World) (p : Program) (lo : List Str) (mean : ExcName → Option Value) (mg mb : Str → Option Value) (h₀ : Heap) (s : Shared) : Prop where
  st : ∀ b o, h₀.get? b = some o → s.heap.get? b = some o
  X : (K w.params).In h₀
  T : Top p lo mean mg mb h₀
section
variable {prog : Program} {w : World} {A : Around} {s : Shared} {h₀ g h h' : Heap} {news rest nc nc' : List (Addr × Obj)} {L : Addr} {m : Str → Option Value}
    {p : Program} {lo : List Str} {mean : ExcName → Option Value} {mg mb : Str → Option Value}
theorem Gd.of (F : Fr g L s.heap m) (X : (K w.params).In g) (T : Top p lo mean mg mb g) : Gd w p lo mean mg mb g s := ⟨F.keep, X, T⟩
theorem Led.of (N : News g L h news) (k : ∀ p ∈ nc, p ∈ news) : Led g h nc := fun p hp => ⟨(N p (k p hp)).1, (N p (k p hp)).2.2⟩
theorem after0 (F : Fr g L h m) (N : News g L h news) (k : Kept [] h h') : Fr g L h' m ∧ News g L h' news :=
  ⟨⟨F.ns.keeps fun b o e => k.get e, fun b o e => k.get (F.keep b o e), F.above⟩, fun p hp => ⟨k.get (N p hp).1, (N p hp).2⟩⟩
def Sub (M : List Addr) (h g : Heap) : Prop := (∀ b o, b ∉ M → h.get? b = some o → g.get? b = some o) ∧ ∀ b o, g.get? b = some o → h.get? b = some o
def EnterEnd (M : List Addr) (s : Shared) (R : Value → Shared → Prop) (v : Value) (s' : Shared) : Prop :=
  ∃ g L'' m' news', Sub M s.heap g ∧ Fr g L'' s'.heap m' ∧ News g L'' s'.heap news' ∧ (Kept M s.heap s'.heap → Left M s.heap s'.heap news' → R v s')
theorem endM {M : List Addr} {R : Value → Shared → Prop} {v : Value} {s' : Shared} (S : Sub M s.heap g) (F : Fr g L s'.heap m) (N : News g L s'.heap news) (k : Kept M s.heap s'.heap → Left M s.heap s'.heap news → R v s') : EnterEnd M s R v s' := ⟨g, L, m, news, S, F, N, k⟩
theorem Sub.hide {M : List Addr} {a : Addr} (S : Sub M h g) (ha : a ∈ M) : Sub M h (hideAll g [a]) :=
  ⟨fun b o hb e => hideAll_get _ (S.1 b o hb e) fun q => hb (List.mem_singleton.mp q ▸ ha), fun b o e => S.2 b o (of_hideAll _ e)⟩
theorem fr_hide {a : Addr} {o : Obj} (F : Fr g L h m) (N : News g L h news) (e : g.get? a = some o) : Fr (hideAll g [a]) L h m ∧ News (hideAll g [a]) L h ((a, o) :: news) := by
  refine ⟨⟨F.ns, fun b o e => F.keep b o (of_hideAll _ e), by rw [hideAll_size]; exact F.above⟩, fun p hp => ?_⟩
  walk_at "9x"
  · exact ⟨F.keep _ _ e, Nat.ne_of_lt (Nat.lt_of_lt_of_le (Heap.lt_size e) F.above), hideAll_none _ (.head _)⟩
  · obtain ⟨a1, a2, a3⟩ := N p hp
    refine ⟨a1, a2, ?_⟩
    cases q : (hideAll g [a]).get? p.1 with
    | none => rfl
    | some o => have := of_hideAll _ q; rw [a3] at this; cases this
theorem enterM2 {M : List Addr} {R : Result → Shared → Prop} {name qual : Str} {params : Arguments} {body : List Stmt} {scope : Scope} {dV kV doc pm cdv ct oc : Value} {an od : Option Addr} {osl : Array (Option Value)} {f : Addr} {args : Args} {binds : List (Str × Value)}
    (hM : ∀ p ∈ news, p.1 ∈ M) (G : Gd w p lo mean mg mb h₀ s) (N : Led h₀ s.heap news)
    (ho : (K w.params).lookup f = some ⟨oc, od, .func (fnOf name qual params body scope dV kV doc pm an cdv ct), osl⟩) (hcd : codeIn (K w.params) cdv qual = true) (hroom : A.depth < recursionLimit)
    (hbind : BindsTo s (fnOf name qual params body scope dV kV doc pm an cdv ct) args binds) (hloc : ∀ y ∈ binds, scope.names.lookup y.1 = some .local)
    (h : ∀ g L' h₁ tk₁, s.toks ≤ tk₁ → Sub M s.heap g → Fr g L' h₁ (fun y => binds.reverse.lookup y) → News g L' h₁ news → (K w.params).In g → Top p lo mean mg mb g → (∀ b o, g.get? b = some o → s.heap.get? b = some o) →
      (∀ b o, b ∉ news.map (·.1) → s.heap.get? b = some o → g.get? b = some o) →
      wpAny (model prog w) (A.deeper (envOf qual scope L' f cdv)) (execs body (envOf qual scope L' f cdv))
        (fun fl s' => EnterEnd M s (fun v s' => R (.ok (.ret v)) s') (match fl with | .ret v => v | _ => .none) s')
        (fun e s' => wpAny (model prog w) (A.deeper (envOf qual scope L' f cdv)) (leaving (envOf qual scope L' f cdv) e) (fun _ s'' => R (.error e) s'') (fun e' s'' => R (.error e') s'') s')
        { s with heap := h₁, toks := tk₁ })
    (hco : scope.isCoroutine = false := by rfl) (hgen : scope.isGenerator = false := by rfl) (hk : scope.kind = .function := by rfl)
    (hcell : ∀ x ∈ scope.names, x.2 ≠ .cell := by decide) : codeAny (model prog w) A (.call (.ref f) args) R s := by
  obtain ⟨st, X, T⟩ := G
  refine codeAny_call_def (fd := fnOf name qual params body scope dV kV doc pm an cdv ct) (body := body) (binds := binds) hroom ((X.keeps st) _ _ ho) rfl (T.nolimit.keeps st) (codeRec_of (X.keeps st) hcd) rfl hbind hcell hloc (fun h₁ hns hk₁ => ?_) hco hgen hk
  have nm : ∀ b o, h₀.get? b = some o → b ∉ news.map (·.1) := fun b o e q => by
    walk_at "9W"
    rw [(N p hp).2] at e; cases e
  have stg : ∀ b o, h₀.get? b = some o → (hideAll s.heap (news.map (·.1))).get? b = some o := fun b o e => hideAll_get _ (st b o e) (nm b o e)
  have sub : Sub M s.heap (hideAll s.heap (news.map (·.1))) := ⟨fun b o hb e => hideAll_get _ e fun q => by
    walk_at "9W"
    exact hb (hM p hp), fun b o e => of_hideAll _ e⟩
  refine wpAny_mono (h (hideAll s.heap (news.map (·.1))) s.heap.objs.size h₁ _ (Nat.le_add_right _ _) sub ⟨hns, fun b o e => hk₁ b o (of_hideAll _ e), Nat.le_of_eq (hideAll_size _ _)⟩
    (fun p hp => ⟨hk₁ _ _ (N p hp).1, Nat.ne_of_lt (Heap.lt_size (N p hp).1), hideAll_none _ (List.mem_map_of_mem hp)⟩) (X.keeps stg) (T.keeps stg) (fun b o e => of_hideAll _ e) (fun b o hb e => hideAll_get _ e hb)) (fun fl s' hl => ?_) fun _ _ y => y
  obtain ⟨g', L', m', news', S', F', N', k⟩ := hl
  refine k (fun b o hb e => F'.keep b o (S'.1 b o hb e)) fun p hp => ⟨(N' p hp).1, ?_⟩
  by_cases q : p.1 ∈ M
  · exact .inl q
  · right
    cases z : s.heap.get? p.1 with
    | none => rfl
    | some o => have := (N' p hp).2.2; rw [S'.1 _ _ q z] at this; cases this
theorem enterM {R : Result → Shared → Prop} {name qual : Str} {params : Arguments} {body : List Stmt} {scope : Scope} {dV kV doc pm cdv ct oc : Value} {an od : Option Addr} {osl : Array (Option Value)} {f : Addr} {args : Args} {binds : List (Str × Value)}
    (G : Gd w p lo mean mg mb h₀ s) (N : Led h₀ s.heap news)
    (ho : (K w.params).lookup f = some ⟨oc, od, .func (fnOf name qual params body scope dV kV doc pm an cdv ct), osl⟩) (hcd : codeIn (K w.params) cdv qual = true) (hroom : A.depth < recursionLimit)
    (hbind : BindsTo s (fnOf name qual params body scope dV kV doc pm an cdv ct) args binds) (hloc : ∀ y ∈ binds, scope.names.lookup y.1 = some .local)
    (h : ∀ g L' h₁ tk₁, s.toks ≤ tk₁ → Sub (news.map (·.1)) s.heap g → Fr g L' h₁ (fun y => binds.reverse.lookup y) → News g L' h₁ news → (K w.params).In g → Top p lo mean mg mb g → (∀ b o, g.get? b = some o → s.heap.get? b = some o) →
      (∀ b o, b ∉ news.map (·.1) → s.heap.get? b = some o → g.get? b = some o) →
      wpAny (model prog w) (A.deeper (envOf qual scope L' f cdv)) (execs body (envOf qual scope L' f cdv))
        (fun fl s' => EnterEnd (news.map (·.1)) s (fun v s' => R (.ok (.ret v)) s') (match fl with | .ret v => v | _ => .none) s')
        (fun e s' => wpAny (model prog w) (A.deeper (envOf qual scope L' f cdv)) (leaving (envOf qual scope L' f cdv) e) (fun _ s'' => R (.error e) s'') (fun e' s'' => R (.error e') s'') s')
        { s with heap := h₁, toks := tk₁ })
    (hco : scope.isCoroutine = false := by rfl) (hgen : scope.isGenerator = false := by rfl) (hk : scope.kind = .function := by rfl)
    (hcell : ∀ x ∈ scope.names, x.2 ≠ .cell := by decide) : codeAny (model prog w) A (.call (.ref f) args) R s :=
  enterM2 (M := news.map (·.1)) (fun p hp => List.mem_map_of_mem hp) G N ho hcd hroom hbind hloc h hco hgen hk hcell
end
theorem toks_gen {M : Model} {A : Around} {α : Type} {t : Sem α} {Q : α → Shared → Prop} {E : Value → Shared → Prop} {h : Heap} {g : Array GenState} {d : Drawn} {X : Nat} {os : OsState}
    (k : ∀ tk, X + 1 ≤ tk → wpAny M A t Q E ⟨h, g, d, tk, os⟩) : wpAny M A t Q E ⟨h, g, d, X + 1, os⟩ := k _ (Nat.le_refl _)
inductive At where
  | int (i : Int)
  | nil
  | t
  deriving DecidableEq
inductive AtV : Value → At → Prop
  | int {i : Int} {tk : Tok} : AtV (.int i tk) (.int i)
  | nil : AtV (.ref 124) .nil
  | t : AtV (.ref 127) .t
noncomputable def At.isInt : At → Bool
  | .int _ => true
  | _ => false
end
noncomputable def isIter (o : Obj) : Bool := match o.cls with
  | .type n => n == "list_iterator" || n == "tuple_iterator" || n == "range_iterator" || n == "enumerate" || n == "zip"
  | _ => false
section
variable {prog : Program} {w : World} {A : Around} {E : Value → Shared → Prop} {s : Shared} {env : Env} {h₀ : Heap} {target : Expr} {body : List Stmt} {Q : Flow → Shared → Prop}
def TurnEnd (h₀ : Heap) (L : Addr) (own : List (Addr × Obj)) (J : (Str → Option Value) → List (Addr × Obj) → Nat → Prop) (s₁ : Shared) (s₂ : Shared) : Prop :=
  ∃ h' tk m' news', s₂ = { s₁ with heap := h', toks := tk } ∧ Fr h₀ L h' m' ∧ News h₀ L h' (news' ++ own) ∧ (∀ p ∈ news', isIter p.2 = false) ∧ J m' news' tk
theorem TurnEnd.mk {L : Addr} {own news' : List (Addr × Obj)} {J : (Str → Option Value) → List (Addr × Obj) → Nat → Prop} {s₁ : Shared} {hS : Heap} {tS : Nat} {gS : Array GenState} {dS : Drawn} {oS : OsState} {m' : Str → Option Value}
    (F : Fr h₀ L hS m') (N : News h₀ L hS (news' ++ own)) (o : ∀ p ∈ news', isIter p.2 = false) (j : J m' news' tS) (hg : gS = s₁.gens := by rfl) (hd : dS = s₁.drawn := by rfl) (ho : oS = s₁.os := by rfl) : TurnEnd h₀ L own J s₁ ⟨hS, gS, dS, tS, oS⟩ :=
  ⟨hS, tS, m', news', by rw [hg, hd, ho], F, N, o, j⟩
def TurnPost (h₀ : Heap) (L : Addr) (own : List (Addr × Obj)) (J : (Str → Option Value) → List (Addr × Obj) → Nat → Prop) (s₁ : Shared) (Q : Flow → Shared → Prop) (f : Flow) (s₂ : Shared) : Prop :=
  match f with
  | .ret v => Q (.ret v) s₂
  | .brk => Q .next s₂
  | _ => TurnEnd h₀ L own J s₁ s₂
structure Turning (prog : Program) (w : World) (A : Around) (h₀ : Heap) (env : Env) (target : Expr) (body : List Stmt) (Q : Flow → Shared → Prop) (E : Value → Shared → Prop) (s₂ : Shared) (n : Nat) (P : Nat → Value → Heap → Prop) (m : Str → Option Value) (news : List (Addr × Obj))
    (J : Nat → (Str → Option Value) → List (Addr × Obj) → Nat → Prop) : Prop where
  init : J 0 m news s₂.toks
  iters : ∀ p ∈ news, isIter p.2 = false
  up : ∀ i m news tk tk', J i m news tk → tk ≤ tk' → J i m news tk'
  step : ∀ i v m₁ news₁ h₁ tk₁ own, i < n → P i v h₁ → J i m₁ news₁ tk₁ → s₂.toks ≤ tk₁ → OwnOff own (news₁.map (·.1)) → (∀ p ∈ news₁, isIter p.2 = false) →
      Fr h₀ env.locals h₁ m₁ → News h₀ env.locals h₁ (news₁ ++ own) →
      wpAny (model prog w) A (assign target env v) (fun _ s₃ => wpAny (model prog w) A (execs body env) (TurnPost h₀ env.locals own (J (i + 1)) { s₂ with heap := h₁, toks := tk₁ } Q) E s₃) E { s₂ with heap := h₁, toks := tk₁ }
  fin : ∀ h' tk m' news', s₂.toks ≤ tk → Fr h₀ env.locals h' m' → News h₀ env.locals h' news' → (∀ p ∈ news', isIter p.2 = false) → J n m' news' tk → Q .next { s₂ with heap := h', toks := tk }
theorem Turning.to {n : Nat} {P : Nat → Value → Heap → Prop} {m : Str → Option Value} {news : List (Addr × Obj)} {J : Nat → (Str → Option Value) → List (Addr × Obj) → Nat → Prop} {s₁ s₂ : Shared} (T : Turning prog w A h₀ env target body Q E s₁ n P m news J)
    (ht : s₂.toks = s₁.toks) (hg : s₂.gens = s₁.gens) (hd : s₂.drawn = s₁.drawn) (ho : s₂.os = s₁.os) : Turning prog w A h₀ env target body Q E s₂ n P m news J := by
  obtain ⟨hp, g, d, t, o⟩ := s₁
  obtain ⟨hp', g', d', t', o'⟩ := s₂
  dsimp only at ht hg hd ho
  subst ht hg hd ho
  exact ⟨T.init, T.iters, T.up, T.step, T.fin⟩
def TurnsMy (prog : Program) (w : World) (A : Around) (h₀ : Heap) (env : Env) (target : Expr) (body : List Stmt) (Q : Flow → Shared → Prop) (E : Value → Shared → Prop) (it : Value) (s₂ : Shared) : Prop :=
  ∃ (I : Addr) (fp wr : List Addr) (n : Nat) (P Md : Nat → Value → Heap → Prop) (St : Nat → Heap → Prop) (m : Str → Option Value) (news : List (Addr × Obj)) (J : Nat → (Str → Option Value) → List (Addr × Obj) → Nat → Prop),
    it = .ref I ∧ KTurns prog w A target I fp wr n P Md St ∧ env.locals ∉ fp ∧ (∀ b ∈ wr, h₀.get? b = none) ∧ (∀ b ∈ fp, h₀.get? b = none → b ∈ wr) ∧ (∀ i h, St i h → ∀ b ∈ wr, ∃ o, h.get? b = some o ∧ isIter o = true) ∧ St 0 s₂.heap ∧ Fr h₀ env.locals s₂.heap m ∧ News h₀ env.locals s₂.heap news ∧
    Turning prog w A h₀ env target body Q E s₂ n P m news J
theorem my_loop {R : Result → Shared → Prop} {I : Addr} {fp wr : List Addr} {n : Nat} {P Md : Nat → Value → Heap → Prop} {St : Nat → Heap → Prop} {m : Str → Option Value} {news : List (Addr × Obj)} (W : KTurns prog w A target I fp wr n P Md St)
    (hLf : env.locals ∉ fp) (hwr : ∀ b ∈ wr, h₀.get? b = none) (hfw : ∀ b ∈ fp, h₀.get? b = none → b ∈ wr) (hlive : ∀ i h, St i h → ∀ b ∈ wr, ∃ o, h.get? b = some o ∧ isIter o = true) (hst : St 0 s.heap) (F : Fr h₀ env.locals s.heap m) (N : News h₀ env.locals s.heap news)
    (J : Nat → (Str → Option Value) → List (Addr × Obj) → Nat → Prop) (T : Turning prog w A h₀ env target body (fun f s' => R (.ok f) s') (notedBy (model prog w) A env fun e s' => R (.error e) s') s n P m news J) :
    codeAny (model prog w) A (.forLoop target (.ref I) body [] env) R s := by
  revert W hLf hwr hfw hlive hst F N J T
  revert prog w A s env h₀ target body R I fp wr n P Md St m news
  walk_at "9c"
  intro prog w A s env h₀ target body R I fp wr n P Md St
  clear_value prog w A s env h₀ target body R I fp wr n P Md St
  walk_at "9e"
  intro m news
  clear_value m news
  walk_at "in"
  obtain ⟨h0, hit, up, step, hR⟩ := T
  have hLw : env.locals ∉ wr := fun h => hLf (W.sub _ h)
  have old : ∀ b o, h₀.get? b = some o → b ∉ wr := fun b o e hb => by rw [hwr b hb] at e; cases e
  have offw : ∀ i h' news', St i h' → News h₀ env.locals h' news' → (∀ p ∈ news', isIter p.2 = false) → ∀ p ∈ news', p.1 ∉ wr := fun i h' news' st N' hi p hp hw => by
    obtain ⟨o, ho, ht⟩ := hlive i h' st _ hw
    rw [(N' p hp).1] at ho
    rw [← Option.some.inj ho, hi p hp] at ht; cases ht
  refine codeAny_forLoop_any
    (fun k s' => ∃ h' tk m' news' i, s' = { s with heap := h', toks := tk } ∧ s.toks ≤ tk ∧ St i h' ∧ Fr h₀ env.locals h' m' ∧ News h₀ env.locals h' news' ∧ (∀ p ∈ news', isIter p.2 = false) ∧ J i m' news' tk ∧ i ≤ n ∧ k = n + 1 - i) ?_ (n + 1)
    ⟨s.heap, s.toks, m, news, 0, rfl, Nat.le_refl _, hst, F, N, hit, h0, Nat.zero_le _, rfl⟩
  rintro k s' ⟨h', tk, m', news', i, rfl, htk, hst', F', N', hit', hJ, hi, rfl⟩
  have hnw' := offw i h' news' hst' N' hit'
  have next : ∀ h₁ : Heap, (∀ b o, b ∉ wr → h'.get? b = some o → h₁.get? b = some o) → Fr h₀ env.locals h₁ m' ∧ News h₀ env.locals h₁ news' := fun h₁ hk₁ =>
    ⟨⟨F'.ns.at' fun o e => hk₁ _ o hLw e, fun b o e => hk₁ b o (old b o e) (F'.keep b o e), F'.above⟩, fun p hp => ⟨hk₁ _ _ (hnw' p hp) (N' p hp).1, (N' p hp).2⟩⟩
  by_cases hlt : i < n
  · refine wpAny_with_toks (n := tk) (Nat.le_refl _) (W.item i _ _ _ hlt hst' fun v h₁ tk₁ hMd hk₁ hle => ?_)
    refine W.go i v _ _ _ hMd fun h₂ hP hst₂ hk₂ => ?_
    have hle' : tk ≤ tk₁ := hle
    obtain ⟨F₂, N₂⟩ := next h₂ fun b o hb x => hk₂ b o hb (hk₁ b o hb x)
    have Nown : News h₀ env.locals h₂ (PyProof.Rows.ownOf h₀ fp h₂) := news_ownOf hLf
    have hoff : OwnOff (PyProof.Rows.ownOf h₀ fp h₂) (news'.map (·.1)) := fun p hp b hb e => by
      obtain ⟨q, hq, e'⟩ := List.mem_map.mp hb
      exact hnw' q hq (by rw [e', ← e]; exact hfw _ (ownOf_sub p hp) (Nown p hp).2.2)
    refine wpAny_mono (wpAny_toks_of (n := s.toks) (Nat.le_trans htk hle') (step i v m' news' h₂ tk₁ (PyProof.Rows.ownOf h₀ fp h₂) hlt hP (up _ _ _ _ _ hJ hle') (Nat.le_trans htk hle') hoff hit' F₂ (fun p hp => (List.mem_append.mp hp).elim (N₂ p) (Nown p)))) (fun _ s₂ h₂' => ?_) fun _ _ e => e.2
    refine wpAny_mono (wpAny_toks_of (n := s.toks) h₂'.1 h₂'.2) (fun f s₃ h₃ => ?_) fun _ _ e => e.2
    obtain ⟨hle₃, h₃⟩ := h₃
    have fin : TurnEnd h₀ env.locals (PyProof.Rows.ownOf h₀ fp h₂) (J (i + 1)) { s with heap := h₂, toks := tk₁ } s₃ → s.toks ≤ s₃.toks → ∃ m, m < n + 1 - i ∧ ∃ h' tk m' news' i, s₃ = { s with heap := h', toks := tk } ∧ s.toks ≤ tk ∧ St i h' ∧ Fr h₀ env.locals h' m' ∧ News h₀ env.locals h' news' ∧ (∀ p ∈ news', isIter p.2 = false) ∧ J i m' news' tk ∧ i ≤ n ∧ m = n + 1 - i := by
      rintro ⟨h₃', tk₃, m₂, news₂, rfl, F₃, N₃, ha₃, hJ₃⟩ hle₃
      refine ⟨n + 1 - (i + 1), by omega, h₃', tk₃, m₂, news₂, i + 1, rfl, hle₃, ?_, F₃, fun p hp => N₃ p (List.mem_append_left _ hp), ha₃, hJ₃, hlt, rfl⟩
      refine W.frame _ _ _ hst₂ fun b hb o e => ?_
      cases hn : h₀.get? b with
      | some o₀ =>
        have : o₀ = o := by have q := F₂.keep b o₀ hn; rw [e] at q; exact (Option.some.inj q).symm
        exact this ▸ F₃.keep b o₀ hn
      | none => exact (N₃ _ (List.mem_append_right _ (mem_ownOf hb hn e))).1
    cases f with
    | ret v => exact h₃
    | brk => exact h₃
    | cont => exact fin h₃ hle₃
    | next => exact fin h₃ hle₃
  · have hin : i = n := by omega
    subst hin
    refine wpAny_with_toks (n := tk) (Nat.le_refl _) (W.done _ _ _ hst' fun h₁ tk₁ hk₁ hle => wpAny_execs_nil ?_)
    obtain ⟨F₁, N₁⟩ := next h₁ hk₁
    exact hR h₁ tk₁ m' news' (Nat.le_trans htk hle) F₁ N₁ hit' (up _ _ _ _ _ hJ hle)
theorem For_my {iter : Expr} {pos : Pos} {m : Str → Option Value} (_F : Fr h₀ env.locals s.heap m)
    (h : wpAny (model prog w) A (eval iter env) (fun xv s₁ => wpAny (model prog w) A (pyIter xv) (fun it s₂ => TurnsMy prog w A h₀ env target body Q E it s₂) E s₁) E s)
    (hs : ∀ x, foldedSetIterable iter env x = pure x := by intro _; rfl)
    (hE : PassesOwn (model prog w) A env E := by passes_own) :
    wpAny (model prog w) A (exec (.For target iter body [] pos) env) Q E s := by
  revert _F h hs hE
  walk_at "9aO"
  walk_at "9i"
  walk_at "9aF"
  clear_value prog w A E s env h₀ target
  walk_at "9f"
  intro body Q iter pos
  clear_value body Q iter pos
  walk_at "9g"
  intro m
  clear_value m
  walk_at "in"
  walk_at "9y"
  obtain ⟨I, fp, wr, n, P, Md, St, m, news, J, rfl, W, hLf, hwr, hfw, hlive, hst, F, N, T⟩ := h₂
  exact my_loop (R := fun r s' => match r with | .ok f => Q f s' | .error e => cameBackBy (model prog w) A env E e s') W hLf hwr hfw hlive hst F N J
    ⟨T.init, T.iters, T.up, fun i v m₁ news₁ h₁ tk₁ own a b c d e f F₁ N₁ => wpAny_mono (T.step i v m₁ news₁ h₁ tk₁ own a b c d e f F₁ N₁) (fun _ _ x => wpAny_passesOwn hE x) hE, T.fin⟩
theorem letGo_any {I : Addr} {v : Value} {Q : Unit → Shared → Prop} {n : String} {vs : Array Value} {o : Obj} (ho : s.heap.get? I = some o) (hc : o.cls = .type n) (hd : o.data = .fields vs)
    (hn : ["enumerate", "zip", "dict_itemiterator", "dict_reverseitemiterator", "odict_iterator", "itertools.zip_longest", "itertools.pairwise"].contains n = false) (hQ : Q () s) : wpAny (model prog w) A (letOwnedTupleGo target (.ref I) v) Q E s := by
  unfold letOwnedTupleGo
  have fin : ∀ a, wpAny (model prog w) A (match o.cls, o.data with
      | .type n, .fields vs =>
        if (["enumerate", "zip", "dict_itemiterator", "dict_reverseitemiterator", "odict_iterator", "itertools.zip_longest", "itertools.pairwise"].contains n && vs[0]? == some (rawInt a)) = true then do
          rule "for.unpacks-the-owned-tuple"
          updateField I 0 .none
        else pure ()
      | _, _ => pure ()) Q E s := by
    intro a
    rw [hc, hd]
    dsimp only
    rw [if_neg (by
      intro h
      rw [hn, Bool.false_and] at h
      cases h)]
    exact wpAny_pure hQ
  cases target <;> try exact wpAny_pure hQ
  all_goals
    cases v <;> try exact wpAny_pure hQ
    exact wpAny_bind (wpAny_load ho (fin _))
theorem my_enum {elts : List Expr} {k : Nat} {pos : Pos} {l : Addr} {items : Array Value} {m : Str → Option Value} {news : List (Addr × Obj)} (J : Nat → (Str → Option Value) → List (Addr × Obj) → Nat → Prop) (hh : A.handled = none) (F : Fr h₀ env.locals s.heap m) (N : News h₀ env.locals s.heap news) (hl : h₀.IsList l items)
    (T : Turning prog w A h₀ env (.Tuple elts k pos) body Q E s items.size (fun i v h => ∃ T vals, v = .ref T ∧ (∃ t x, items[i]? = some x ∧ vals = #[.int i t, x]) ∧ h.IsTuple T vals) m news J) :
    wpAny (model prog w) A (call (.type "enumerate") [.ref l]) (fun xv s₁ => wpAny (model prog w) A (pyIter xv) (fun it s₂ => TurnsMy prog w A h₀ env (.Tuple elts k pos) body Q E it s₂) E s₁) E s := by
  revert J hh F N hl T
  revert prog w A E s env h₀ body Q elts k pos l items m news
  walk_at "9c"
  intro prog w A E s env h₀ body Q elts k pos l items m news
  clear_value prog w A E s env h₀ body Q elts k pos l items m news
  walk_at "in"
  have hls : s.heap.IsList l items := hl.at fun o e => F.keep l o e
  obtain ⟨ol, hol, _⟩ := id hl
  have hlt : l < h₀.objs.size := Heap.lt_size hol
  have hls' : l < s.heap.objs.size := Heap.lt_size (F.keep _ _ hol)
  have hlL : l < env.locals := Nat.lt_of_lt_of_le hlt F.above
  walk_at "9aS"
  refine call_enumerate_list hls fun h' hE hI hsz hk => ?_
  refine wpAny_pyIter_enum hE ?_
  have n1 : s.heap.objs.size + 1 ≠ s.heap.objs.size := Nat.succ_ne_self _
  have n2 : l ≠ s.heap.objs.size + 1 := Nat.ne_of_lt (Nat.lt_succ_of_lt hls')
  have n3 : l ≠ s.heap.objs.size := Nat.ne_of_lt hls'
  have fresh : ∀ b, s.heap.objs.size ≤ b → h₀.get? b = none := fun b hb => by
    cases e : h₀.get? b with
    | none => rfl
    | some o => exact absurd (Heap.lt_size (F.keep b o e)) (Nat.not_lt.mpr hb)
  refine ⟨_, _, _, _, _, _, _, m, news, J, rfl, KTurns.ofWalksU (WalksT.enumerate hh (s.heap.objs.size + 1) s.heap.objs.size l n1 n2 n3 items).toU, ?_, ?_, ?_, ?_, ⟨⟨_, hE⟩, hI, hls.at fun o e => hk l o e⟩, F.keeps hk, N.grown hk, T.to rfl rfl rfl rfl⟩
  · intro hm
    simp only [mem_cons, not_mem_nil, or_false] at hm
    rcases hm with e | e | e
    · exact absurd hLs (by rw [e]; exact Nat.not_lt.mpr (Nat.le_succ _))
    · exact absurd hLs (by rw [e]; exact Nat.lt_irrefl _)
    · exact absurd hlL (by rw [e]; exact Nat.lt_irrefl _)
  · intro b hb
    walk_at "9C"
    rcases hb with rfl | rfl
    · exact fresh _ (Nat.le_succ _)
    · exact fresh _ (Nat.le_refl _)
  · intro b hb hn
    walk_at "9aP"
    rcases hb with rfl | rfl | rfl
    · exact .inl rfl
    · exact .inr rfl
    · rw [hol] at hn; cases hn
  · intro i h st b hb
    obtain ⟨⟨old, he⟩, ⟨o, ho, hc, _⟩, _⟩ := st
    walk_at "9C"
    rcases hb with rfl | rfl
    · exact ⟨_, he, rfl⟩
    · exact ⟨o, ho, by unfold isIter; rw [hc]; rfl⟩
end
noncomputable def frs (outer : List Env) : List Addr := outer.filterMap (·.frame)
def FF (h : Heap) (outer : List Env) : Prop := h.FunFrames (hideAll h (frs outer)) outer
def Flew (h : Heap) (outer : List Env) (e : Addr) (h' : Heap) : Prop :=
  ∃ a0, Heap.FlyingW (hideAll h (frs outer)) outer e (.ref 98) a0 h' ∧ h.UpToSlots h'
theorem FF.nil {h : Heap} : FF h [] := trivial
theorem funFrames_re' {h h' B B' : Heap} {l : List Env} (k : ∀ b ∈ frs l, ∀ o, h.get? b = some o → (∀ vs, o.data ≠ .fields vs) → ∃ o', h'.get? b = some o' ∧ o'.data = o.data) (z : h.FunFrames B l) (hb : ∀ b ∈ frs l, B'.get? b = none) : h'.FunFrames B' l := by
  induction l with
  | nil => trivial
  | cons env l ih =>
    obtain ⟨hk, ⟨L, o, hf, hn, ho, hd⟩, hr⟩ := z
    have e : frs (env :: l) = L :: frs l := by unfold frs; rw [List.filterMap_cons, hf]
    rw [e] at k hb
    obtain ⟨o', ho', hd'⟩ := k L (.head _) o ho hd
    exact ⟨hk, ⟨L, o', hf, hb L (.head _), ho', fun vs => hd' ▸ hd vs⟩, ih (fun b hm => k b (.tail _ hm)) hr fun b hm => hb b (.tail _ hm)⟩
theorem funFrames_re {h h' B B' : Heap} (k : ∀ b o, h.get? b = some o → (∀ vs, o.data ≠ .fields vs) → ∃ o', h'.get? b = some o' ∧ o'.data = o.data) {l : List Env} (hl : h.FunFrames B l) (hb : ∀ b ∈ frs l, B'.get? b = none) : h'.FunFrames B' l :=
  funFrames_re' (fun b _ => k b) hl hb
theorem FF.keeps {h h' : Heap} {outer : List Env} (F : FF h outer) (k : ∀ b o, h.get? b = some o → (∀ vs, o.data ≠ .fields vs) → ∃ o', h'.get? b = some o' ∧ o'.data = o.data) : FF h' outer :=
  funFrames_re k F fun b hb => hideAll_none _ hb
theorem FF.kept {h h' : Heap} {outer : List Env} (F : FF h outer) (k : Kept [] h h') : FF h' outer := F.keeps fun b o e _ => ⟨o, k.get e, rfl⟩
theorem FF.mem {h : Heap} {outer : List Env} (F : FF h outer) {b : Addr} (hb : b ∈ frs outer) : ∃ o, h.get? b = some o ∧ ∀ vs, o.data ≠ .fields vs := (Heap.FunFrames.mem F hb).2
section
variable {M : Model} {A : Around} {E : Value → Shared → Prop} {s' : Shared} {g h : Heap} {outer : List Env} {L a e : Addr} {m : Str → Option Value} {name : Str} {scope : Scope} {cd : Value} {Q : Unit → Shared → Prop}
theorem FF.push (K : FF g outer) (F : Fr g L h m) (hk : scope.kind = .function := by rfl) : FF h (envOf name scope L a cd :: outer) := by
  have ef : frs (envOf name scope L a cd :: outer) = L :: frs outer := rfl
  refine .cons (by show scope.kind ≠ .module; rw [hk]; decide) rfl F.ns (hideAll_none _ (by rw [ef]; exact .head _)) ?_
  exact funFrames_re (fun b o e _ => ⟨o, F.keep b o e, rfl⟩) K fun b hb => hideAll_none _ (by rw [ef]; exact .tail _ hb)
theorem leave_flew {s₀ : Heap} (hfr : A.frames = some outer) (F : Fr g L h m) (hsg : ∀ b o, s₀.get? b = some o → b ∉ frs outer → g.get? b = some o) (hsu : s₀.UpToSlots h)
    (R : Flew h (envOf name scope L a cd :: outer) e s'.heap)
    (hQ : ∀ h', Flew s₀ outer e h' → Q () { s' with heap := h' }) :
    wpAny M (A.deeper (envOf name scope L a cd)) (leaving (envOf name scope L a cd) (.ref e)) Q E s' := by
  obtain ⟨a0, hfl, hu⟩ := R
  refine wpAny_leaves_onW (Around.frames_deeper hfr) rfl hfl fun h' x1 x2 => hQ h' ⟨a0, flyingW_base (fun b o q => ?_) x1, hsu.trans (hu.trans x2)⟩
  have q1 := of_hideAll _ q
  walk_at "9aj"
  have q3 := hsg b o q1 q2
  refine hideAll_get _ (F.keep b o q3) fun z => ?_
  walk_at "9aq"
  · walk_at "9ah"
  · exact q2 z
theorem leave_made {s₀ : Heap} {oe : Obj} {vs : Array Value} {a0 : Value} (hfr : A.frames = some outer) (F : Fr g L h m) (K : FF g outer) (hsg : ∀ b o, s₀.get? b = some o → b ∉ frs outer → g.get? b = some o) (hsu : s₀.UpToSlots h)
    (k : Kept [] h s'.heap) (hne : h.get? e = none) (he : s'.heap.get? e = some oe) (hc : oe.cls = .ref 98) (hd : oe.data = .fields vs) (h0 : vs[0]? = some a0) (h1 : vs[1]? = some .none)
    (hQ : ∀ h', Flew s₀ outer e h' → Q () { s' with heap := h' }) (hk : scope.kind = .function := by rfl) :
    wpAny M (A.deeper (envOf name scope L a cd)) (leaving (envOf name scope L a cd) (.ref e)) Q E s' := by
  have ff : FF s'.heap (envOf name scope L a cd :: outer) := (K.push (name := name) (a := a) (cd := cd) F hk).kept k
  have ff' : s'.heap.FunFrames (hideAll h (frs (envOf name scope L a cd :: outer))) (envOf name scope L a cd :: outer) := funFrames_re (fun b o e _ => ⟨o, e, rfl⟩) ff fun b hb => hideAll_none _ hb
  refine wpAny_leaving_firstW (a0 := a0) (Around.frames_deeper hfr) ff' rfl he (fun b o q => k.get (of_hideAll _ q)) ?_ hd h1 h0 fun h' hL => ?_
  · cases q : (hideAll h (frs (envOf name scope L a cd :: outer))).get? e with
    | none => rfl
    | some o => have := of_hideAll _ q; rw [hne] at this; cases this
  obtain ⟨k1, ⟨_, _, k2⟩, k3, k4⟩ := hL
  rw [hc] at k3
  have hne0 : (hideAll h (frs (envOf name scope L a cd :: outer))).get? e = none := by
    cases q : (hideAll h (frs (envOf name scope L a cd :: outer))).get? e with
    | none => rfl
    | some o => have := of_hideAll _ q; rw [hne] at this; cases this
  have x1 : Heap.FlyingW (hideAll h (frs (envOf name scope L a cd :: outer))) outer e (.ref 98) a0 h' := ⟨k1, hne0, k2, k3⟩
  refine hQ h' ⟨a0, flyingW_base (fun b o q => ?_) x1, hsu.trans ((Heap.UpToSlots.of_keeps fun b o q => k.get q).trans k4)⟩
  have q1 := of_hideAll _ q
  walk_at "9aj"
  have q3 := hsg b o q1 q2
  refine hideAll_get _ (F.keep b o q3) fun z => ?_
  walk_at "9aq"
  · walk_at "9ah"
  · exact q2 z
end
section
open PySem PySem.W PySem.Calls PyProof.Rows PyProof.V Builtin Builtin.ObjectAttr
theorem refuse_exc (self : Value) : refuseLoop self "__setattr__" [.ref 98, .type "Exception", .type "BaseException", .type "object"] = pure () := by
  rw [refuseLoop_ref]; exact PySem.F.store_Exception.passes self
section
variable {prog : Program} {w : World} {A : Around} {E : Value → Shared → Prop} {s : Shared} {x : Addr}
theorem exc_store0 {name : Str} {v : Value} {vs : Array Value} {sl : Array (Option Value)} {Q : Unit → Shared → Prop} (X : (K w.params).In s.heap) (hx : s.heap.get? x = some ⟨.ref 98, none, .fields vs, sl⟩)
    (hsa : findIn (K w.params) (.ref 98) "__setattr__" = some (some (.builtin "object.__setattr__"))) (hcl : ∃ cd, clsIn (K w.params) 98 = some cd ∧ cd.mro = [.ref 98, .type "Exception", .type "BaseException", .type "object"] ∧ cd.hasDict = true)
    (hf : findIn (K w.params) (.ref 98) name = some none)
    (hq : ∀ h' tk' d, (∀ b o, b ≠ x → s.heap.get? b = some o → h'.get? b = some o) → h'.get? x = some ⟨.ref 98, some d, .fields vs, sl⟩ → h'.Ns1 d (fun y => if y = name then some v else none) → s.heap.get? d = none → d ≠ x → Q () { s with heap := h', toks := tk' }) :
    wpAny (model prog w) A (setAttr (.ref x) name v) Q E s := by
  revert X hx hsa hcl hf hq
  revert prog w A E s x name v vs sl Q
  walk_at "9i"
  intro prog w A E s x name v
  clear_value prog w A E s x name v
  walk_at "9e"
  intro vs sl
  clear_value vs sl
  walk_at "9g"
  intro Q
  clear_value Q
  walk_at "in"
  obtain ⟨cd, hcd, hmro, hhd⟩ := hcl
  have I : InstAt s.heap x ⟨.ref 98, none, .fields vs, sl⟩ 98 none := ⟨hx, rfl, rfl, trivial⟩
  refine set_plain X I hsa ?_
  have SF := PySem.F.store_Exception
  have sub : Looks (model prog w) s.heap (isInstance (.ref x) (.type "object")) true := I.type.andThen (looks_mroIn X (by unfold mroIn; rw [hcd, Option.bind_some, if_neg (by rw [hmro]; decide), hmro]; decide))
  refine codeAny_call_builtin SF.slot.plain SF.entry (@check_slot (model prog w) _ _ { s with toks := s.toks + 1 } "object.__setattr__" "object" "__setattr__" (.ref x) [.str name s.toks, v] [] _ SF.kind SF.split sub (SF.args (.ref x) (.str name s.toks) v) ?_)
  have hm : Looks (model prog w) s.heap (mroOf (.ref 98)) cd.mro := (looks_clsIn X hcd).andThen .now
  have I' : InstAt ({ s with toks := s.toks + 1 } : Shared).heap x ⟨.ref 98, none, .fields vs, sl⟩ 98 none := I
  rw [osa_eq, refuse_eq]
  refine wpAny_bind (wpAny_bind (I'.type.here (wpAny_bind (Looks.here (s := { s with toks := s.toks + 1 }) hm ?_))))
  rw [hmro, refuse_exc]
  refine wpAny_pure (wpAny_bind (I'.type.here (wpAny_bind (Looks.here (s := { s with toks := s.toks + 1 }) (looks_findIn X hf) (wpAny_bind (wpAny_pure ?_))))))
  show wpAny _ _ (storeInOwnDict _ _ _ _ _ _) _ _ _
  unfold storeInOwnDict ownDictForStores instanceDict
  refine wpAny_bind (wpAny_pure ?_)
  rw [if_neg (by decide)]
  refine wpAny_bind (wpAny_bind (wpAny_loadPart hx ?_))
  dsimp only
  refine wpAny_bind (Looks.here (s := { s with toks := s.toks + 1 }) (looks_clsIn X hcd) ?_)
  rw [hhd]
  simp only [Bool.not_true, Bool.false_eq_true, if_false, typeHasDict, Bool.or_self]
  have hx₁ : (s.heap.push { cls := .type "dict", data := .dict #[] }).get? x = some ⟨.ref 98, none, .fields vs, sl⟩ := Heap.get?_push_of_some _ hx
  have hxs : x ≠ s.heap.objs.size := Nat.ne_of_lt (Heap.lt_size hx)
  refine wpAny_bind (wpAny_alloc ?_)
  refine wpAny_bind (wpAny_update hx₁ ?_)
  refine wpAny_pure ?_
  show wpAny _ _ (storeInDict s.heap.objs.size _ _ _) _ _ _
  have hgd : ((s.heap.push { cls := .type "dict", data := .dict #[] }).update x fun o => { cls := o.cls, dict := some s.heap.objs.size, data := o.data, slots := o.slots }).get? s.heap.objs.size
      = some { cls := .type "dict", data := .dict #[] } := (Heap.get?_update_ne _ _ _ _ hxs.symm).trans (Heap.get?_push_at rfl rfl)
  have hnd : ((s.heap.push { cls := .type "dict", data := .dict #[] }).update x fun o => { cls := o.cls, dict := some s.heap.objs.size, data := o.data, slots := o.slots }).Ns s.heap.objs.size (fun _ => none) :=
    ⟨_, #[], _, hgd, rfl, fun e he => absurd he (by simp), fun _ => rfl⟩
  unfold storeInDict newKeyGuard
  refine wpAny_bind (wpAny_pure (wpAny_bind (wpAny_nsSet1 (Heap.Ns1.of_empty hnd) fun h' hn' hs => ?_)))
  obtain ⟨oD, esD, epD, hoD, hdD, hcD⟩ := hn'.count (Within.cons name v Within.nil)
  refine wpAny_bind (wpAny_lookBehind hoD (by rw [hdD]; exact pastItsLine_dict (Nat.le_trans hcD (by rw [List.length_cons, List.length_nil, sizeLine_eq]; omega))) ?_)
  refine wpAny_pure ?_
  refine hq h' _ s.heap.objs.size (fun b o hb e => ?_) ?_ hn' (Heap.get?_none_of_le (Nat.le_refl _)) (Ne.symm hxs)
  · exact (hs.2 b (Nat.ne_of_lt (Heap.lt_size e))).trans ((Heap.get?_update_ne _ _ _ _ hb).trans (Heap.get?_push_of_some _ e))
  · exact (hs.2 x hxs).trans (Heap.get?_update_self _ hx₁ rfl)
theorem raise_own {env : Env} {y : Sem Value} {Q : Flow → Shared → Prop} (hh : A.handled = none) (q : ktsIn (K w.params) 98 "BaseException" = true)
    (h : wpAny (model prog w) A y (fun v s₁ => ∃ e t od sl, v = .ref e ∧ (K w.params).In s₁.heap ∧ s₁.heap.get? e = some ⟨.ref 98, od, .fields #[t, .none, .none, .none, .bool false, .none], sl⟩ ∧ E (.ref e) s₁) E s) :
    wpAny (model prog w) A (raiseStmt env (some y) none) Q E s := by
  unfold raiseStmt
  refine wpAny_bind (wpAny_mono h (fun v s₁ h₁ => ?_) fun _ _ x => x)
  obtain ⟨e, t, od, sl, rfl, X, he, hE⟩ := h₁
  obtain ⟨nm, qn, N, bs, bm, hdct, sn, sub, ab, col, dd, k0, k1, k2, k3, k5, newId, hC, hb, _⟩ := kts_cls X q
  have hcB : (Value.ref 98 :: bm).contains (.type "BaseException") = true := by rw [List.contains_cons, hb, Bool.or_true]
  obtain ⟨hp, g, d, tk, os⟩ := s₁
  repeat (first | with_reducible refine wpAny_loadPart_at he ?_ | with_reducible refine wpAny_loadPart_at hC ?_ | (with_reducible refine wpAny_isSubtype_exc hC ?_; rw [hcB]) | wp_step)
  exact wpAny_raiseNew_none hh hE
end
section
variable {prog : Program} {w : World} {A : Around} {E : Value → Shared → Prop} {s : Shared} {env : Env}
def RaisO (P : Params) (E : Value → Shared → Prop) (v : Value) (s₁ : Shared) : Prop :=
  ∃ e t od sl, v = .ref e ∧ (K P).In s₁.heap ∧ s₁.heap.get? e = some ⟨.ref 98, od, .fields #[t, .none, .none, .none, .bool false, .none], sl⟩ ∧ E (.ref e) s₁
theorem raise_exp {ex : Expr} {pos : Pos} {Q : Flow → Shared → Prop} (hh : A.handled = none) (q : ktsIn (K w.params) 98 "BaseException" = true)
    (h : wpAny (model prog w) A (eval ex env) (RaisO w.params E) E s) : wpAny (model prog w) A (exec (.Raise (some ex) none pos) env) Q E s := by
  show wpAny (model prog w) A (do standAt pos; raiseStmt env (some (do let v ← eval ex env; standAt pos; pure v)) none) Q E s
  refine wpAny_bind (wpAny_standAt (raise_own hh q ?_))
  refine wpAny_bind (wpAny_mono h (fun v s₁ h₁ => wpAny_bind (wpAny_standAt (wpAny_pure h₁))) fun _ _ x => x)
end
section
variable {prog : Program} {w : World} {A : Around} {E : Value → Shared → Prop} {s : Shared} {x L : Addr} {g : Heap} {m : Str → Option Value}
theorem exc_store0N {name : Str} {v : Value} {vs : Array Value} {sl : Array (Option Value)} {Q : Unit → Shared → Prop} (F : Fr g L s.heap m) (N : News g L s.heap [(x, ⟨.ref 98, none, .fields vs, sl⟩)]) (X : (K w.params).In g)
    (hsa : findIn (K w.params) (.ref 98) "__setattr__" = some (some (.builtin "object.__setattr__"))) (hcl : ∃ cd, clsIn (K w.params) 98 = some cd ∧ cd.mro = [.ref 98, .type "Exception", .type "BaseException", .type "object"] ∧ cd.hasDict = true)
    (hf : findIn (K w.params) (.ref 98) name = some none)
    (hq : ∀ h' tk' d, Fr g L h' m → News g L h' [(x, ⟨.ref 98, some d, .fields vs, sl⟩)] → h'.Ns1 d (fun y => if y = name then some v else none) → g.get? d = none → d ≠ L → d ≠ x → Q () { s with heap := h', toks := tk' }) :
    wpAny (model prog w) A (setAttr (.ref x) name v) Q E s := by
  obtain ⟨hx, hxL, hxg⟩ := N _ (.head _)
  refine exc_store0 (X.keeps F.keep) hx hsa hcl hf fun h' tk' d k hx' hns hd hdx => ?_
  have hL : ∃ o, s.heap.get? L = some o := let ⟨o, _, _, e, _⟩ := F.ns; ⟨o, e⟩
  refine hq h' tk' d ⟨F.ns.at' fun o e => k _ o (Ne.symm hxL) e, fun b o e => k b o (fun q => by rw [q, hxg] at e; cases e) (F.keep b o e), F.above⟩ (fun p hp => ?_) hns ?_ ?_ hdx
  · walk_at "9ak"
    exact ⟨hx', hxL, hxg⟩
  · cases q : g.get? d with
    | none => rfl
    | some o => have := F.keep d o q; rw [hd] at this; cases this
  · rintro rfl
    obtain ⟨o, e⟩ := hL
    rw [hd] at e; cases e
theorem exc_store1N {name n1 : Str} {v v1 : Value} {vs : Array Value} {sl : Array (Option Value)} {d : Addr} {Q : Unit → Shared → Prop} (F : Fr g L s.heap m) (N : News g L s.heap [(x, ⟨.ref 98, some d, .fields vs, sl⟩)]) (X : (K w.params).In g)
    (hd : s.heap.Ns1 d (fun y => if y = n1 then some v1 else none)) (hdg : g.get? d = none) (hdL : d ≠ L) (hdx : d ≠ x)
    (hC : ∃ nm qn N bs hdct sn sub ab col dd k0 k1 k2 k3 k5 newId mN, hdct = true ∧ s.heap.get? 98 = some (excClassObj nm qn 98 N bs [.type "Exception", .type "BaseException", .type "object"] hdct sn sub ab col dd k0 k1 k2 k3 k5 newId) ∧ s.heap.Ns N mN ∧ mN "__setattr__" = none ∧ mN name = none)
    (hB : typeLookup (.type "Exception") name = pure none)
    (hq : ∀ h' tk', Fr g L h' m → News g L h' [(x, ⟨.ref 98, some d, .fields vs, sl⟩)] → Q () { s with heap := h', toks := tk' }) :
    wpAny (model prog w) A (setAttr (.ref x) name v) Q E s := by
  revert F N X hd hdg hdL hdx hC hB hq
  revert prog w A E s x L g m name n1 v v1 vs sl d Q
  walk_at "9c"
  intro prog w A E s x L g m name n1 v v1 vs sl d
  clear_value prog w A E s x L g m name n1 v v1 vs sl d
  walk_at "9g"
  intro Q
  clear_value Q
  walk_at "in"
  obtain ⟨hx, hxL, hxg⟩ := N _ (.head _)
  obtain ⟨nm, qn, NN, bs, hdct, sn, sub, ab, col, dd, k0, k1, k2, k3, k5, newId, mN, rfl, hC, hns, h1, h2⟩ := hC
  have hx98 : x ≠ 98 := fun q => by rw [q, hC] at hx; cases hx
  obtain ⟨hp, gg, dr, tk, os⟩ := s
  refine store_attr (ns := [n1]) PySem.F.store_Exception hC hns h1 h2 hB hx98 ⟨_, hx, rfl, (fun c q => by cases q), Or.inr ⟨d, rfl, hdx, hd⟩⟩ (fun h' tk' I k1 k2 => ?_) (Within.cons n1 v1 Within.nil) (by simp [sizeLine_eq])
  obtain ⟨o₁, e1, e2, e3, e4, e5⟩ := k2 _ hx
  refine hq h' tk' ⟨F.ns.at' fun o e => k1 _ o (Ne.symm hxL) (fun o₀ dx z z' => ?_) e, fun b o e => k1 b o (fun q => by rw [q, hxg] at e; cases e) (fun o₀ dx z z' => ?_) (F.keep b o e), F.above⟩ fun p hp => ?_
  · rw [hx] at z; cases z; cases z'; exact hdL.symm
  · rw [hx] at z; cases z; cases z'
    rintro rfl
    rw [hdg] at e; cases e
  · walk_at "9ak"
    refine ⟨?_, hxL, hxg⟩
    have e6 := e5 d rfl
    obtain ⟨c, dd', dt, sl'⟩ := o₁
    dsimp only at e2 e3 e4 e6
    subst e2 e3 e4 e6
    exact e1
end
end
section
variable {prog : Program} {w : World} {A : Around} {E : Value → Shared → Prop} {s : Shared} {env : Env} {h₀ : Heap} {target : Expr} {body : List Stmt} {Q : Flow → Shared → Prop}
theorem letGo_list {I l : Addr} {i : Nat} {v : Value} {Q : Unit → Shared → Prop} (hit : s.heap.IsListIter I l i) (hQ : Q () s) : wpAny (model prog w) A (letOwnedTupleGo target (.ref I) v) Q E s := by
  obtain ⟨o, ho, hc, hd⟩ := hit
  unfold letOwnedTupleGo
  have fin : ∀ a, wpAny (model prog w) A (match o.cls, o.data with
      | .type n, .fields vs =>
        if (["enumerate", "zip", "dict_itemiterator", "dict_reverseitemiterator", "odict_iterator", "itertools.zip_longest", "itertools.pairwise"].contains n && vs[0]? == some (rawInt a)) = true then do
          rule "for.unpacks-the-owned-tuple"
          updateField I 0 .none
        else pure ()
      | _, _ => pure ()) Q E s := by
    intro a
    rw [hc, hd]
    dsimp only
    rw [if_neg (by
      intro h
      rw [show (["enumerate", "zip", "dict_itemiterator", "dict_reverseitemiterator", "odict_iterator", "itertools.zip_longest", "itertools.pairwise"].contains "list_iterator") = false from by decide, Bool.false_and] at h
      cases h)]
    exact wpAny_pure hQ
  cases target <;> try exact wpAny_pure hQ
  all_goals
    cases v <;> try exact wpAny_pure hQ
    exact wpAny_bind (wpAny_load ho (fin _))
def Box (P : Prop) : Prop := P
noncomputable def UnrAt (prog : Program) (w : World) (A : Around) (h₀ : Heap) (env : Env) (target : Expr) (body : List Stmt) (Q : Flow → Shared → Prop) (E : Value → Shared → Prop) (I l : Addr) (items : Array Value) (s₀ : Shared) :
    List Value → (Str → Option Value) → List (Addr × Obj) → Nat → Prop
  | [], m, news, tk => ∀ h' tk', tk ≤ tk' → Fr h₀ env.locals h' m → News h₀ env.locals h' news → Q .next { s₀ with heap := h', toks := tk' }
  | v :: r, m, news, tk => ∀ h₁ oi tk₁, tk ≤ tk₁ → oi.cls = .type "list_iterator" → Fr h₀ env.locals h₁ m → News h₀ env.locals h₁ ((I, oi) :: news) →
      wpAny (model prog w) A (assign target env v) (fun _ s₃ => wpAny (model prog w) A (execs body env) (fun f s₄ => match f with
        | .ret x => Q (.ret x) s₄
        | .brk => Q .next s₄
        | _ => Box (∃ h' tk' m' news', s₄ = { s₀ with heap := h', toks := tk' } ∧ Fr h₀ env.locals h' m' ∧ News h₀ env.locals h' ((I, oi) :: news') ∧ (∀ p ∈ news', p.2.cls ≠ .type "list_iterator") ∧ h'.IsList l items ∧ UnrAt prog w A h₀ env target body Q E I l items s₀ r m' news' tk')) E s₃) E { s₀ with heap := h₁, toks := tk₁ }
theorem unr_turn {I l : Addr} {items : Array Value} {s₀ : Shared} {r : List Value} {oi : Obj} {hS : Heap} {tS : Nat} {gS g₀ : Array GenState} {dS d₀ : Drawn} {oS o₀ : OsState} {m' : Str → Option Value} {news' : List (Addr × Obj)} (F : Fr h₀ env.locals hS m') (N : News h₀ env.locals hS ((I, oi) :: news'))
    (a : ∀ p ∈ news', p.2.cls ≠ .type "list_iterator") (b : hS.IsList l items) (c : UnrAt prog w A h₀ env target body Q E I l items s₀ r m' news' tS) (hg : gS = g₀ := by rfl) (hd : dS = d₀ := by rfl) (ho : oS = o₀ := by rfl) :
    Box (∃ h₂ tk₂ m' news', (⟨hS, gS, dS, tS, oS⟩ : Shared) = ⟨h₂, g₀, d₀, tk₂, o₀⟩ ∧ Fr h₀ env.locals h₂ m' ∧ News h₀ env.locals h₂ ((I, oi) :: news') ∧ (∀ p ∈ news', p.2.cls ≠ .type "list_iterator") ∧ h₂.IsList l items ∧ UnrAt prog w A h₀ env target body Q E I l items s₀ r m' news' tk₂) :=
  ⟨hS, tS, m', news', by rw [hg, hd, ho], F, N, a, b, c⟩
def LoopU (prog : Program) (w : World) (A : Around) (h₀ : Heap) (env : Env) (target : Expr) (body : List Stmt) (Q : Flow → Shared → Prop) (E : Value → Shared → Prop) (it : Value) (s₂ : Shared) : Prop :=
  ∃ I l items m news, it = .ref I ∧ I ≠ l ∧ h₀.get? I = none ∧ env.locals ≠ I ∧ (∀ p ∈ news, p.1 ≠ I) ∧ s₂.heap.IsListIter I l 0 ∧ s₂.heap.IsList l items ∧ Fr h₀ env.locals s₂.heap m ∧ News h₀ env.locals s₂.heap news ∧ UnrAt prog w A h₀ env target body Q E I l items s₂ items.toList m news s₂.toks
theorem unr_loop {R : Result → Shared → Prop} {I l : Addr} {items : Array Value} {m : Str → Option Value} {news : List (Addr × Obj)} (hh : A.handled = none) (hIl : I ≠ l) (hI : h₀.get? I = none) (hLI : env.locals ≠ I) (hn : ∀ p ∈ news, p.1 ≠ I)
    (hit : s.heap.IsListIter I l 0) (hl : s.heap.IsList l items) (F : Fr h₀ env.locals s.heap m) (N : News h₀ env.locals s.heap news)
    (h : UnrAt prog w A h₀ env target body (fun f s' => R (.ok f) s') (notedBy (model prog w) A env fun e s' => R (.error e) s') I l items s items.toList m news s.toks) :
    codeAny (model prog w) A (.forLoop target (.ref I) body [] env) R s := by
  revert hh hIl hI hLI hn hit hl F N h
  revert prog w A s env h₀ target body R I l items m news
  walk_at "9i"
  intro prog w A s env h₀ target body
  clear_value prog w A s env h₀ target body
  walk_at "9f"
  intro R I l items
  clear_value R I l items
  walk_at "9e"
  intro m news
  clear_value m news
  walk_at "in"
  refine codeAny_forLoop_any
    (fun k s' => ∃ h' tk m' news' i, s' = { s with heap := h', toks := tk } ∧ h'.IsListIter I l i ∧ h'.IsList l items ∧ Fr h₀ env.locals h' m' ∧ News h₀ env.locals h' news' ∧ (∀ p ∈ news', p.1 ≠ I) ∧
      UnrAt prog w A h₀ env target body (fun f s' => R (.ok f) s') (notedBy (model prog w) A env fun e s' => R (.error e) s') I l items s (items.toList.drop i) m' news' tk ∧ i ≤ items.size ∧ k = items.size + 1 - i) ?_ (items.size + 1)
    ⟨s.heap, s.toks, m, news, 0, rfl, hit, hl, F, N, hn, by simpa using h, Nat.zero_le _, rfl⟩
  rintro k s' ⟨h', tk, m', news', i, rfl, hit', hl', F', N', hn', hU, hi, rfl⟩
  have next : ∀ h₁ : Heap, (∀ b o, b ≠ I → h'.get? b = some o → h₁.get? b = some o) → Fr h₀ env.locals h₁ m' ∧ News h₀ env.locals h₁ news' := fun h₁ hk₁ =>
    ⟨⟨F'.ns.at' fun o e => hk₁ _ o hLI e, fun b o e => hk₁ b o (fun q => by rw [q, hI] at e; cases e) (F'.keep b o e), F'.above⟩, fun p hp => ⟨hk₁ _ _ (hn' p hp) (N' p hp).1, (N' p hp).2⟩⟩
  by_cases hlt : i < items.size
  · have hd : items.toList.drop i = items[i] :: items.toList.drop (i + 1) := by
      rw [List.drop_eq_getElem_cons (by simpa using hlt)]; simp
    rw [hd] at hU
    refine wpAny_with_toks (n := tk) (Nat.le_refl _) (wpAny_pyNext_list_item hit' hl' (x := items[i]) (by simp [hlt]) fun h₁ hit₁ hs₁ hle => ?_)
    obtain ⟨F₁, N₁⟩ := next h₁ fun b o hb e => (hs₁.2 b hb).trans e
    refine letGo_list hit₁ ?_
    obtain ⟨oi, ho, hc, hd'⟩ := id hit₁
    refine wpAny_mono (hU h₁ oi tk (Nat.le_refl _) hc F₁ (fun p hp => ?_)) (fun _ s₂ h₂ => wpAny_mono h₂ (fun f s₃ h₃ => ?_) fun _ _ e => e) fun _ _ e => e
    · walk_at "9x"
      · exact ⟨ho, Ne.symm hLI, hI⟩
      · exact N₁ p hp
    · have fin : (∃ h' tk' m' news', s₃ = { s with heap := h', toks := tk' } ∧ Fr h₀ env.locals h' m' ∧ News h₀ env.locals h' ((I, oi) :: news') ∧ (∀ p ∈ news', p.2.cls ≠ .type "list_iterator") ∧ h'.IsList l items ∧
          UnrAt prog w A h₀ env target body (fun f s' => R (.ok f) s') (notedBy (model prog w) A env fun e s' => R (.error e) s') I l items s (items.toList.drop (i + 1)) m' news' tk') → ∃ m, m < items.size + 1 - i ∧
          ∃ h' tk m' news' i, s₃ = { s with heap := h', toks := tk } ∧ h'.IsListIter I l i ∧ h'.IsList l items ∧ Fr h₀ env.locals h' m' ∧ News h₀ env.locals h' news' ∧ (∀ p ∈ news', p.1 ≠ I) ∧
          UnrAt prog w A h₀ env target body (fun f s' => R (.ok f) s') (notedBy (model prog w) A env fun e s' => R (.error e) s') I l items s (items.toList.drop i) m' news' tk ∧ i ≤ items.size ∧ m = items.size + 1 - i := by
        rintro ⟨h₃', tk₃, m₃, news₃, rfl, F₃, N₃, a, b, c⟩
        have hIo := (N₃ _ (.head _)).1
        refine ⟨items.size + 1 - (i + 1), by omega, h₃', tk₃, m₃, news₃, i + 1, rfl, ⟨oi, hIo, hc, hd'⟩, b, F₃, fun p hp => N₃ p (.tail _ hp), fun p hp q => ?_, c, hlt, rfl⟩
        have := (N₃ p (.tail _ hp)).1
        rw [q, hIo] at this
        exact a p hp (by rw [← Option.some.inj this]; exact hc)
      cases f with
      | ret v => exact h₃
      | brk => exact h₃
      | cont => exact fin h₃
      | next => exact fin h₃
  · have hin : i = items.size := by omega
    subst hin
    rw [List.drop_eq_nil_of_le (by simp)] at hU
    refine wpAny_with_toks (n := tk) (Nat.le_refl _) (wpAny_pyNext_list_end hh hit' hl' (by simp) fun h₁ hk₁ hle => wpAny_execs_nil ?_)
    obtain ⟨F₁, N₁⟩ := next h₁ hk₁
    exact hU h₁ _ hle F₁ N₁
theorem For_unr {iter : Expr} {pos : Pos} {m : Str → Option Value} (_F : Fr h₀ env.locals s.heap m) (hh : A.handled = none)
    (h : wpAny (model prog w) A (eval iter env) (fun xv s₁ => wpAny (model prog w) A (pyIter xv) (fun it s₂ => LoopU prog w A h₀ env target body Q E it s₂) E s₁) E s)
    (hs : ∀ x, foldedSetIterable iter env x = pure x := by intro _; rfl)
    (hE : PassesOwn (model prog w) A env E := by passes_own) :
    wpAny (model prog w) A (exec (.For target iter body [] pos) env) Q E s := by
  revert _F hh h hs hE
  walk_at "9aO"
  walk_at "9i"
  walk_at "9aF"
  clear_value prog w A E s env h₀ target
  walk_at "9f"
  intro body Q iter pos
  clear_value body Q iter pos
  walk_at "9g"
  intro m
  clear_value m
  walk_at "in"
  walk_at "9y"
  obtain ⟨I, l, items, m, news, rfl, a, b, c, d, e, f, F, N, U⟩ := h₂
  refine unr_loop (R := fun r s' => match r with | .ok f => Q f s' | .error e => cameBackBy (model prog w) A env E e s') hh a b c d e f F N ?_
  have gen : ∀ (r : List Value) (m : Str → Option Value) (news : List (Addr × Obj)) (tk : Nat), UnrAt prog w A h₀ env target body Q E I l items s₂ r m news tk →
      UnrAt prog w A h₀ env target body Q (notedBy (model prog w) A env fun e s' => cameBackBy (model prog w) A env E e s') I l items s₂ r m news tk := by
    intro r
    induction r with
    | nil => intro m news tk u; exact u
    | cons v r ih =>
      intro m news tk u h₁ oi tk₁ x1 x2 x3 x4
      refine wpAny_mono (u h₁ oi tk₁ x1 x2 x3 x4) (fun _ s₃ y => ?_) hE
      refine wpAny_mono y (fun f s₄ z => ?_) hE
      cases f with
      | ret v => exact z
      | brk => exact z
      | cont => obtain ⟨h', tk', m', news', e1, e2, e3, e4, e5, e6⟩ := z; exact ⟨h', tk', m', news', e1, e2, e3, e4, e5, ih _ _ _ e6⟩
      | next => obtain ⟨h', tk', m', news', e1, e2, e3, e4, e5, e6⟩ := z; exact ⟨h', tk', m', news', e1, e2, e3, e4, e5, ih _ _ _ e6⟩
  exact gen _ _ _ _ U
theorem unr_start {l : Addr} {items : Array Value} {m : Str → Option Value} {news : List (Addr × Obj)} (F : Fr h₀ env.locals s.heap m) (N : News h₀ env.locals s.heap news) (hl : s.heap.IsList l items)
    (h : ∀ I, UnrAt prog w A h₀ env target body Q E I l items s items.toList m news s.toks) :
    wpAny (model prog w) A (pyIter (.ref l)) (fun it s₂ => LoopU prog w A h₀ env target body Q E it s₂) E s := by
  revert F N hl h
  revert prog w A E s env h₀ target body Q l items m news
  walk_at "9i"
  walk_at "9aF"
  clear_value prog w A E s env h₀ target
  walk_at "9f"
  intro body Q l items
  clear_value body Q l items
  walk_at "9e"
  intro m news
  clear_value m news
  walk_at "in"
  refine wpAny_pyIter_list hl ?_
  obtain ⟨ol, hol, _⟩ := id hl
  refine ⟨_, l, items, m, news, rfl, Ne.symm (Nat.ne_of_lt (Heap.lt_size hol)), ?_, Nat.ne_of_lt F.ns.lt, fun p hp => Nat.ne_of_lt (Heap.lt_size (N p hp).1), ⟨_, Heap.get?_push_size _ rfl, rfl, rfl⟩, hl.at fun o e => Heap.get?_push_of_some _ e, F.push _, (fun p hp => ⟨Heap.get?_push_of_some _ (N p hp).1, (N p hp).2⟩), ?_⟩
  · exact none_at_size F
  · have gen : ∀ (r : List Value) (m : Str → Option Value) (news : List (Addr × Obj)) (tk : Nat) (I : Addr) (s₁ : Shared), s₁.gens = s.gens → s₁.drawn = s.drawn → s₁.os = s.os → UnrAt prog w A h₀ env target body Q E I l items s r m news tk →
        UnrAt prog w A h₀ env target body Q E I l items s₁ r m news tk := by
      intro r
      induction r with
      | nil => rintro m news tk I ⟨_, _, _, _, _⟩ rfl rfl rfl u; exact u
      | cons v r ih =>
        rintro m news tk I ⟨_, _, _, _, _⟩ rfl rfl rfl u h₁ oi tk₁ x1 x2 x3 x4
        refine wpAny_mono (u h₁ oi tk₁ x1 x2 x3 x4) (fun _ s₃ y => wpAny_mono y (fun f s₄ z => ?_) fun _ _ e => e) fun _ _ e => e
        cases f with
        | ret v => exact z
        | brk => exact z
        | cont => obtain ⟨h', tk', m', news', e1, e2, e3, e4, e5, e6⟩ := z; exact ⟨h', tk', m', news', e1, e2, e3, e4, e5, ih _ _ _ _ _ rfl rfl rfl e6⟩
        | next => obtain ⟨h', tk', m', news', e1, e2, e3, e4, e5, e6⟩ := z; exact ⟨h', tk', m', news', e1, e2, e3, e4, e5, ih _ _ _ _ _ rfl rfl rfl e6⟩
    exact gen _ _ _ _ _ _ rfl rfl rfl (h _)
end
theorem AtV.split {v : Value} {a : At} (h : AtV v a) : (∃ i tk, v = .int i tk ∧ a = .int i) ∨ a.isInt = false := by
  cases h with
  | int => exact .inl ⟨_, _, rfl, rfl⟩
  | nil => exact .inr rfl
  | t => exact .inr rfl
abbrev Bits (i : Int) (m : Nat) : Prop := Builtin.Int.intBits i ≤ m
theorem bits_one : Bits 1 1 := by decide
theorem ft_id {i : Int} (h : Bits i 30000) : Bits i 65536 := Nat.le_trans h (by decide)
theorem ft_0 {i : Int} (h : Bits i 30000) : Bits (0 + i) 65536 := by rw [Int.zero_add]; exact ft_id h
theorem ft_1 {i : Int} (h : Bits i 30000) : Bits (1 * i) 65536 := by rw [Int.one_mul]; exact ft_id h
theorem ft_add {i j : Int} (h : Bits i 30000) (h' : Bits j 30000) : Bits (0 + i + j) 65536 := by rw [Int.zero_add]; exact Nat.le_trans (intBits_add_le h h') (by decide)
theorem ft_sub {i j : Int} (h : Bits i 30000) (h' : Bits j 30000) : Bits (i - j) 65536 := Nat.le_trans (intBits_sub_le h h') (by decide)
theorem ft_mul {i j : Int} (h : Bits i 30000) (h' : Bits j 30000) : Bits (1 * i * j) 65536 := by rw [Int.one_mul]; exact Nat.le_trans (intBits_mul_le h h') (by decide)
theorem ft_inc {i : Int} (h : Bits i 30000) : Bits (i + 1) 65536 := Nat.le_trans (intBits_add_le h bits_one) (by decide)
theorem ft_dec {i : Int} (h : Bits i 30000) : Bits (i - 1) 65536 := Nat.le_trans (intBits_sub_le h bits_one) (by decide)
noncomputable def nth {α : Type} : List α → Nat → Option α
  | [], _ => none
  | v :: _, 0 => some v
  | _ :: r, n + 1 => nth r n
theorem nth_eq {α : Type} : ∀ (l : List α) (n : Nat), nth l n = l[n]?
  | [], _ => rfl
  | _ :: _, 0 => rfl
  | _ :: r, n + 1 => (nth_eq r n).trans (by simp)
section
variable {prog : Program} {w : World} {A : Around} {E : Value → Shared → Prop} {s : Shared}
theorem item_nth {value slice : Expr} {l : Addr} {items : Array Value} {k : Int} {u : Tok} {x : Value} {Q : Value → Shared → Prop} (hl : s.heap.IsList l items)
    (h0 : 0 ≤ k) (hfit : k < 2 ^ 63) (hx : nth items.toList k.toNat = some x) (h : Q x s)
    (hs : subscripted slice false (.ref l) (.int k u) = operate [.ref l, .int k u] (getItem (.ref l) (.int k u)) := by with_unfolding_all rfl) :
    wpAny (model prog w) A (subscriptTail value slice (.ref l) (.int k u)) Q E s :=
  item_listR hl h0 hfit (by rw [nth_eq] at hx; simpa using hx) h hs
end
theorem led_list {h₀ h : Heap} {L a : Addr} {news : List (Addr × Obj)} {items : Array Value} {n : Nat} (N : News h₀ L h news) (hm : (a, listOf items n) ∈ news) : h.IsList a items := ⟨_, (N _ hm).1, rfl, _, rfl⟩
theorem typ_ne {a b : String} (h : a ≠ b) : Value.type a ≠ Value.type b := fun q => h (by injection q)
def FlewA (h : Heap) (outer : List Env) (e : Addr) (h' : Heap) : Prop :=
  ∃ a0 fl, (hideAll h (frs outer)).StaysIn h' ∧ (hideAll h (frs outer)).get? e = none ∧ h'.FunFrames (hideAll h (frs outer)) outer ∧ h'.TracedAtW (hideAll h (frs outer)) e (.ref 98) a0 fl ∧ h.UpToSlots h'
section
variable {M : Model} {A : Around} {E : Value → Shared → Prop} {s : Shared}
theorem noteFrame_any {base : Heap} {env : Env} {outer : List Env} {L e : Addr} {cls a0 fl : Value} {Q : Unit → Shared → Prop}
    (hfr : A.frames = some (env :: outer)) (hl : s.heap.FunFrames base (env :: outer)) (hf : env.frame = some L) (ht : s.heap.TracedAtW base e cls a0 fl) (hkb : base.StaysIn s.heap) (hen : base.get? e = none)
    (h : ∀ h', Heap.HeldW base (env :: outer) e cls a0 L h' → s.heap.UpToSlots h' → Q () { s with heap := h' }) : wpAny M A (noteFrame (.ref e) env) Q E s := by
  obtain ⟨oe, vs, T, oT, ts, he, ⟨hcls, h0⟩, hd, h1, hnT, hTe, hT, hdT, h3⟩ := ht
  subst hcls
  unfold noteFrame
  simp only [hf]
  refine wpAny_bind (wpAny_field he hd h1 ?_)
  rw [if_pos (show (Value.ref T != Value.none) = true from by simp)]
  refine wpAny_bind (wpAny_field hT hdT h3 ?_)
  by_cases hfl : (fl == rawInt L) = true
  · rw [if_pos hfl]
    have e1 : fl = rawInt L := by simpa using hfl
    subst e1
    exact wpAny_pure (h s.heap ⟨hkb, hen, hl, ⟨oe, vs, T, oT, ts, he, ⟨rfl, h0⟩, hd, h1, hnT, hTe, hT, hdT, h3⟩⟩ (Heap.UpToSlots.refl _))
  · rw [if_neg hfl]
    refine wpAny_bind (wpAny_setField hT hdT (Array.getElem?_eq_some_iff.mp h3).1 ?_)
    have other : ∀ b, b ≠ T → (s.heap.update T (Obj.mapFields (·.setIfInBounds 3 Value.none))).get? b = s.heap.get? b := fun b hb => Heap.get?_update_other _ _ (Ne.symm hb)
    have noRec : ∀ b o, s.heap.get? b = some o → (∀ vs, o.data ≠ .fields vs) → b ≠ T := fun b o hb hnf q => by
      rw [q, hT] at hb; injection hb with hb; subst hb; exact hnf ts hdT
    refine wpAny_entryW hfr (hl.of_keeps fun b o hb hnf => ⟨o, (other b (noRec b o hb hnf)).trans hb, rfl⟩) hf ((other e (Ne.symm hTe)).trans he)
      (fun b o hbo => (other b fun q => by rw [q, hnT] at hbo; cases hbo).trans (hkb b o hbo)) hen hd (Array.getElem?_eq_some_iff.mp h1).1 h0 fun h' hN => ?_
    obtain ⟨x1, x2, x3, x4⟩ := hN
    exact h h' ⟨x1, hen, x2, x3⟩ fun b o hb hnf => x4 b o ((other b (noRec b o hb hnf)).trans hb) hnf
theorem leaving_any {base : Heap} {env : Env} {outer : List Env} {L e : Addr} {cls a0 fl : Value} {Q : Unit → Shared → Prop}
    (hfr : A.frames = some (env :: outer)) (hl : s.heap.FunFrames base (env :: outer)) (hf : env.frame = some L) (ht : s.heap.TracedAtW base e cls a0 fl) (hkb : base.StaysIn s.heap) (hen : base.get? e = none)
    (h : ∀ h', Heap.FlyingW base outer e cls a0 h' → s.heap.UpToSlots h' → Q () { s with heap := h' }) : wpAny M A (leaving env (.ref e)) Q E s := by
  unfold leaving
  refine wpAny_bind (noteFrame_any hfr hl hf ht hkb hen fun h₁ hH u₁ => wpAny_landsW hH fun h₂ hF u₂ => h h₂ ?_ (u₁.trans u₂))
  obtain ⟨k1, k2, ⟨_, _, k3⟩, k4⟩ := hF
  exact ⟨k1, k2, k3, k4⟩
end
section
variable {M : Model} {A : Around} {E : Value → Shared → Prop} {s' : Shared} {g h : Heap} {outer : List Env} {L a e : Addr} {m : Str → Option Value} {name : Str} {scope : Scope} {cd : Value} {Q : Unit → Shared → Prop}
theorem leave_flewA {s₀ : Heap} (hfr : A.frames = some outer) (F : Fr g L h m) (hsg : ∀ b o, s₀.get? b = some o → b ∉ frs outer → g.get? b = some o) (hsu : s₀.UpToSlots h)
    (R : FlewA h (envOf name scope L a cd :: outer) e s'.heap)
    (hQ : ∀ h', Flew s₀ outer e h' → Q () { s' with heap := h' }) :
    wpAny M (A.deeper (envOf name scope L a cd)) (leaving (envOf name scope L a cd) (.ref e)) Q E s' := by
  obtain ⟨a0, fl, k1, k2, k3, k4, hu⟩ := R
  refine leaving_any (Around.frames_deeper hfr) k3 rfl k4 k1 k2 fun h' x1 x2 => hQ h' ⟨a0, flyingW_base (fun b o q => ?_) x1, hsu.trans (hu.trans x2)⟩
  have q1 := of_hideAll _ q
  walk_at "9aj"
  have q3 := hsg b o q1 q2
  refine hideAll_get _ (F.keep b o q3) fun z => ?_
  walk_at "9aq"
  · walk_at "9ah"
  · exact q2 z
end
section
variable {prog : Program} {w : World} {A : Around} {E : Value → Shared → Prop} {s : Shared} {h₀ : Heap} {outer : List Env} {L a : Addr} {m : Str → Option Value} {name : Str} {scope₀ : Scope} {cd : Value}
theorem comp_flies {elt iter : Expr} {x : Str} {px : Pos} {scope : Scope} {cl : List (Str × Addr)} {pos pos' : Pos} {use : Option (Value → Sem Unit)} {Q : Value → Shared → Prop} {l : Addr} {items : Array Value} (k₀ : Nat)
    (hfr : A.frames = some (envOf name scope₀ L a cd :: outer)) (hFF : FF s.heap (envOf name scope₀ L a cd :: outer)) (F₀ : Fr h₀ L s.heap m)
    (hclos : closureFor scope (envOf name scope₀ L a cd) = pure cl) (hcell : ∀ y ∈ scope.names, y.2 ≠ .cell) (hkind : scope.kind = .function)
    (hnames : ∀ y ∈ scope.names, y.2 = .local → scope.names.lookup y.1 = some .local) (hx : scope.names.lookup x = some .local) (hl : h₀.IsList l items) (hk₀ : k₀ < items.size) (hsz : items.size ≤ sizeLine)
    (h : wpAny (model prog w) A (eval iter (envOf name scope₀ L a cd)) (fun v s₁ => v = .ref l ∧ ∃ h' tk', s₁ = { s with heap := h', toks := tk' } ∧ Kept [] s.heap h') E s)
    (helt : ∀ i v C oC h tk m₂ (E' : Value → Shared → Prop), i ≤ k₀ → items[i]? = some v → Kept [] s.heap h → Fr h₀ L h m → News h₀ L h [(C, oC)] → LCg.NsObj oC m₂ → m₂ x = some v →
      (∀ e h' tk', Flew h (envOf name scope₀ L a cd :: outer) e h' → E' (.ref e) { s with heap := h', toks := tk' }) →
      wpAny (model prog w) A (eval elt (compEnvC scope cl C (envOf name scope₀ L a cd))) (fun y s₃ => i < k₀ ∧ ∃ h' tk', s₃ = { s with heap := h', toks := tk' } ∧ Kept [] h h') E' { s with heap := h, toks := tk })
    (hE : ∀ e h' tk', FlewA s.heap (envOf name scope₀ L a cd :: outer) e h' → E (.ref e) { s with heap := h', toks := tk' })
    (hs : ∀ x, foldedSetIterable iter (envOf name scope₀ L a cd) x = pure x := by intro _; rfl) :
    wpAny (model prog w) A (comprehension (.ListComp elt [⟨.Name x px, iter, [], 0⟩] scope pos) scope (envOf name scope₀ L a cd) pos' (newList []) false (eval iter (envOf name scope₀ L a cd)) use) Q E s := by
  revert k₀ hfr hFF F₀ hclos hcell hkind hnames hx hl hk₀ hsz h helt hE hs
  revert prog w A E s h₀ outer L a m name scope₀ cd elt iter x px scope cl pos pos' use Q l items
  walk_at "9c"
  intro prog w A E s h₀ outer L a m name scope₀ cd elt iter x
  clear_value prog w A E s h₀ outer L a m name scope₀ cd elt iter x
  walk_at "9i"
  intro px scope cl pos pos' use Q l
  clear_value px scope cl pos pos' use Q l
  walk_at "9g"
  intro items
  clear_value items
  walk_at "in"
  refine wpAny_comprehension_free (use := use) rfl hs hclos hkind hnames (wpAny_mono h (fun xv s₁ h₁ => ?_) fun _ _ e => e)
  obtain ⟨rfl, h₁, tk₁, rfl, kk₁⟩ := h₁
  have F₁ : Fr h₀ L h₁ m := ⟨F₀.ns.keeps fun b o e => kk₁.get e, fun b o e => kk₁.get (F₀.keep b o e), F₀.above⟩
  have hl₁ : h₁.IsList l items := hl.at fun o e => F₁.keep l o e
  have hll : l < h₁.objs.size := by obtain ⟨_, e, _⟩ := hl₁; exact Heap.lt_size e
  refine wpAny_pyIter_list hl₁ ?_
  refine wpAny_newObj_type (wpAny_newFunctionEnv hcell (by intro y hy; simp at hy) (fun h₂ hns₂ hsb₂ => ?_) hkind)
  dsimp only at hns₂ hsb₂ ⊢
  generalize hH1 : h₁.push { cls := .type "list_iterator", data := .fields #[.ref l, .int 0 0] } = H1 at hns₂ hsb₂ ⊢
  generalize hH2 : H1.push { cls := .type "list", dict := none, data := .seq ([] : List Value).toArray } = H2 at hns₂ hsb₂ ⊢
  have hs1 : H1.objs.size = h₁.objs.size + 1 := by rw [← hH1, Heap.size_push]
  have hs2 : H2.objs.size = h₁.objs.size + 2 := by rw [← hH2, Heap.size_push, hs1]
  have lt1 : ∀ b, b < h₁.objs.size → b ≠ H1.objs.size := fun b hb => by rw [hs1]; exact Nat.ne_of_lt (Nat.lt_of_lt_of_le hb (Nat.le_add_right _ _))
  have lt2 : ∀ b, b < h₁.objs.size → b ≠ H2.objs.size := fun b hb => by rw [hs2]; exact Nat.ne_of_lt (Nat.lt_of_lt_of_le hb (Nat.le_add_right _ _))
  have old : ∀ b o, h₁.get? b = some o → h₂.get? b = some o := fun b o e => by
    have hb := Heap.lt_size e
    exact hsb₂.extBut b o (lt2 b hb) (Heap.get?_push_of_some _ (hH2 ▸ Heap.get?_push_of_some _ (hH1 ▸ Heap.get?_push_of_some _ e)))
  have hI : h₂.get? h₁.objs.size = some { cls := .type "list_iterator", data := .fields #[.ref l, .int 0 0] } :=
    hsb₂.extBut _ _ (by rw [hs2]; exact Nat.ne_of_lt (by walk_at "om")) (Heap.get?_push_of_some _ (hH2 ▸ Heap.get?_push_of_some _ (hH1 ▸ Heap.get?_push_size _ rfl)))
  have hD : h₂.get? H1.objs.size = some (LCg.lst []) := hsb₂.extBut _ _ (by rw [hs2, hs1]; exact Nat.ne_of_lt (by walk_at "om")) (Heap.get?_push_of_some _ (hH2 ▸ Heap.get?_push_size _ rfl))
  have fresh : ∀ b, h₁.objs.size ≤ b → h₀.get? b = none := fun b hb => by
    cases e : h₀.get? b with
    | none => rfl
    | some o => exact absurd (Heap.lt_size (F₁.keep b o e)) (Nat.not_lt.mpr hb)
  have hLlt : L < h₁.objs.size := F₁.ns.lt
  have loop : ∀ s₃ : Shared, s₃ = { s with heap := h₂, toks := tk₁ + ([] : List (Str × Value)).length } →
      codeAny (model prog w) A (.compLoop (.ListComp elt [⟨.Name x px, iter, [], 0⟩] scope pos) 0 (.ref h₁.objs.size) (.ref H1.objs.size) (compEnvC scope cl H2.objs.size (envOf name scope₀ L a cd)))
        (compPost (model prog w) A E use Q (.ref H1.objs.size) H2.objs.size) s₃ := by
    rintro s₃ rfl
    refine codeAny_compLoop_tests
      (fun k s' => ∃ h' tk i ys m', s' = { s with heap := h', toks := tk } ∧ i ≤ k₀ ∧ k = items.size + 1 - i ∧ ys.length = i ∧ h'.IsListIter h₁.objs.size l i ∧ h'.get? H1.objs.size = some (LCg.lst ys) ∧ h'.Ns H2.objs.size m' ∧ Fr h₀ L h' m ∧ (∀ b o, h₁.get? b = some o → h'.get? b = some o)) ?_ (items.size + 1)
      ⟨h₂, _, 0, [], _, rfl, Nat.zero_le _, rfl, rfl, ⟨_, hI, rfl, rfl⟩, hD, hns₂, F₁.keeps old, old⟩
    rintro k s' ⟨h', tk, i, ys, m', rfl, hi, rfl, hyl, hit, hacc, hn', F', ko⟩
    have hlt : i < items.size := Nat.lt_of_le_of_lt hi hk₀
    have hl' : h'.IsList l items := hl.at fun o e => F'.keep l o e
    refine wpAny_pyNext_list_item hit hl' (x := items[i]) (by simp [hlt]) fun h₃ hit₃ hs₃ => ?_
    have k₃ : ∀ b o, b ≠ h₁.objs.size → h'.get? b = some o → h₃.get? b = some o := fun b o hb e => hs₃.extBut b o hb e
    have hn₃ : h₃.Ns H2.objs.size m' := hn'.at' fun o e => k₃ _ o (by rw [hs2]; exact Nat.ne_of_gt (by walk_at "om")) e
    refine wpAny_assign_Name (wpAny_storeName_local (lookup_relabel_local hx) hn₃ (fun h₄ hn₄ hs₄ => ?_) (by simp [compEnvC, relabel, hkind]))
    refine wpAny_tests_nil ?_
    simp only [if_true]
    have k₄ : ∀ b o, b ≠ h₁.objs.size → b ≠ H2.objs.size → h'.get? b = some o → h₄.get? b = some o := fun b o hb hb' e => hs₄.extBut b o hb' (k₃ b o hb e)
    have ko₄ : ∀ b o, h₁.get? b = some o → h₄.get? b = some o := fun b o e => k₄ b o (Nat.ne_of_lt (Heap.lt_size e)) (lt2 b (Heap.lt_size e)) (ko b o e)
    have F₄ : Fr h₀ L h₄ m := ⟨F₁.ns.keeps ko₄, fun b o e => ko₄ b o (F₁.keep b o e), F₁.above⟩
    obtain ⟨oC, heC', hoC⟩ := LCg.ns_obj hn₄
    have heC : h₄.get? H2.objs.size = some oC := heC'
    have hCL : H2.objs.size ≠ L := Ne.symm (lt2 L hLlt)
    have hC₀ : h₀.get? H2.objs.size = none := fresh _ (by rw [hs2]; walk_at "om")
    refine wpAny_mono (helt i items[i] H2.objs.size oC h₄ _ _ _ hi (by simp [hlt]) (fun b o _ e => ko₄ b o (kk₁.get e)) F₄ (fun p hp => by obtain rfl := List.mem_singleton.mp hp; exact ⟨heC, hCL, hC₀⟩) hoC (by simp) (fun e h₅ tk₅ fl => ?_)) (fun y s₅ h₅ => ?_) fun _ _ e => e
    · -- the element has raised
      obtain ⟨a0, hfl, hu⟩ := fl
      have hfe : noteFrame (.ref e) (compEnvC scope cl H2.objs.size (envOf name scope₀ L a cd)) = noteFrame (.ref e) (envOf name scope₀ L a cd) := rfl
      unfold notedBy
      rw [hfe]
      refine wpAny_looks_onW (s := { s with heap := h₅, toks := tk₅ }) hfr rfl hfl fun h₆ hH₆ u₆ => ?_
      have uu : h₄.UpToSlots h₆ := hu.trans u₆
      show ∃ m, _ ∧ _
      refine ⟨_, uu.ns hn₄, fun h₇ hs₇ cenv hcenv => ?_⟩
      obtain ⟨b1, b2, b3, oe, vs, T, oT, ts, he, hce, hd, hv1, hnT, hTe, hT, hdT, h3⟩ := hH₆
      have hCe : e ≠ H2.objs.size := fun q => by
        obtain ⟨sl, hc⟩ := uu _ _ heC (fun vs q => by obtain ⟨es, ep, hd', _⟩ := hoC; rw [hd'] at q; cases q)
        rw [← q, he] at hc
        obtain ⟨es, ep, hd', _⟩ := hoC
        have := Option.some.inj hc
        rw [this] at hd
        rw [show ({ oC with slots := sl } : Obj).data = oC.data from rfl, hd'] at hd; cases hd
      have hCT : T ≠ H2.objs.size := fun q => by
        obtain ⟨sl, hc⟩ := uu _ _ heC (fun vs q => by obtain ⟨es, ep, hd', _⟩ := hoC; rw [hd'] at q; cases q)
        rw [← q, hT] at hc
        obtain ⟨es, ep, hd', _⟩ := hoC
        have := Option.some.inj hc
        rw [this] at hdT
        rw [show ({ oC with slots := sl } : Obj).data = oC.data from rfl, hd'] at hdT; cases hdT
      have he₇ : h₇.get? e = some oe := (hs₇.2 e hCe).trans he
      have hT₇ : h₇.get? T = some oT := (hs₇.2 T hCT).trans hT
      have hsz3 : 3 < ts.size := (Array.getElem?_eq_some_iff.mp h3).1
      -- the base of the start
      have stb : (hideAll s.heap (frs (envOf name scope₀ L a cd :: outer))).StaysIn (hideAll h₄ (frs (envOf name scope₀ L a cd :: outer))) := fun b o q => by
        have q1 := of_hideAll _ q
        refine hideAll_get _ (ko₄ b o (kk₁.get q1)) fun z => by rw [hideAll_none _ z] at q; cases q
      have bC : ∀ b o, s.heap.get? b = some o → b ≠ H2.objs.size := fun b o q => by
        exact lt2 b (Heap.lt_size (kk₁.get q))
      unfold PySem.passOn
      refine wpAny_bind (wpAny_field he₇ hd hv1 ?_)
      rw [if_neg (by simp)]
      unfold setFlight
      refine wpAny_bind (wpAny_bind (wpAny_field he₇ hd hv1 ?_))
      rw [if_pos (show (Value.ref T != Value.none) = true from by simp)]
      refine wpAny_setField hT₇ hdT hsz3 (wpAny_throw ?_)
      have other : ∀ b, b ≠ T → (h₇.update T (Obj.mapFields (·.setIfInBounds 3 (cenv.frame.elim Value.none fun f => rawInt f)))).get? b = h₇.get? b := fun b hb => Heap.get?_update_other _ _ (Ne.symm hb)
      have noRec : ∀ b o, h₇.get? b = some o → (∀ vs, o.data ≠ .fields vs) → b ≠ T := fun b o hb hnf q => by
        rw [q, hT₇] at hb; injection hb with hb; subst hb; exact hnf ts hdT
      have sT : (hideAll s.heap (frs (envOf name scope₀ L a cd :: outer))).get? T = none := fresh_of_stays stb hnT
      have sE : (hideAll s.heap (frs (envOf name scope₀ L a cd :: outer))).get? e = none := fresh_of_stays stb b2
      have up : ∀ b o, s.heap.get? b = some o → (∀ vs, o.data ≠ .fields vs) → ∃ sl, (h₇.update T (Obj.mapFields (·.setIfInBounds 3 (cenv.frame.elim Value.none fun f => rawInt f)))).get? b = some { o with slots := sl } := fun b o q hnf => by
        obtain ⟨sl, hsl⟩ := uu b o (ko₄ b o (kk₁.get q)) hnf
        have h7 : h₇.get? b = some { o with slots := sl } := (hs₇.2 b (bC b o q)).trans hsl
        exact ⟨sl, (other b (noRec b _ h7 hnf)).trans h7⟩
      refine hE e _ tk₅ ⟨a0, cenv.frame.elim Value.none fun f => rawInt f, fun b o q => ?_, sE, ?_, ?_, up⟩
      · have q0 := of_hideAll _ q
        have h7 : h₇.get? b = some o := (hs₇.2 b (bC b o q0)).trans (b1 b o (stb b o q))
        exact (other b fun z => by rw [z, sT] at q; cases q).trans h7
      · refine funFrames_re' (h := h₆) (fun b hm o hb hnf => ?_) b3 fun b hb => hideAll_none _ hb
        by_cases hbC : b = H2.objs.size
        · obtain ⟨o', ho', _⟩ := hFF.mem hm
          exact absurd hbC (bC b o' ho')
        · have h7 : h₇.get? b = some o := (hs₇.2 b hbC).trans hb
          exact ⟨o, (other b (noRec b o h7 hnf)).trans h7, rfl⟩
      · exact ⟨oe, vs, T, _, _, (other e (Ne.symm hTe)).trans he₇, hce, hd, hv1, sT, hTe, Heap.get?_update_self _ hT₇ (Obj.isFreed_of_fields (Obj.data_mapFields hdT _)), Obj.data_mapFields hdT _, by simp [hsz3]⟩
    · obtain ⟨hik, h₅, tk₅, rfl, k₅⟩ := h₅
      have hacc₅ : h₅.get? H1.objs.size = some (LCg.lst ys) := k₅.get (k₄ _ _ (by rw [hs1]; exact Nat.ne_of_gt (by walk_at "om")) (by rw [hs1, hs2]; exact Nat.ne_of_lt (by walk_at "om")) hacc)
      refine append_at (hsz := by show ys.toArray.size ≤ sizeLine; rw [List.size_toArray, hyl]; exact Nat.le_trans (Nat.le_of_lt hlt) hsz) hacc₅ fun h₆ hs₆ hD₆ => ?_
      have k₆ : ∀ b o, b ≠ H1.objs.size → h₅.get? b = some o → h₆.get? b = some o := fun b o hb e => hs₆.extBut b o hb e
      have ko₆ : ∀ b o, h₁.get? b = some o → h₆.get? b = some o := fun b o e => k₆ b o (lt1 b (Heap.lt_size e)) (k₅.get (ko₄ b o e))
      have hnn := hoC.ns (k₆ _ _ (by rw [hs1, hs2]; exact Nat.ne_of_gt (by walk_at "om")) (k₅.get heC))
      refine ⟨items.size + 1 - (i + 1), by walk_at "om", h₆, tk₅, i + 1, ys ++ [y], _, rfl, hik, rfl, by rw [List.length_append, List.length_singleton, hyl], ?_, hD₆.trans (congrArg some (LCg.lst_snoc ys y)), hnn, ⟨F₁.ns.keeps ko₆, fun b o e => ko₆ b o (F₁.keep b o e), F₁.above⟩, ko₆⟩
      · have z : h₄.IsListIter h₁.objs.size l (i + 1) := hit₃.at fun o e => hs₄.extBut _ o (Nat.ne_of_lt (show h₁.objs.size < H2.objs.size from by rw [hs2]; walk_at "om")) e
        exact z.at fun o e => k₆ _ o (by rw [hs1]; exact Nat.ne_of_lt (by walk_at "om")) (k₅.get e)
  exact codeAny_compStart_list (loop _ rfl) (wpAny_pyIter_listiter ⟨_, hI, rfl, rfl⟩ (loop _ rfl))
end
section
variable {prog : Program} {w : World} {A : Around} {E : Value → Shared → Prop} {s : Shared} {g : Heap} {L : Addr} {m : Str → Option Value} {news : List (Addr × Obj)}
theorem max2 {l : Addr} {i j : Int} {ti tj : Tok} {Q : Value → Shared → Prop} (hh : A.handled = none) (F : Fr g L s.heap m) (N : News g L s.heap news) (hl : s.heap.IsList l #[.int i ti, .int j tj])
    (h : ∀ h' tk, Fr g L h' m → News g L h' news → Q (if j > i then .int j tj else .int i ti) { s with heap := h', toks := tk }) : wpAny (model prog w) A (call (.builtin "max") [.ref l]) Q E s := by
  refine max_intList (xs := #[(i, ti), (j, tj)]) hh (by simpa [intItems] using hl) (by simp) fun v h' tk hv hk => ?_
  have e : v = if j > i then .int j tj else .int i ti := by
    by_cases hji : j > i
    · simpa [argBest, numAt, intItems, hji] using hv.symm
    · simpa [argBest, numAt, intItems, hji] using hv.symm
  exact e ▸ h h' tk (F.grownK hk) (N.grown hk)
theorem min2 {l : Addr} {i j : Int} {ti tj : Tok} {Q : Value → Shared → Prop} (hh : A.handled = none) (F : Fr g L s.heap m) (N : News g L s.heap news) (hl : s.heap.IsList l #[.int i ti, .int j tj])
    (h : ∀ h' tk, Fr g L h' m → News g L h' news → Q (if j < i then .int j tj else .int i ti) { s with heap := h', toks := tk }) : wpAny (model prog w) A (call (.builtin "min") [.ref l]) Q E s := by
  refine min_intList (xs := #[(i, ti), (j, tj)]) hh (by simpa [intItems] using hl) (by simp) fun v h' tk hv hk => ?_
  have e : v = if j < i then .int j tj else .int i ti := by
    by_cases hji : j < i
    · simpa [argBest, numAt, intItems, hji] using hv.symm
    · simpa [argBest, numAt, intItems, hji] using hv.symm
  exact e ▸ h h' tk (F.grownK hk) (N.grown hk)
end
theorem noneBooked {P : Params} {h : Heap} (X : (K P).In h) : NoneBooked h := by
  have e : h.get? 2 = some (o2 P) := X _ _ (by kernel_rfl)
  refine ⟨_, ⟨_, _, _, e, rfl, ?_, fun _ => rfl⟩, by kernel_rfl⟩
  intro x hx
  simp only [List.mem_toArray, mem_cons, not_mem_nil, or_false] at hx
  first | exact hx.elim | (rcases hx with rfl; exact ⟨_, _, rfl⟩) | (rcases hx with rfl | rfl <;> exact ⟨_, _, rfl⟩)
def TokOK (vals : List Value) : Prop := (∀ i t, Value.int i t ∈ vals → t ≠ 0) ∧ ∀ i j t, Value.int i t ∈ vals → Value.int j t ∈ vals → i = j
def TokFor (vals : List Value) (v : Value) : Prop := ∀ i t, v = .int i t → t ≠ 0 ∧ ∀ j, Value.int j t ∈ vals → i = j
theorem TokOK.snoc {vals : List Value} {v : Value} (T : TokOK vals) (hv : TokFor vals v) : TokOK (vals ++ [v]) := by
  refine ⟨fun i t h => ?_, fun i j t h h' => ?_⟩
  · rcases List.mem_append.mp h with h | h
    · exact T.1 i t h
    · exact (hv i t (List.mem_singleton.mp h).symm).1
  · rcases List.mem_append.mp h with h | h <;> rcases List.mem_append.mp h' with h' | h'
    · exact T.2 i j t h h'
    · exact ((hv j t (List.mem_singleton.mp h').symm).2 i h).symm
    · exact (hv i t (List.mem_singleton.mp h).symm).2 j h'
    · have := (List.mem_singleton.mp h).trans (List.mem_singleton.mp h').symm
      exact (by injection this)
theorem TokOK.for {vals : List Value} {v : Value} (T : TokOK vals) (hv : v ∈ vals) : TokFor vals v := fun i t e => ⟨T.1 i t (e ▸ hv), fun j h => T.2 i j t (e ▸ hv) h⟩
section
variable {prog : Program} {w : World} {A : Around} {E : Value → Shared → Prop} {s : Shared}
theorem same_int {M : Model} {p q : Int} {t u : Tok} {R : Bool → Shared → Prop} (ht : t ≠ 0) (hu : u ≠ 0) (hc : t = u → p = q) (nb : NoneBooked s.heap) (h : ∀ b, (b = true → p = q) → R b s) :
    wpAny M A (isSame (.int p t) (.int q u)) R E s := by
  have h0 : (t == 0 || u == 0) = false := by simp [ht, hu]
  show wpAny M A (if (p == q && smallInt p) = true then isSame.cachedInt t u else isSame.created (p == q) t u) R E s
  by_cases hs : (p == q && smallInt p) = true
  · rw [if_pos hs]
    unfold isSame.cachedInt
    rw [if_neg (by rw [h0]; exact Bool.false_ne_true)]
    refine wpAny_bind (wpAny_rule (wpAny_pure (h _ fun _ => ?_)))
    rw [Bool.and_eq_true] at hs
    exact beq_iff_eq.mp hs.1
  · rw [if_neg hs]
    unfold isSame.created
    refine wpAny_ite ?_
    split
    · rename_i h; rw [h0] at h; exact absurd h Bool.false_ne_true
    refine wpAny_ite ?_
    split
    · rename_i e; exact wpAny_pure (h _ fun _ => hc (beq_iff_eq.mp e))
    refine wpAny_ite ?_
    split
    · exact wpAny_pure (h _ (fun q => by cases q))
    rename_i e
    have epq : p = q := by simpa using e
    refine wpAny_bind (wpAny_sharingNotTold_none nb ?_)
    rw [if_neg Bool.false_ne_true]
    refine wpAny_bind (wpAny_sharingNotTold_none nb ?_)
    rw [if_neg Bool.false_ne_true]
    exact wpAny_bind (wpAny_rule (wpAny_bind (wpAny_askSetting (wpAny_pure (h _ fun _ => epq)))))
theorem is_int {p q : Int} {t u : Tok} {Q : Value → Shared → Prop} (X : (K w.params).In s.heap) (ht : t ≠ 0) (hu : u ≠ 0) (hc : t = u → p = q) (h : ∀ b, (b = true → p = q) → Q (.bool b) s) :
    wpAny (model prog w) A (compareOp .Is (.int p t) (.int q u)) Q E s := by
  show wpAny (model prog w) A (do return .bool (← isSame (.int p t) (.int q u))) Q E s
  exact wpAny_bind (same_int ht hu hc (noneBooked X) fun b hb => wpAny_pure (h b hb))
theorem is_atom {a b : Value} {x y : At} {Q : Value → Shared → Prop} (X : (K w.params).In s.heap) (ha : AtV a x) (hb : AtV b y) (hn : (x.isInt && y.isInt) = false) (h : Q (.bool (decide (x = y))) s) :
    wpAny (model prog w) A (compareOp .Is a b) Q E s := by
  have g1 : s.heap.get? 124 = some (o124 w.params) := X _ _ (by kernel_rfl)
  have g2 : s.heap.get? 127 = some (o127 w.params) := X _ _ (by kernel_rfl)
  cases ha <;> cases hb
  · cases hn
  · walk_at "9av"
  · walk_at "9av"
  · walk_at "9av"
  · exact wpAny_is_ref_self h
  · exact wpAny_is_ref_other (by decide) g1 g2 (by intro q; cases q) h
  · walk_at "9av"
  · exact wpAny_is_ref_other (by decide) g2 g1 (by intro q; cases q) h
  · exact wpAny_is_ref_self h
end
noncomputable def posOf (y : At) : List At → Option Nat
  | [] => none
  | x :: r => if x = y then some 0 else (posOf y r).map (· + 1)
theorem nil_get {α : Type} {C : Prop} {i : Nat} {a : α} (e : ([] : List α)[i]? = some a) : C := by rw [List.getElem?_nil] at e; cases e
theorem posOf_cons {y x : At} {r : List At} : posOf y (x :: r) = if x = y then some 0 else (posOf y r).map (· + 1) := rfl
theorem posOf_none {y : At} {cs : List At} : posOf y cs = none ↔ ∀ j : Nat, cs[j]? ≠ some y := by
  induction cs with
  | nil => exact ⟨fun _ j q => nil_get q, fun _ => rfl⟩
  | cons x r ih =>
    rw [posOf_cons]
    by_cases h : x = y
    · rw [if_pos h]
      exact ⟨fun q => (nomatch q), fun q => absurd (congrArg some h) (q 0)⟩
    · rw [if_neg h, Option.map_eq_none_iff, ih]
      refine ⟨fun q j => ?_, fun q j => q (j + 1)⟩
      cases j with
      | zero => exact fun e => h (Option.some.inj e)
      | succ j => exact q j
theorem posOf_some {y : At} {cs : List At} {k : Nat} (h : cs[k]? = some y) (hn : ∀ j, j < k → cs[j]? ≠ some y) : posOf y cs = some k := by
  induction cs generalizing k with
  | nil => exact nil_get h
  | cons x r ih =>
    rw [posOf_cons]
    cases k with
    | zero => rw [if_pos (Option.some.inj h)]
    | succ k => rw [if_neg fun e => hn 0 (Nat.succ_pos k) (congrArg some e), ih (k := k) h fun j hj => hn (j + 1) (Nat.succ_lt_succ hj)]; rfl
theorem posOf_get {y : At} {cs : List At} {k : Nat} (h : posOf y cs = some k) : cs[k]? = some y := by
  induction cs generalizing k with
  | nil => cases h
  | cons x r ih =>
    rw [posOf_cons] at h
    by_cases e : x = y
    · rw [if_pos e] at h; cases h; exact congrArg some e
    · rw [if_neg e] at h
      obtain ⟨j, hj, rfl⟩ := Option.map_eq_some_iff.mp h
      exact ih hj
noncomputable def All2 {α β : Type} (R : α → β → Prop) : List α → List β → Prop
  | [], [] => True
  | a :: as, b :: bs => R a b ∧ All2 R as bs
  | _, _ => False
namespace All2
variable {α β : Type} {R R' : α → β → Prop}
theorem ind {as : List α} {bs : List β} (h : All2 R as bs) (P : List α → List β → Prop) (h0 : P [] []) (h1 : ∀ a as b bs, R a b → All2 R as bs → P as bs → P (a :: as) (b :: bs)) : P as bs := by
  induction as generalizing bs with
  | nil => cases bs with
    | nil => exact h0
    | cons b bs => exact h.elim
  | cons a as ih => cases bs with
    | nil => exact h.elim
    | cons b bs => exact h1 a as b bs h.1 h.2 (ih h.2)
theorem length {as : List α} {bs : List β} (h : All2 R as bs) : as.length = bs.length := h.ind (fun as bs => as.length = bs.length) rfl fun _ _ _ _ _ _ h => congrArg Nat.succ h
theorem get {as : List α} {bs : List β} {i : Nat} {a : α} (h : All2 R as bs) (e : as[i]? = some a) : ∃ b, bs[i]? = some b ∧ R a b :=
  h.ind (fun as bs => ∀ (i : Nat) a, as[i]? = some a → ∃ b, bs[i]? = some b ∧ R a b) (fun _ _ e => nil_get e) (fun x _ y _ r _ ih i a e => by
    cases i with
    | zero => exact ⟨y, rfl, Option.some.inj e ▸ r⟩
    | succ i => exact ih i a e) i a e
theorem split {as : List α} {bs cs : List β} (h : All2 R as (bs ++ cs)) : ∃ p q, as = p ++ q ∧ All2 R p bs ∧ All2 R q cs := by
  induction bs generalizing as with
  | nil => exact ⟨[], as, rfl, trivial, h⟩
  | cons b bs ih => cases as with
    | nil => exact h.elim
    | cons a as =>
      obtain ⟨p, q, e, h1, h2⟩ := ih h.2
      exact ⟨a :: p, q, congrArg (List.cons a) e, ⟨h.1, h1⟩, h2⟩
theorem app {as : List α} {bs : List β} {as' : List α} {bs' : List β} (h : All2 R as bs) (h' : All2 R as' bs') : All2 R (as ++ as') (bs ++ bs') :=
  h.ind (fun as bs => All2 R (as ++ as') (bs ++ bs')) h' fun _ _ _ _ r _ ih => And.intro r ih
theorem snoc {as : List α} {bs : List β} {a : α} {b : β} (h : All2 R as bs) (h' : R a b) : All2 R (as ++ [a]) (bs ++ [b]) := app h ⟨h', trivial⟩
theorem take {as : List α} {bs : List β} (n : Nat) (h : All2 R as bs) : All2 R (as.take n) (bs.take n) :=
  h.ind (fun as bs => ∀ n, All2 R (as.take n) (bs.take n)) (fun n => by rw [List.take_nil, List.take_nil]; trivial) (fun _ _ _ _ r _ ih n => by
    cases n with
    | zero => exact trivial
    | succ n => exact And.intro r (ih n)) n
theorem drop {as : List α} {bs : List β} (n : Nat) (h : All2 R as bs) : All2 R (as.drop n) (bs.drop n) :=
  h.ind (fun as bs => ∀ n, All2 R (as.drop n) (bs.drop n)) (fun n => by rw [List.drop_nil, List.drop_nil]; trivial) (fun _ _ _ _ r h ih n => by
    cases n with
    | zero => exact And.intro r h
    | succ n => exact ih n) n
theorem mono (k : ∀ a b, R a b → R' a b) {as : List α} {bs : List β} (h : All2 R as bs) : All2 R' as bs :=
  h.ind (fun as bs => All2 R' as bs) trivial fun _ _ _ _ r _ ih => And.intro (k _ _ r) ih
end All2
theorem All2.at {α β : Type} {R : α → β → Prop} {as : List α} {bs : List β} (H : All2 R as bs) (j : Nat) (h : j < as.length) : ∃ b, bs[j]? = some b ∧ R as[j] b := All2.get H (List.getElem?_eq_getElem h)
def AtsV (vs : List Value) (as : List At) : Prop := All2 AtV vs as
theorem AtsV.length {vs : List Value} {as : List At} (h : AtsV vs as) : vs.length = as.length := All2.length h
theorem AtsV.get {vs : List Value} {as : List At} {i : Nat} {v : Value} (h : AtsV vs as) (e : vs[i]? = some v) : ∃ a, as[i]? = some a ∧ AtV v a := All2.get h e
theorem AtsV.snoc {vs : List Value} {as : List At} {v : Value} {a : At} (h : AtsV vs as) (h' : AtV v a) : AtsV (vs ++ [v]) (as ++ [a]) := All2.snoc h h'
noncomputable abbrev consD (P : Params) (t : Tok) (vl : Addr) : Obj := { cls := .type "dict", data := .dict #[DictEntry.mk (PyData.keyHash P "values") (.str "values" t) (.ref vl)] 1 }
theorem locs2 {a b : Str} {m m₀ : Str → Option Value} (h : ∀ z, z ≠ a → z ≠ b → m z = m₀ z) : ∃ u : Str → Option Value, m = fun z => if z = a then u z else if z = b then u z else m₀ z :=
  ⟨m, funext fun z => by
    by_cases h1 : z = a
    · rw [if_pos h1]
    · rw [if_neg h1]
      by_cases h2 : z = b
      · rw [if_pos h2]
      · rw [if_neg h2]; exact h z h1 h2⟩
noncomputable abbrev LoopInv : Type := Nat → (Str → Option Value) → List (Addr × Obj) → Nat → Prop
theorem Kept.of_left {M : List Addr} {h h' h₀ : Heap} {news news' : List (Addr × Obj)} (k : Kept M h h') (l : Left M h h' news') (N : Led h₀ h news) (hs : ∀ p ∈ news, p ∈ news') {M' : List Addr} (hM : ∀ a ∈ M, a ∈ M' ∨ a ∈ news.map (·.1)) : Kept M' h h' := fun b o hb e => by
  by_cases hm : b ∈ M
  · rcases hM b hm with h1 | h1
    · exact absurd h1 hb
    · obtain ⟨⟨b', o'⟩, ho', rfl⟩ := List.mem_map.mp h1
      have h2 := (N _ ho').1
      have h3 := (l _ (hs _ ho')).1
      dsimp only at h2 h3
      rw [e] at h2
      rw [h3, Option.some.inj h2]
  · exact k b o hm e
theorem Kept.fix {h h' : Heap} {a : Addr} {o : Obj} (k : Kept [a] h h') (e : h.get? a = some o) (e' : h'.get? a = some o) : Kept [] h h' := fun b x _ q => by
  by_cases hb : b = a
  · subst hb; rw [e] at q; rw [e', Option.some.inj q]
  · exact k b x (fun z => hb (List.mem_singleton.mp z)) q
theorem Gd.sub {w : World} {p : Program} {lo : List Str} {mean : ExcName → Option Value} {mg mb : Str → Option Value} {h₀ g : Heap} {s : Shared} {M : List Addr} (G : Gd w p lo mean mg mb h₀ s) (S : Sub M s.heap g) (h0 : ∀ b ∈ M, h₀.get? b = none) :
    (K w.params).In g ∧ Top p lo mean mg mb g := by
  have st : ∀ b o, h₀.get? b = some o → g.get? b = some o := fun b o e => S.1 b o (fun q => by rw [h0 b q] at e; cases e) (G.st b o e)
  exact ⟨G.X.keeps st, G.T.keeps st⟩
section
variable {prog : Program} {w : World} {A : Around} {E : Value → Shared → Prop} {s : Shared} {g : Heap} {L : Addr} {m : Str → Option Value} {news : List (Addr × Obj)}
end
section
open AutoSeq1 (wpAny_loadPart')
section
variable {prog : Program} {w : World} {A : Around} {E : Value → Shared → Prop} {s : Shared}
theorem nextOf_tup {it t : Addr} {i : Nat} {items : Array Value} {x : Value} {Q : Value → Shared → Prop} (hit : s.heap.IsTupleIter it t i) (ht : s.heap.IsTuple t items) (hx : items[i]? = some x)
    (hQ : ∀ h', h'.IsTupleIter it t (i + 1) → Heap.SameBut it s.heap h' → Q x { s with heap := h' }) : wpAny (model prog w) A (Builtin.SmallTypes.nextOf (.ref it)) Q E s := by
  have hT := hit.typeIs
  obtain ⟨o, ho, hc, hd⟩ := hit
  obtain ⟨ol, hol, -, nl, hdl⟩ := ht
  have slot := PySem.F.slot_tuple_iterator_next
  refine wpAny_bind (wpAny_callSpecial?_slot hT slot (wpAny_call_entry slot hT PySem.F.entry_tuple_iterator_next ?_ (PySem.F.args_tuple_iterator_next_1 _)))
  unfold Builtin.«tuple_iterator.__next__»
  wp_walk using wpAny_field ho hd (x := .ref t) rfl, wpAny_field ho hd (x := .int i 0) rfl, wpAny_seqItems hol hdl
  rw [Int.toNat_natCast, hx]
  have h1 : 1 < #[Value.ref t, Value.int (i : Int) 0].size := Nat.le_refl 2
  wp_walk using wpAny_setField ho hd h1
  refine ⟨x, rfl, wpAny_pure (hQ _ ?_ (Heap.SameBut.update ..))⟩
  have hd' := Obj.data_mapFields hd fun vs => vs.setIfInBounds 1 (rawInt ((i : Int) + 1))
  refine ⟨_, Heap.get?_update_self _ ho (Obj.isFreed_of_fields hd'), (Obj.cls_mapFields ..).trans hc, hd'.trans ?_⟩
  rfl
theorem enum_turn {e it : Addr} {i : Nat} {x old : Value} {P : Heap → Prop} {Q : Option Value → Shared → Prop} (he : IsEnum s.heap e it i old) (hne : e ≠ it)
    (hnext : ∀ (A : Around) (E : Value → Shared → Prop) (Q' : Value → Shared → Prop), (∀ h', P h' → Heap.SameBut it s.heap h' → Q' x { s with heap := h' }) → wpAny (model prog w) A (Builtin.SmallTypes.nextOf (.ref it)) Q' E s)
    (hP : ∀ h h', P h → Heap.ExtBut e h h' → P h')
    (hQ : ∀ h' T, IsEnumOut h' e it ((i : Int) + 1) x T → P h' → h'.get? T = some { cls := .type "tuple", data := .seq #[.int i s.toks, x] } → s.heap.get? T = none → (∀ b o, b ≠ e → b ≠ it → s.heap.get? b = some o → h'.get? b = some o) → Q (some (.ref T)) { s with heap := h', toks := s.toks + 1 }) :
    wpAny (model prog w) A (pyNext (.ref e)) Q E s := by
  revert he hne hnext hP hQ
  revert prog w A E s e it i x old P Q
  walk_at "9i"
  intro prog w A E s e it i
  clear_value prog w A E s e it i
  walk_at "9f"
  intro x old P Q
  clear_value x old P Q
  walk_at "in"
  have hT : s.TypeIs (.ref e) "enumerate" := ⟨_, he, rfl⟩
  unfold pyNext
  refine wpAny_bind (wpAny_attempt (wpAny_callSpecial?_slot (name := Str.ofString "__next__") hT PySem.F.slot_enumerate_next (wpAny_call_entry PySem.F.slot_enumerate_next hT PySem.F.entry_enumerate_next ?_ (PySem.F.args_enumerate_next_1 _))))
  obtain ⟨hp, g, d, tk, os⟩ := s
  show wpAny _ _ (field (.ref e) 2 >>= _) _ _ _
  refine wpAny_bind (wpAny_field he rfl (x := .ref it) rfl ?_)
  refine wpAny_bind (hnext _ _ _ fun h₁ p₁ s₁ => ?_)
  replace s₁ : Heap.SameBut it hp h₁ := s₁
  have e₁ : IsEnum h₁ e it i old := (s₁.2 e hne).trans he
  show wpAny _ _ (field (.ref e) 3 >>= _) _ _ ⟨h₁, g, d, tk, os⟩
  refine wpAny_bind (wpAny_field e₁ rfl (x := rawInt i) rfl ?_)
  show wpAny _ _ (field (.ref e) 4 >>= _) _ _ ⟨h₁, g, d, tk, os⟩
  refine wpAny_bind (wpAny_field e₁ rfl (x := .none) rfl ?_)
  show wpAny _ _ (mkInt i >>= _) _ _ ⟨h₁, g, d, tk, os⟩
  refine wpAny_bind (wpAny_mkInt ?_)
  show wpAny _ _ (setField (.ref e) 3 (rawInt ((i : Int) + 1)) >>= _) _ _ ⟨h₁, g, d, tk + 1, os⟩
  refine wpAny_bind (wpAny_setField_rec e₁ (by simp) fun h₂ e₂ s₂ => ?_)
  replace s₂ : Heap.SameBut e h₁ h₂ := s₂
  replace e₂ : IsEnum h₂ e it ((i : Int) + 1) old := e₂
  show wpAny _ _ (setField (.ref e) 4 .none >>= _) _ _ ⟨h₂, g, d, tk + 1, os⟩
  refine wpAny_bind (wpAny_setField_rec e₂ (by simp) fun h₃ e₃ s₃ => ?_)
  replace s₃ : Heap.SameBut e h₂ h₃ := s₃
  replace e₃ : IsEnum h₃ e it ((i : Int) + 1) old := e₃
  have p₃ : P h₃ := hP _ _ (hP _ _ p₁ s₂.extBut) s₃.extBut
  show wpAny _ _ (newTuple [.int i tk, x] >>= _) _ _ ⟨h₃, g, d, tk + 1, os⟩
  refine wpAny_bind (wpAny_newTuple ?_)
  have hz : h₃.objs.size = hp.objs.size := by rw [s₃.1, s₂.1, s₁.1]
  have hel : e < hp.objs.size := Heap.lt_size he
  have e₄ : IsEnum (h₃.push { cls := .type "tuple", data := .seq #[.int i tk, x] }) e it ((i : Int) + 1) old := Heap.get?_push_of_some _ e₃
  have p₄ : P (h₃.push { cls := .type "tuple", data := .seq #[.int i tk, x] }) := hP _ _ p₃ fun b o _ hb => Heap.get?_push_of_some _ hb
  have t₄ : (h₃.push { cls := .type "tuple", data := .seq #[.int i tk, x] }).get? h₃.objs.size = some { cls := .type "tuple", data := .seq #[.int i tk, x] } := Heap.get?_push_size _ rfl
  have k₄ : ∀ b o, b ≠ e → b ≠ it → hp.get? b = some o → (h₃.push { cls := .type "tuple", data := .seq #[.int i tk, x] }).get? b = some o := fun b o hbe hbi hb =>
    Heap.get?_push_of_some _ (s₃.extBut b o hbe (s₂.extBut b o hbe (s₁.extBut b o hbi hb)))
  show wpAny _ _ (Builtin.SmallTypes.ownedTupleIsFree (.ref e) >>= _) _ _ _
  refine wpAny_bind ?_
  unfold Builtin.SmallTypes.ownedTupleIsFree
  refine wpAny_bind (wpAny_field e₄ rfl (x := .none) rfl (wpAny_pure ?_))
  simp only [if_true]
  refine wpAny_bind (wpAny_rule ?_)
  refine wpAny_bind (wpAny_field e₄ rfl (x := old) rfl ?_)
  refine wpAny_bind (wpAny_setField_rec e₄ (by simp) fun h₅ e₅ s₅ => ?_)
  replace s₅ : Heap.SameBut e _ h₅ := s₅
  replace e₅ : IsEnum h₅ e it ((i : Int) + 1) x := e₅
  refine wpAny_bind ?_
  unfold Builtin.SmallTypes.ownedTupleHandOut
  refine wpAny_bind (wpAny_setField_rec e₅ (by simp) fun h₆ e₆ s₆ => ?_)
  replace s₆ : Heap.SameBut e h₅ h₆ := s₆
  replace e₆ : IsEnumOut h₆ e it ((i : Int) + 1) x h₃.objs.size := e₆
  refine wpAny_setField_rec e₆ (by simp) fun h₇ e₇ s₇ => ?_
  replace s₇ : Heap.SameBut e h₆ h₇ := s₇
  replace e₇ : IsEnumOut h₇ e it ((i : Int) + 1) x h₃.objs.size := e₇
  have hTe : h₃.objs.size ≠ e := by rw [hz]; exact Nat.ne_of_gt hel
  refine wpAny_bind (wpAny_letGo (wpAny_pure ⟨_, rfl, wpAny_pure (hQ h₇ _ e₇ ?_ ?_ ?_ ?_)⟩))
  · exact hP _ _ (hP _ _ (hP _ _ p₄ s₅.extBut) s₆.extBut) s₇.extBut
  · exact s₇.extBut _ _ hTe (s₆.extBut _ _ hTe (s₅.extBut _ _ hTe t₄))
  · rw [hz]; exact Heap.get?_none_of_le (Nat.le_refl _)
  · exact fun b o hbe hbi hb => s₇.extBut b o hbe (s₆.extBut b o hbe (s₅.extBut b o hbe (k₄ b o hbe hbi hb)))
end
theorem any_k {prog : Program} {w : World} {A : Around} {f : List (Code × Pos) → Bool} {k : Bool → Shared → Prop} {E E' : Value → Shared → Prop} {s : Shared} (h : ∀ b, k b s) :
    wpAny (model prog w) A stack (fun a s' => wpAny (model prog w) A (pure (f a)) k E s') E' s :=
  wpAny_stack_any fun st => wpAny_pure (h (f st))
theorem enum_newT (l : Addr) (items : Array Value) (n : Nat) (dct : Option Addr) (sl : Array (Option Value)) :
    Meets (Builtin.«enumerate.__new__» ⟨[.type "enumerate", .ref l], []⟩) (fun _ R s => s.heap.get? l = some { cls := .type "tuple", dict := dct, data := .seq items n, slots := sl } ∧
      R (.ok (.ret (.ref (s.heap.push { cls := .type "tuple_iterator", data := .fields #[.ref l, .int 0 0] }).objs.size)))
        { s with heap := (s.heap.push { cls := .type "tuple_iterator", data := .fields #[.ref l, .int 0 0] }).push { cls := .type "enumerate", data := .fields #[.none, .bool false, .ref s.heap.objs.size, rawInt 0, .none, .none] } }) :=
  .of_wp fun prog w A R s h => by
    obtain ⟨hp, g, d, tk, os⟩ := s; obtain ⟨hl, h⟩ := h
    have hsub := sub_enumerate
    have hL : Heap.IsTuple (Shared.heap ⟨hp, g, d, tk, os⟩) l items := ⟨_, hl, rfl, n, rfl⟩
    wp_walk using wpAny_loadPart' hl
    refine any_k fun b => ?_
    cases b
    · wp_walk using wpAny_loadPart' hl, wpAny_pyIter_tuple hL
      exact ⟨_, rfl, h⟩
    · wp_walk using wpAny_loadPart' hl, wpAny_pyIter_tuple hL
      exact ⟨_, rfl, h⟩
section
variable {prog : Program} {w : World} {A : Around} {E : Value → Shared → Prop} {s : Shared}
theorem call_enumT {l : Addr} {items : Array Value} {Q : Value → Shared → Prop} (hL : s.heap.IsTuple l items)
    (h : ∀ h', IsEnum h' (s.heap.objs.size + 1) s.heap.objs.size 0 .none → h'.IsTupleIter s.heap.objs.size l 0 → (∀ b o, s.heap.get? b = some o → h'.get? b = some o) → Q (.ref (s.heap.objs.size + 1)) { s with heap := h' }) :
    wpAny (model prog w) A (call (.type "enumerate") [.ref l]) Q E s := by
  obtain ⟨⟨c, dct, dt, sl⟩, hl, hc, n, hd⟩ := hL
  replace hc : c = .type "tuple" := hc
  replace hd : dt = .seq items n := hd
  subst hc hd
  refine callType_new PySem.F.called_enumerate (by decide) (PySem.F.typeCall_enumerate_1 _) (PySem.F.newCall_enumerate_1 _) (fun obj => PySem.F.args_object_init_2 obj _) PySem.F.entry_enumerate_new
    (enum_newT l items n dct sl) ⟨hl, ?_⟩
  have hz : (s.heap.push { cls := .type "tuple_iterator", data := .fields #[.ref l, .int 0 0] }).objs.size = s.heap.objs.size + 1 := Heap.size_push ..
  show _ ∧ _
  rw [hz]
  have he : IsEnum ((s.heap.push { cls := .type "tuple_iterator", data := .fields #[.ref l, .int 0 0] }).push
      { cls := .type "enumerate", data := .fields #[.none, .bool false, .ref s.heap.objs.size, rawInt 0, .none, .none] }) (s.heap.objs.size + 1) s.heap.objs.size 0 .none := by
    have := Heap.get?_push_size (s.heap.push { cls := .type "tuple_iterator", data := .fields #[.ref l, .int 0 0] })
      (o := { cls := .type "enumerate", data := .fields #[.none, .bool false, .ref s.heap.objs.size, rawInt 0, .none, .none] }) rfl
    rw [hz] at this; exact this
  exact ⟨⟨_, he, rfl⟩, h _ he ⟨_, Heap.get?_push_of_some _ (Heap.get?_push_size _ rfl), rfl, rfl⟩ fun b o x => Heap.get?_push_of_some _ (Heap.get?_push_of_some _ x)⟩
end
section
variable {prog : Program} {w : World} {A : Around} {E : Value → Shared → Prop} {s : Shared} {env : Env} {h₀ : Heap} {elts : List Expr} {kk : Nat} {tp : Pos} {body : List Stmt} {Q : Flow → Shared → Prop}
def FindPost (h₀ : Heap) (L : Addr) (own : List (Addr × Obj)) (J : (Str → Option Value) → List (Addr × Obj) → Nat → Prop) (go : Prop) (s₁ : Shared) (Q : Flow → Shared → Prop) (f : Flow) (s₂ : Shared) : Prop :=
  match f with
  | .ret v => Q (.ret v) s₂
  | .brk => Q .next s₂
  | _ => go ∧ TurnEnd h₀ L own J s₁ s₂
structure Finding (prog : Program) (w : World) (A : Around) (h₀ : Heap) (env : Env) (target : Expr) (body : List Stmt) (Q : Flow → Shared → Prop) (E : Value → Shared → Prop) (s₂ : Shared) (k₀ : Nat) (items : Array Value) (m : Str → Option Value) (news : List (Addr × Obj))
    (J : Nat → (Str → Option Value) → List (Addr × Obj) → Nat → Prop) : Prop where
  init : J 0 m news s₂.toks
  iters : ∀ p ∈ news, isIter p.2 = false
  step : ∀ i x t T m₁ news₁ h₁ tk₁ own, i ≤ k₀ → items[i]? = some x → h₁.IsTuple T #[.int i t, x] → J i m₁ news₁ tk₁ → s₂.toks ≤ tk₁ → OwnOff own (news₁.map (·.1)) → (∀ p ∈ news₁, isIter p.2 = false) →
      Fr h₀ env.locals h₁ m₁ → News h₀ env.locals h₁ (news₁ ++ own) →
      wpAny (model prog w) A (assign target env (.ref T)) (fun _ s₃ => wpAny (model prog w) A (execs body env) (FindPost h₀ env.locals own (J (i + 1)) (i < k₀) { s₂ with heap := h₁, toks := tk₁ } Q) E s₃) E { s₂ with heap := h₁, toks := tk₁ }
  up : ∀ i m news tk tk', J i m news tk → tk ≤ tk' → J i m news tk'
def FindMy (prog : Program) (w : World) (A : Around) (h₀ : Heap) (env : Env) (target : Expr) (body : List Stmt) (Q : Flow → Shared → Prop) (E : Value → Shared → Prop) (itv : Value) (s₂ : Shared) : Prop :=
  ∃ (e it l : Addr) (items : Array Value) (k₀ : Nat) (m : Str → Option Value) (news : List (Addr × Obj)) (J : Nat → (Str → Option Value) → List (Addr × Obj) → Nat → Prop),
    itv = .ref e ∧ e ≠ it ∧ env.locals ≠ e ∧ env.locals ≠ it ∧ h₀.get? e = none ∧ h₀.get? it = none ∧ (∃ old, IsEnum s₂.heap e it 0 old) ∧ s₂.heap.IsTupleIter it l 0 ∧ h₀.IsTuple l items ∧ k₀ < items.size ∧ Fr h₀ env.locals s₂.heap m ∧ News h₀ env.locals s₂.heap news ∧
    Finding prog w A h₀ env target body Q E s₂ k₀ items m news J
theorem find_loop {R : Result → Shared → Prop} {e it l : Addr} {items : Array Value} {k₀ : Nat} {m : Str → Option Value} {news : List (Addr × Obj)} (J : Nat → (Str → Option Value) → List (Addr × Obj) → Nat → Prop)
    (hei : e ≠ it) (hLe : env.locals ≠ e) (hLi : env.locals ≠ it) (he0 : h₀.get? e = none) (hi0 : h₀.get? it = none) (hen : ∃ old, IsEnum s.heap e it 0 old) (hit : s.heap.IsTupleIter it l 0) (hl : h₀.IsTuple l items) (hk : k₀ < items.size) (F : Fr h₀ env.locals s.heap m) (N : News h₀ env.locals s.heap news)
    (T : Finding prog w A h₀ env (.Tuple elts kk tp) body (fun f s' => R (.ok f) s') (notedBy (model prog w) A env fun e s' => R (.error e) s') s k₀ items m news J) :
    codeAny (model prog w) A (.forLoop (.Tuple elts kk tp) (.ref e) body [] env) R s := by
  revert J hei hLe hLi he0 hi0 hen hit hl hk F N T
  revert prog w A s env h₀ elts kk tp body R e it l items k₀ m news
  walk_at "9c"
  intro prog w A s env h₀ elts kk tp body R e it l items k₀
  clear_value prog w A s env h₀ elts kk tp body R e it l items k₀
  walk_at "9e"
  intro m news
  clear_value m news
  walk_at "in"
  obtain ⟨h0, hti, step, up⟩ := T
  refine codeAny_forLoop_any
    (fun k s' => ∃ h' tk m' news', ∃ i : Nat, s' = { s with heap := h', toks := tk } ∧ s.toks ≤ tk ∧ (∃ old, IsEnum h' e it i old) ∧ h'.IsTupleIter it l i ∧ Fr h₀ env.locals h' m' ∧ News h₀ env.locals h' news' ∧ (∀ p ∈ news', isIter p.2 = false) ∧ J i m' news' tk ∧ i ≤ k₀ ∧ k = k₀ + 1 - i) ?_ (k₀ + 1)
    ⟨s.heap, s.toks, m, news, 0, rfl, Nat.le_refl _, hen, hit, F, N, hti, h0, Nat.zero_le _, rfl⟩
  rintro k s' ⟨h', tk, m', news', i, rfl, htk, ⟨old, hen'⟩, hit', F', N', hti', hJ, hi, rfl⟩
  have hlt : i < items.size := Nat.lt_of_le_of_lt hi hk
  have hl' : h'.IsTuple l items := hl.at fun o q => F'.keep l o q
  have ie : isIter { cls := .type "enumerate", dict := none, data := .fields #[.none, .bool false, .ref it, rawInt i, .none, old], slots := #[] } = true := rfl
  have offe : ∀ p ∈ news', p.1 ≠ e ∧ p.1 ≠ it := fun p hp => by
    refine ⟨fun q => ?_, fun q => ?_⟩
    · have := (N' p hp).1
      rw [q, hen'] at this
      have z := hti' p hp
      rw [← Option.some.inj this] at z; cases z
    · obtain ⟨oi, hoi, hci, _⟩ := hit'
      have := (N' p hp).1
      rw [q, hoi] at this
      have z := hti' p hp
      rw [← Option.some.inj this] at z
      unfold isIter at z; rw [hci] at z; cases z
  have next : ∀ h₁ : Heap, (∀ b o, b ≠ e → b ≠ it → h'.get? b = some o → h₁.get? b = some o) → Fr h₀ env.locals h₁ m' ∧ News h₀ env.locals h₁ news' := fun h₁ hk₁ =>
    ⟨⟨F'.ns.at' fun o q => hk₁ _ o hLe hLi q, fun b o q => hk₁ b o (fun z => by rw [z, he0] at q; cases q) (fun z => by rw [z, hi0] at q; cases q) (F'.keep b o q), F'.above⟩, fun p hp => ⟨hk₁ _ _ (offe p hp).1 (offe p hp).2 (N' p hp).1, (N' p hp).2⟩⟩
  refine wpAny_with_toks (n := tk) (Nat.le_refl _) (enum_turn (P := fun h => h.IsTupleIter it l (i + 1)) (x := items[i]) hen' hei (fun A E Q' hq => nextOf_tup hit' hl' (by simp [hlt]) hq) (fun h h' p x => p.at fun o q => x it o (Ne.symm hei) q) fun h₁ Tt heo hit₁ hTt hTn hk₁ hle => ?_)
  have hTe : Tt ≠ e := fun q => by
    have hen'' : h'.get? e = some _ := hen'
    rw [← q, hTn] at hen''; cases hen''
  have hTi : Tt ≠ it := fun q => by
    obtain ⟨oi, hoi, _⟩ := hit'
    have : h'.get? it = none := q ▸ hTn
    rw [hoi] at this; cases this
  refine wpAny_letOwnedTupleGo_enum heo fun h₂ he₂ hs₂ => ?_
  have hit₂ : h₂.IsTupleIter it l (i + 1) := hit₁.at fun o q => (hs₂.2 it hei.symm).trans q
  obtain ⟨F₂, N₂⟩ := next h₂ fun b o hb hb' q => (hs₂.2 b hb).trans (hk₁ b o hb hb' q)
  have hT₂ : h₂.IsTuple Tt #[.int i tk, items[i]] := ⟨_, (hs₂.2 Tt hTe).trans hTt, rfl, _, rfl⟩
  obtain ⟨oi, hoi, hci, hdi⟩ := id hit₂
  obtain ⟨oe, he₂', hoe⟩ : ∃ oe, h₂.get? e = some oe ∧ ∀ h : Heap, h.get? e = some oe → ∃ old, IsEnum h e it ((i + 1 : Nat) : Int) old := ⟨_, he₂, fun h q => ⟨_, by
    have e1 : ((i + 1 : Nat) : Int) = (i : Int) + 1 := by push_cast; rfl
    rw [e1]; exact q⟩⟩
  have Nown : News h₀ env.locals h₂ [(e, oe), (it, oi)] := fun p hp => by
    walk_at "9x"
    · exact ⟨he₂', Ne.symm hLe, he0⟩
    · walk_at "9ak"
      exact ⟨hoi, Ne.symm hLi, hi0⟩
  refine wpAny_mono (wpAny_toks_of (n := s.toks) (Nat.le_trans htk hle) (step i items[i] tk Tt m' news' h₂ _ _ hi (by simp [hlt]) hT₂ (up _ _ _ _ _ hJ hle) (Nat.le_trans htk hle) (fun p hp b hb q => ?_) hti' F₂ (fun p hp => (List.mem_append.mp hp).elim (N₂ p) (Nown p)))) (fun _ s₂ h₂' => ?_) fun _ _ q => q.2
  · obtain ⟨y, hy, rfl⟩ := List.mem_map.mp hb
    walk_at "9x"
    · exact (offe y hy).1 q.symm
    · walk_at "9ak"
      exact (offe y hy).2 q.symm
  refine wpAny_mono (wpAny_toks_of (n := s.toks) h₂'.1 h₂'.2) (fun f s₃ h₃ => ?_) fun _ _ q => q.2
  obtain ⟨hle₃, h₃⟩ := h₃
  have fin : (i < k₀ ∧ TurnEnd h₀ env.locals [(e, oe), (it, oi)] (J (i + 1)) { s with heap := h₂, toks := tk + 1 } s₃) → ∃ m, m < k₀ + 1 - i ∧ ∃ h' tk m' news', ∃ i : Nat, s₃ = { s with heap := h', toks := tk } ∧ s.toks ≤ tk ∧ (∃ old, IsEnum h' e it i old) ∧ h'.IsTupleIter it l i ∧ Fr h₀ env.locals h' m' ∧ News h₀ env.locals h' news' ∧ (∀ p ∈ news', isIter p.2 = false) ∧ J i m' news' tk ∧ i ≤ k₀ ∧ m = k₀ + 1 - i := by
    rintro ⟨hlt', h₃', tk₃, m₂, news₂, rfl, F₃, N₃, ha₃, hJ₃⟩
    have z1 := (N₃ (e, oe) (List.mem_append_right _ (.head _))).1
    have z2 := (N₃ (it, oi) (List.mem_append_right _ Z1)).1
    exact ⟨k₀ + 1 - (i + 1), by omega, h₃', tk₃, m₂, news₂, i + 1, rfl, hle₃, hoe _ z1, ⟨oi, z2, hci, hdi⟩, F₃, fun p hp => N₃ p (List.mem_append_left _ hp), ha₃, hJ₃, hlt', rfl⟩
  cases f with
  | ret v => exact h₃
  | brk => exact h₃
  | cont => exact fin h₃
  | next => exact fin h₃
theorem For_find {iter : Expr} {pos : Pos} {m : Str → Option Value} (_F : Fr h₀ env.locals s.heap m)
    (h : wpAny (model prog w) A (eval iter env) (fun xv s₁ => wpAny (model prog w) A (pyIter xv) (fun it s₂ => FindMy prog w A h₀ env (.Tuple elts kk tp) body Q E it s₂) E s₁) E s)
    (hs : ∀ x, foldedSetIterable iter env x = pure x := by intro _; rfl)
    (hE : PassesOwn (model prog w) A env E := by passes_own) :
    wpAny (model prog w) A (exec (.For (.Tuple elts kk tp) iter body [] pos) env) Q E s := by
  revert _F h hs hE
  revert prog w A E s env h₀ elts kk tp body Q iter pos m
  walk_at "9i"
  intro prog w A E s env h₀ elts
  clear_value prog w A E s env h₀ elts
  walk_at "9f"
  intro kk tp body Q
  clear_value kk tp body Q
  walk_at "9e"
  intro iter pos
  clear_value iter pos
  walk_at "9g"
  intro m
  clear_value m
  walk_at "in"
  walk_at "9y"
  obtain ⟨e, it, l, items, k₀, m, news, J, rfl, a1, a2, a3, a4, a5, a6, a7, a8, a9, F, N, T⟩ := h₂
  exact find_loop (R := fun r s' => match r with | .ok f => Q f s' | .error e => cameBackBy (model prog w) A env E e s') J a1 a2 a3 a4 a5 a6 a7 a8 a9 F N
    ⟨T.init, T.iters, fun i x t Tt m₁ news₁ h₁ tk₁ own b1 b2 b3 b4 b5 b6 b7 b8 b9 => wpAny_mono (T.step i x t Tt m₁ news₁ h₁ tk₁ own b1 b2 b3 b4 b5 b6 b7 b8 b9) (fun _ _ x => wpAny_passesOwn hE x) hE, T.up⟩
theorem find_start {l : Addr} {items : Array Value} {m : Str → Option Value} {news : List (Addr × Obj)} {k₀ : Nat} (J : Nat → (Str → Option Value) → List (Addr × Obj) → Nat → Prop) (F : Fr h₀ env.locals s.heap m) (N : News h₀ env.locals s.heap news) (hl : h₀.IsTuple l items) (hk : k₀ < items.size)
    (T : Finding prog w A h₀ env (.Tuple elts kk tp) body Q E s k₀ items m news J) :
    wpAny (model prog w) A (call (.type "enumerate") [.ref l]) (fun xv s₁ => wpAny (model prog w) A (pyIter xv) (fun it s₂ => FindMy prog w A h₀ env (.Tuple elts kk tp) body Q E it s₂) E s₁) E s := by
  have hls : s.heap.IsTuple l items := hl.at fun o q => F.keep l o q
  refine call_enumT hls fun h' hE hI hkp => ?_
  refine wpAny_pyIter_enum hE ?_
  have fresh : ∀ b, s.heap.objs.size ≤ b → h₀.get? b = none := fun b hb => by
    cases q : h₀.get? b with
    | none => rfl
    | some o => exact absurd (Heap.lt_size (F.keep b o q)) (Nat.not_lt.mpr hb)
  walk_at "9aS"
  obtain ⟨t1, t2, t3, t4⟩ := T
  exact ⟨_, _, l, items, k₀, m, news, J, rfl, Nat.succ_ne_self _, Nat.ne_of_lt (Nat.lt_succ_of_lt hLs), Nat.ne_of_lt hLs, fresh _ (Nat.le_succ _), fresh _ (Nat.le_refl _), ⟨_, hE⟩, hI, hl, hk, F.keeps hkp, N.grown hkp, ⟨t1, t2, t3, t4⟩⟩
end
end
noncomputable def RowsAt (h : Heap) : Addr → List (Str × Int) → Prop
  | _, [] => True
  | a, r :: rs => (∃ t u, h.IsTuple a #[.str r.1 t, .int r.2 u]) ∧ RowsAt h (a + 1) rs
theorem RowsAt.get {h : Heap} {rs : List (Str × Int)} {a : Addr} {i : Nat} {r : Str × Int} (x : RowsAt h a rs) (e : rs[i]? = some r) : ∃ t u, h.IsTuple (a + i) #[.str r.1 t, .int r.2 u] := by
  induction rs generalizing a i with
  | nil => exact nil_get e
  | cons r' rs ih =>
    cases i with
    | zero => exact Option.some.inj e ▸ x.1
    | succ i => exact Nat.add_right_comm a i 1 ▸ ih (i := i) x.2 e
noncomputable def plainRows : List (Str × Int) := ((Str.ofString "car", 1) : Str × Int) :: ((Str.ofString "cdr", 1) : Str × Int) :: ((Str.ofString "cons", 2) : Str × Int) :: ((Str.ofString "nth", 2) : Str × Int) :: ((Str.ofString "nthcdr", 2) : Str × Int) :: ((Str.ofString "eq", 2) : Str × Int) :: ((Str.ofString "equal", 2) : Str × Int) :: ((Str.ofString "not", 1) : Str × Int) :: ((Str.ofString "null", 1) : Str × Int) :: ((Str.ofString "consp", 1) : Str × Int) :: ((Str.ofString "symbolp", 1) : Str × Int) :: ((Str.ofString "integerp", 1) : Str × Int) :: ((Str.ofString "stringp", 1) : Str × Int) :: ((Str.ofString "listp", 1) : Str × Int) :: ((Str.ofString "length", 1) : Str × Int) :: ((Str.ofString "memq", 2) : Str × Int) :: ((Str.ofString "assq", 2) : Str × Int) :: ((Str.ofString "nreverse", 1) : Str × Int) :: ((Str.ofString "setcar", 2) : Str × Int) :: ((Str.ofString "setcdr", 2) : Str × Int) :: ((Str.ofString "+", 2) : Str × Int) :: ((Str.ofString "-", 2) : Str × Int) :: ((Str.ofString "*", 2) : Str × Int) :: ((Str.ofString "1+", 1) : Str × Int) :: ((Str.ofString "1-", 1) : Str × Int) :: ((Str.ofString "=", 2) : Str × Int) :: ((Str.ofString "<", 2) : Str × Int) :: ((Str.ofString ">", 2) : Str × Int) :: ((Str.ofString "<=", 2) : Str × Int) :: ((Str.ofString ">=", 2) : Str × Int) :: ((Str.ofString "max", 2) : Str × Int) :: ((Str.ofString "min", 2) : Str × Int) :: ((Str.ofString "aref", 2) : Str × Int) :: ((Str.ofString "aset", 3) : Str × Int) :: ((Str.ofString "list", 1) : Str × Int) :: ((Str.ofString "list", 2) : Str × Int) :: ((Str.ofString "list", 3) : Str × Int) :: ((Str.ofString "concat", 2) : Str × Int) :: ((Str.ofString "substring", 3) : Str × Int) :: ((Str.ofString "symbol-value", 1) : Str × Int) :: ((Str.ofString "set", 2) : Str × Int) :: ((Str.ofString "point", 0) : Str × Int) :: ((Str.ofString "goto-char", 1) : Str × Int) :: ((Str.ofString "insert", 1) : Str × Int) :: ((Str.ofString "char-after", 1) : Str × Int) :: []
noncomputable def refsFrom : Addr → Nat → List Value
  | _, 0 => []
  | a, n + 1 => .ref a :: refsFrom (a + 1) n
theorem refsFrom_get (n : Nat) (a : Addr) (i : Nat) (v : Value) (h : (refsFrom a n)[i]? = some v) : v = .ref (a + i) := by
  induction n generalizing a i with
  | zero => exact nil_get (α := Value) h
  | succ n ih =>
    cases i with
    | zero => exact (Option.some.inj (show some (Value.ref a) = some v from h)).symm
    | succ i => exact Nat.add_right_comm a i 1 ▸ ih (a + 1) i h
section
variable {P : Params} {h : Heap}
theorem plain_tup (X : (K P).In h) : h.IsTuple 67 (refsFrom 22 45).toArray := by
  have e : h.get? 67 = some (o67 P) := X _ _ (by kernel_rfl)
  exact ⟨_, e, rfl, _, rfl⟩
theorem plain_rows (X : (K P).In h) : RowsAt h 22 plainRows := by
  unfold plainRows
  refine ⟨⟨_, _, o22 P, X _ _ (by kernel_rfl), rfl, _, rfl⟩, ?_⟩
  refine ⟨⟨_, _, o23 P, X _ _ (by kernel_rfl), rfl, _, rfl⟩, ?_⟩
  refine ⟨⟨_, _, o24 P, X _ _ (by kernel_rfl), rfl, _, rfl⟩, ?_⟩
  refine ⟨⟨_, _, o25 P, X _ _ (by kernel_rfl), rfl, _, rfl⟩, ?_⟩
  refine ⟨⟨_, _, o26 P, X _ _ (by kernel_rfl), rfl, _, rfl⟩, ?_⟩
  refine ⟨⟨_, _, o27 P, X _ _ (by kernel_rfl), rfl, _, rfl⟩, ?_⟩
  refine ⟨⟨_, _, o28 P, X _ _ (by kernel_rfl), rfl, _, rfl⟩, ?_⟩
  refine ⟨⟨_, _, o29 P, X _ _ (by kernel_rfl), rfl, _, rfl⟩, ?_⟩
  refine ⟨⟨_, _, o30 P, X _ _ (by kernel_rfl), rfl, _, rfl⟩, ?_⟩
  refine ⟨⟨_, _, o31 P, X _ _ (by kernel_rfl), rfl, _, rfl⟩, ?_⟩
  refine ⟨⟨_, _, o32 P, X _ _ (by kernel_rfl), rfl, _, rfl⟩, ?_⟩
  refine ⟨⟨_, _, o33 P, X _ _ (by kernel_rfl), rfl, _, rfl⟩, ?_⟩
  refine ⟨⟨_, _, o34 P, X _ _ (by kernel_rfl), rfl, _, rfl⟩, ?_⟩
  refine ⟨⟨_, _, o35 P, X _ _ (by kernel_rfl), rfl, _, rfl⟩, ?_⟩
  refine ⟨⟨_, _, o36 P, X _ _ (by kernel_rfl), rfl, _, rfl⟩, ?_⟩
  refine ⟨⟨_, _, o37 P, X _ _ (by kernel_rfl), rfl, _, rfl⟩, ?_⟩
  refine ⟨⟨_, _, o38 P, X _ _ (by kernel_rfl), rfl, _, rfl⟩, ?_⟩
  refine ⟨⟨_, _, o39 P, X _ _ (by kernel_rfl), rfl, _, rfl⟩, ?_⟩
  refine ⟨⟨_, _, o40 P, X _ _ (by kernel_rfl), rfl, _, rfl⟩, ?_⟩
  refine ⟨⟨_, _, o41 P, X _ _ (by kernel_rfl), rfl, _, rfl⟩, ?_⟩
  refine ⟨⟨_, _, o42 P, X _ _ (by kernel_rfl), rfl, _, rfl⟩, ?_⟩
  refine ⟨⟨_, _, o43 P, X _ _ (by kernel_rfl), rfl, _, rfl⟩, ?_⟩
  refine ⟨⟨_, _, o44 P, X _ _ (by kernel_rfl), rfl, _, rfl⟩, ?_⟩
  refine ⟨⟨_, _, o45 P, X _ _ (by kernel_rfl), rfl, _, rfl⟩, ?_⟩
  refine ⟨⟨_, _, o46 P, X _ _ (by kernel_rfl), rfl, _, rfl⟩, ?_⟩
  refine ⟨⟨_, _, o47 P, X _ _ (by kernel_rfl), rfl, _, rfl⟩, ?_⟩
  refine ⟨⟨_, _, o48 P, X _ _ (by kernel_rfl), rfl, _, rfl⟩, ?_⟩
  refine ⟨⟨_, _, o49 P, X _ _ (by kernel_rfl), rfl, _, rfl⟩, ?_⟩
  refine ⟨⟨_, _, o50 P, X _ _ (by kernel_rfl), rfl, _, rfl⟩, ?_⟩
  refine ⟨⟨_, _, o51 P, X _ _ (by kernel_rfl), rfl, _, rfl⟩, ?_⟩
  refine ⟨⟨_, _, o52 P, X _ _ (by kernel_rfl), rfl, _, rfl⟩, ?_⟩
  refine ⟨⟨_, _, o53 P, X _ _ (by kernel_rfl), rfl, _, rfl⟩, ?_⟩
  refine ⟨⟨_, _, o54 P, X _ _ (by kernel_rfl), rfl, _, rfl⟩, ?_⟩
  refine ⟨⟨_, _, o55 P, X _ _ (by kernel_rfl), rfl, _, rfl⟩, ?_⟩
  refine ⟨⟨_, _, o56 P, X _ _ (by kernel_rfl), rfl, _, rfl⟩, ?_⟩
  refine ⟨⟨_, _, o57 P, X _ _ (by kernel_rfl), rfl, _, rfl⟩, ?_⟩
  refine ⟨⟨_, _, o58 P, X _ _ (by kernel_rfl), rfl, _, rfl⟩, ?_⟩
  refine ⟨⟨_, _, o59 P, X _ _ (by kernel_rfl), rfl, _, rfl⟩, ?_⟩
  refine ⟨⟨_, _, o60 P, X _ _ (by kernel_rfl), rfl, _, rfl⟩, ?_⟩
  refine ⟨⟨_, _, o61 P, X _ _ (by kernel_rfl), rfl, _, rfl⟩, ?_⟩
  refine ⟨⟨_, _, o62 P, X _ _ (by kernel_rfl), rfl, _, rfl⟩, ?_⟩
  refine ⟨⟨_, _, o63 P, X _ _ (by kernel_rfl), rfl, _, rfl⟩, ?_⟩
  refine ⟨⟨_, _, o64 P, X _ _ (by kernel_rfl), rfl, _, rfl⟩, ?_⟩
  refine ⟨⟨_, _, o65 P, X _ _ (by kernel_rfl), rfl, _, rfl⟩, ?_⟩
  refine ⟨⟨_, _, o66 P, X _ _ (by kernel_rfl), rfl, _, rfl⟩, ?_⟩
  exact trivial
end
section
variable {prog : Program} {w : World} {A : Around} {E : Value → Shared → Prop} {s : Shared}
theorem reads_tup {h : Heap} {a : Addr} {x : Str} {p : Int} {t u : Tok} (ha : h.IsTuple a #[.str x t, .int p u]) : Reads h (.ref a) (.tuple [.str x, .int p]) ([] ++ ([] ++ [])) := by
  obtain ⟨o, ho, hc, n, hd⟩ := ha
  exact Reads.tuple ho hc hd (.cons (.str x t) (.cons (.int p u) .nil))
theorem eq_tup {a b : Addr} {x y : Str} {p q : Int} {t u t' u' : Tok} {Q : Value → Shared → Prop} (ha : s.heap.IsTuple a #[.str x t, .int p u]) (hb : s.heap.IsTuple b #[.str y t', .int q u']) (hu : A.units + 64 < cLine) (hx : PyData.strOk x = true) (hy : PyData.strOk y = true)
    (h : Q (.bool (decide (x = y ∧ p = q))) s) : wpAny (model prog w) A (compareOp .Eq (.ref a) (.ref b)) Q E s := by
  have sh : ∀ (x : Str) (p : Int), PyData.strOk x = true → SeqAt.shaped (.tuple [.str x, .int p]) = true := fun x p hx => by
    simp [SeqAt.shaped, PyData.canLay0, PyData.canLayAll0, PyData.depth, PyData.depthAll, hx]
  refine eq_dataH (reads_tup ha) (reads_tup hb) (sh x p hx) (sh y q hy) hu ?_
  have e : PyData.eqv (.tuple [.str x, .int p]) (.tuple [.str y, .int q]) = decide (x = y ∧ p = q) := by
    simp only [PyData.eqv, PyData.eqvAll, Bool.and_true, Bool.decide_and]
    rfl
  rw [e]; exact h
end
theorem news_less {h₀ h : Heap} {L : Addr} {news news' : List (Addr × Obj)} (N : News h₀ L h news) (k : ∀ p ∈ news', p ∈ news) : News h₀ L h news' := fun p hp => N p (k p hp)
theorem ne_obj {h : Heap} {a b : Addr} {o o' : Obj} (e : h.get? a = some o) (e' : h.get? b = some o') (n : o ≠ o') : a ≠ b := by rintro rfl; rw [e] at e'; exact n (Option.some.inj e')
theorem fresh_left {M : List Addr} {h h' : Heap} {news' : List (Addr × Obj)} {D : Addr} {o : Obj} (l : Left M h h' news') (hm : (D, o) ∈ news') (hM : ∀ a ∈ M, ∃ o', (a, o') ∈ news' ∧ o'.cls ≠ o.cls) : h.get? D = none := by
  rcases (l _ hm).2 with q | q
  · obtain ⟨o', h1, h2⟩ := hM D q
    have e1 := (l _ hm).1
    have e2 := (l _ h1).1
    dsimp only at e1 e2
    rw [e1] at e2
    exact absurd (by rw [Option.some.inj e2]) h2
  · exact q
section
variable {prog : Program} {w : World} {A : Around} {s : Shared} {h₀ g h h' : Heap} {news : List (Addr × Obj)} {L : Addr} {m : Str → Option Value}
    {p : Program} {lo : List Str} {mean : ExcName → Option Value} {mg mb : Str → Option Value}
theorem enterC {M : List Addr} {R : Result → Shared → Prop} {name qual : Str} {params : Arguments} {body : List Stmt} {scope : Scope} {dV kV doc pm cdv ct oc : Value} {an od : Option Addr} {osl : Array (Option Value)} {f : Addr} {args : Args} {binds : List (Str × Value)}
    (hM : ∀ p ∈ news, p.1 ∈ M) (G : Gd w p lo mean mg mb h₀ s) (N : Led h₀ s.heap news)
    (ho : (K w.params).lookup f = some ⟨oc, od, .func (fnOf name qual params body scope dV kV doc pm an cdv ct), osl⟩) (hcd : codeIn (K w.params) cdv qual = true) (hroom : A.depth < recursionLimit)
    (hbind : BindsTo s (fnOf name qual params body scope dV kV doc pm an cdv ct) args binds) (hkind : (binds.all fun y => scope.names.lookup y.1 == some .local || scope.names.lookup y.1 == some .cell) = true)
    (hnd : ((cellsFrom 0 scope.names []).map (·.1)).Nodup)
    (h : ∀ g L' h₁ tk₁ cells, Sub M s.heap g → Fr g L' h₁ (bindL (envOfC qual scope L' f cdv).kindOf binds fun _ => none) → News g L' h₁ (cells ++ news) →
      CellsAre (bindC (envOfC qual scope L' f cdv).kindOf binds fun _ => none) (cellsFrom (L' + 1) scope.names []) cells → (K w.params).In g → Top p lo mean mg mb g → (∀ p ∈ news, p.1 < L') → (∀ b o, g.get? b = some o → s.heap.get? b = some o) →
      (∀ b o, b ∉ news.map (·.1) → s.heap.get? b = some o → g.get? b = some o) →
      wpAny (model prog w) (A.deeper (envOfC qual scope L' f cdv)) (execs body (envOfC qual scope L' f cdv))
        (fun fl s' => EnterEnd M s (fun v s' => R (.ok (.ret v)) s') (match fl with | .ret v => v | _ => .none) s')
        (fun e s' => wpAny (model prog w) (A.deeper (envOfC qual scope L' f cdv)) (leaving (envOfC qual scope L' f cdv) e) (fun _ s'' => R (.error e) s'') (fun e' s'' => R (.error e') s'') s')
        { s with heap := h₁, toks := tk₁ })
    (hco : scope.isCoroutine = false := by rfl) (hgen : scope.isGenerator = false := by rfl) (hk : scope.kind = .function := by rfl) : codeAny (model prog w) A (.call (.ref f) args) R s := by
  obtain ⟨st, X, T⟩ := G
  have X₀ := X.keeps st
  refine codeAny_call_function hroom (X₀ _ _ ho) rfl hco hgen rfl (codeRec_of X₀ hcd) (hbind _ _ _ _ ?_)
  refine wpAny_newFunctionEnv_cells hk (kindsX hkind _) fun env' he s' x => ?_
  subst he
  refine ⟨(T.nolimit.keeps st).keeps x.toInCall.keep, codeAny_func ?_⟩
  obtain ⟨h₁, tk, rfl, _⟩ := x.done
  have hk₁ := x.toInCall.keep
  obtain ⟨cells, NC, Y⟩ := Cl.news (h₀ := s.heap) (Nat.le_refl _) fun n c hm => ⟨x.cell n c (lookup_of_mem_nodup (cellsFrom_names scope.names 0 (s.heap.objs.size + 1) [] [] rfl ▸ hnd) hm), x.above n c hm⟩
  have nm : ∀ b o, h₀.get? b = some o → b ∉ news.map (·.1) := fun b o e q => by
    walk_at "9W"
    rw [(N p hp).2] at e; cases e
  have stg : ∀ b o, h₀.get? b = some o → (hideAll s.heap (news.map (·.1))).get? b = some o := fun b o e => hideAll_get _ (st b o e) (nm b o e)
  have sub : Sub M s.heap (hideAll s.heap (news.map (·.1))) := ⟨fun b o hb e => hideAll_get _ e fun q => by
    walk_at "9W"
    exact hb (hM p hp), fun b o e => of_hideAll _ e⟩
  refine wpAny_mono (h (hideAll s.heap (news.map (·.1))) s.heap.objs.size h₁ tk cells sub ⟨x.toInCall.ns, fun b o e => hk₁ b o (of_hideAll _ e), Nat.le_of_eq (hideAll_size _ _)⟩
    (fun p hp => ?_) Y (X.keeps stg) (T.keeps stg) (fun p hp => Heap.lt_size (N p hp).1) (fun b o e => of_hideAll _ e) (fun b o hb e => hideAll_get _ e hb)) (fun fl s' hl => ?_) fun _ _ y => y
  · rcases List.mem_append.mp hp with hp | hp
    · refine ⟨(NC p hp).1, (NC p hp).2.1, ?_⟩
      cases q : (hideAll s.heap (news.map (·.1))).get? p.1 with
      | none => rfl
      | some o => have := of_hideAll _ q; rw [(NC p hp).2.2] at this; cases this
    · exact ⟨hk₁ _ _ (N p hp).1, Nat.ne_of_lt (Heap.lt_size (N p hp).1), hideAll_none _ (List.mem_map_of_mem hp)⟩
  · obtain ⟨g', L', m', news', S', F', N', k⟩ := hl
    refine k (fun b o hb e => F'.keep b o (S'.1 b o hb e)) fun p hp => ⟨(N' p hp).1, ?_⟩
    by_cases q : p.1 ∈ M
    · exact .inl q
    · right
      cases z : s.heap.get? p.1 with
      | none => rfl
      | some o => have := (N' p hp).2.2; rw [S'.1 _ _ q z] at this; cases this
end
section
variable {prog : Program} {w : World} {A : Around} {E : Value → Shared → Prop} {s : Shared}
theorem item_base {value slice : Expr} {l : Addr} {vals : List Value} {k : Nat} {u : Tok} {x : Value} {Q : Value → Shared → Prop} (hl : s.heap.IsList l vals.toArray)
    (hx : vals[k]? = some x) (hlen : vals.length ≤ 1000) (hs : subscripted slice false (.ref l) (.int (k : Int) u) = operate [.ref l, .int (k : Int) u] (getItem (.ref l) (.int (k : Int) u))) (h : Q x s) (hg : ∀ r, letTemporaryGo value (.ref l) r = pure ()) :
    wpAny (model prog w) A (subscriptTail value slice (.ref l) (.int (k : Int) u)) Q E s :=
  item_list hl (Int.natCast_nonneg k) (by have := (List.getElem?_eq_some_iff.mp hx).1; walk_at "om") (by simpa using hx) h hs hg
end
noncomputable abbrev symD (P : Params) (t1 t2 tn ts : Tok) (num : Int) (nm : Str) : Obj := dictOf [DictEntry.mk (PyData.keyHash P "number") (.str "number" t1) (.int num tn), DictEntry.mk (PyData.keyHash P "name") (.str "name" t2) (.str nm ts)] 2
noncomputable abbrev subrD (P : Params) (t1 t2 t3 t4 t5 tn ts tl tm : Tok) (num : Int) (nm : Str) (dd : Addr) : Obj := dictOf [DictEntry.mk (PyData.keyHash P "number") (.str "number" t1) (.int num tn), DictEntry.mk (PyData.keyHash P "name") (.str "name" t2) (.str nm ts), DictEntry.mk (PyData.keyHash P "least") (.str "least" t3) (.int 0 tl), DictEntry.mk (PyData.keyHash P "most") (.str "most" t4) (.int (-1) tm), DictEntry.mk (PyData.keyHash P "deed") (.str "deed" t5) (.ref dd)] 5
noncomputable abbrev worldD (P : Params) (t1 t2 t3 t4 t5 t6 t7 tz : Tok) (ob ce va ba : Addr) : Obj := dictOf [DictEntry.mk (PyData.keyHash P "obarray") (.str "obarray" t1) (.ref ob), DictEntry.mk (PyData.keyHash P "cells") (.str "cells" t2) (.ref ce), DictEntry.mk (PyData.keyHash P "variables") (.str "variables" t3) (.ref va), DictEntry.mk (PyData.keyHash P "bare") (.str "bare" t4) (.ref ba), DictEntry.mk (PyData.keyHash P "current") (.str "current" t5) (.none), DictEntry.mk (PyData.keyHash P "machine") (.str "machine" t6) (.none), DictEntry.mk (PyData.keyHash P "last_marker") (.str "last_marker" t7) (.int 0 tz)] 7
noncomputable abbrev cellsD (P : Params) (t1 t2 : Tok) (fd pd : Addr) : Obj := dictOf [DictEntry.mk (PyData.keyHash P "functions") (.str "functions" t1) (.ref fd), DictEntry.mk (PyData.keyHash P "plists") (.str "plists" t2) (.ref pd)] 2
noncomputable abbrev obD (P : Params) (t1 t2 : Tok) (rl nd : Addr) : Obj := dictOf [DictEntry.mk (PyData.keyHash P "rows") (.str "rows" t1) (.ref rl), DictEntry.mk (PyData.keyHash P "names") (.str "names" t2) (.ref nd)] 2
theorem news_new {h₀ h h' : Heap} {L x : Addr} {m : Str → Option Value} {news : List (Addr × Obj)} {o : Obj} (F : Fr h₀ L h m) (n : h.get? x = none) (N : News h₀ L h' news) (e : h'.get? x = some o) : News h₀ L h' ((x, o) :: news) := fun p hp => by
  walk_at "9x"
  · refine ⟨e, ?_, ?_⟩
    · rintro rfl
      obtain ⟨_, _, _, q, _⟩ := F.ns
      rw [n] at q; cases q
    · cases q : h₀.get? x with
      | none => rfl
      | some o => have := F.keep _ _ q; rw [n] at this; cases this
  · exact N p hp
theorem off_new {h₀ h : Heap} {L x : Addr} : ∀ {news : List (Addr × Obj)}, News h₀ L h news → h.get? x = none → LCg.Off1 x news
  | [], _, _ => trivial
  | p :: r, N, e => ⟨fun q => (by have := (N p (.head _)).1; rw [q, e] at this; cases this), off_new (news := r) (fun p hp => N p (.tail _ hp)) e⟩
section
variable {prog : Program} {w : World} {A : Around} {s : Shared} {R : Result → Shared → Prop}
theorem new_of {C : Addr} {pos : List Value} {fI : Addr} (X : (K w.params).In s.heap) (hm : makesIn (K w.params) C = true)
    (hi : findIn (K w.params) (.ref C) "__init__" = some (some (.ref fI))) (hf : isFn (K w.params) (.ref fI) = true)
    (h : ∀ x d h', Kept [] s.heap h' → h'.get? x = some (instObj C d) → h'.get? d = some (dictOf [] 0) → s.heap.get? x = none → s.heap.get? d = none → d < x →
      codeAny (model prog w) (A.under (.builtin "type.__call__" ⟨.ref C :: pos, []⟩)) (.call (.ref fI) ⟨.ref x :: pos, []⟩) (InitBack x R) { s with heap := h' }) :
    codeAny (model prog w) A (.call (.ref C) ⟨pos, []⟩) R s := by
  obtain ⟨hh, g, d, t, os⟩ := s
  refine make_core (makes_of X hm) (looks_findIn X hi) (fun self => bind_fn X self (beq_iff_eq.mp hf)) (.inl rfl) ?_
  have hz : (hh.push emptyDict).objs.size = hh.objs.size + 1 := Heap.size_push ..
  have e1 := Heap.get?_push_size (hh.push emptyDict) (o := instObj C hh.objs.size) rfl
  rw [hz] at e1
  refine h (hh.objs.size + 1) hh.objs.size _ (fun b o _ e => Heap.get?_push_of_some _ (Heap.get?_push_of_some _ e)) e1 (Heap.get?_push_of_some _ (Heap.get?_push_size _ rfl)) (Heap.get?_none_of_le (Nat.le_succ _)) (Heap.get?_none_of_le (Nat.le_refl _)) (Nat.lt_succ_self _)
end
section
variable {prog : Program} {w : World} {A : Around} {E : Value → Shared → Prop} {s : Shared} {h₀ : Heap} {L : Addr} {m : Str → Option Value} {news : List (Addr × Obj)} {g : Obj → List (Addr × Obj)}
theorem app_upd {l : Addr} {x : Value} {items : List Value} {n : Nat} {Q : Value → Shared → Prop} (F : Fr h₀ L s.heap m) (N : News h₀ L s.heap news) (U : UpdF l (listOf items.toArray n) news g) (hsz : items.length ≤ 1000)
    (h : ∀ h', Fr h₀ L h' m → News h₀ L h' (g (listOf (items ++ [x]).toArray (n + 1))) → Q .none { s with heap := h' }) : wpAny (model prog w) A (call (.builtin "list.append") [.ref l, x]) Q E s := by
  obtain ⟨pre, post, rfl, hg, a, b⟩ := U.split
  have hm := N (l, listOf items.toArray n) (List.mem_append_right _ (.head _))
  refine append_at (hsz := by rw [List.size_toArray, sizeLine_eq]; walk_at "om") hm.1 fun h' hs' hD => ?_
  rw [List.push_toArray] at hD
  refine h h' ?_ (hg _ ▸ N.setIn a b hs' hD)
  exact F.change hs' hm.2.1 hm.2.2
end
section
variable {g h h' : Heap} {L a b : Addr} {m : Str → Option Value} {news : List (Addr × Obj)} {g1 g2 : Obj → List (Addr × Obj)} {oa oa' ob ob' : Obj}
theorem fr_keptM {M : List Addr} (F : Fr g L h m) (k : Kept M h h') (hL : L ∉ M) (hM : ∀ a ∈ M, g.get? a = none) : Fr g L h' m := by
  obtain ⟨oL, es, ep, eL, r⟩ := F.ns
  exact ⟨⟨oL, es, ep, k _ _ hL eL, r⟩, fun b o e => k b o (fun q => by rw [hM b q] at e; cases e) (F.keep b o e), F.above⟩
theorem UpdF.mem (U : UpdF a oa news g1) : (a, oa) ∈ news := by
  obtain ⟨pre, post, rfl, -, -, -⟩ := U.split
  exact List.mem_append_right _ (.head _)
theorem UpdF.of_mem (U : UpdF a oa news g1) {x : Obj} {p : Addr × Obj} (hp : p ∈ g1 x) : p = (a, x) ∨ (p ∈ news ∧ p.1 ≠ a) := by
  obtain ⟨pre, post, rfl, e, c1, c2⟩ := U.split
  rw [e] at hp
  rcases List.mem_append.mp hp with q | q
  · exact .inr ⟨List.mem_append_left _ q, c1 _ q⟩
  · walk_at "99"
    · exact .inl q
    · exact .inr ⟨List.mem_append_right _ (.tail _ q), c2 _ q⟩
theorem after1 (F : Fr g L h m) (N : News g L h news) (U : UpdF a oa news g1) (k : Kept [a] h h') (e : h'.get? a = some oa') : Fr g L h' m ∧ News g L h' (g1 oa') := by
  have A := N _ (UpdF.mem U)
  refine ⟨fr_keptM F k (fun q => A.2.1 (List.mem_singleton.mp q).symm) (fun b hb => List.mem_singleton.mp hb ▸ A.2.2), fun p hp => ?_⟩
  rcases UpdF.of_mem U hp with rfl | ⟨q, n⟩
  · exact ⟨e, A.2⟩
  · exact ⟨k _ _ (fun z => n (List.mem_singleton.mp z)) (N p q).1, (N p q).2⟩
theorem after2 (F : Fr g L h m) (N : News g L h news) (U : UpdF a oa news g1) (V : UpdF b ob (g1 oa') g2) (k : Kept [a, b] h h') (e : h'.get? a = some oa') (e' : h'.get? b = some ob') (hab : a ≠ b) : Fr g L h' m ∧ News g L h' (g2 ob') := by
  have A := N _ (UpdF.mem U)
  have B : h.get? b = some ob ∧ b ≠ L ∧ g.get? b = none := by
    rcases UpdF.of_mem U (UpdF.mem V) with q | ⟨q, n⟩
    · exact absurd (congrArg Prod.fst q).symm hab
    · exact N _ q
  refine ⟨fr_keptM F k (fun q => ?_) (fun c hc => ?_), fun p hp => ?_⟩
  · walk_at "99"
    · exact A.2.1 q.symm
    · exact B.2.1 (List.mem_singleton.mp q).symm
  · rcases List.mem_cons.mp hc with rfl | q
    · exact A.2.2
    · exact List.mem_singleton.mp q ▸ B.2.2
  · rcases UpdF.of_mem V hp with rfl | ⟨q, n⟩
    · exact ⟨e', B.2⟩
    · rcases UpdF.of_mem U q with rfl | ⟨q, n'⟩
      · exact ⟨e, A.2⟩
      · exact ⟨k _ _ (fun z => by
          rcases List.mem_cons.mp z with z | z
          · exact n' z
          · exact n (List.mem_singleton.mp z)) (N p q).1, (N p q).2⟩
end
section
variable {prog : Program} {w : World} {A₀ : Around} {E : Value → Shared → Prop} {s' : Shared} {g G : Heap} {outer : List Env} {L a e : Addr} {m : Str → Option Value} {name : Str} {scope : Scope} {cd : Value}
  {b₀ : Stmt} {suite : List Stmt} {pos np : Pos} {rest : List ExceptHandler} {Q : Flow → Shared → Prop}
  {p : Program} {loose : List Str} {mean : ExcName → Option Value} {mg mb : Str → Option Value}
theorem caught_my (R : Flew G (envOf name scope L a cd :: outer) e s'.heap) (F : Fr g L G m) (hg : ∀ b ∈ frs outer, g.get? b = none) (hfr : A₀.frames = some outer) (X : (K w.params).In g) (T : Top p loose mean mg mb g)
    (k : ∀ h', Fr g L h' m → G.UpToSlots h' → Kept (L :: frs outer) G h' →
      wpAny (model prog w) ((A₀.deeper (envOf name scope L a cd)).mark (some (.ref e))) (execs (b₀ :: suite) (envOf name scope L a cd)) Q E { s' with heap := h' })
    (ex : nsIn (K w.params) mainGlobals (Str.ofString "LispSignal") = some (some (.ref 98))) (q : ktsIn (K w.params) 98 "BaseException" = true)
    (hk : scope.kind = .function := by rfl) (hx : (envOf name scope L a cd).kindOf (Str.ofString "LispSignal") = some .globalImplicit := by rfl)
    (hE : PassesOwnAt (model prog w) ((A₀.deeper (envOf name scope L a cd)).mark (some (.ref e))) (A₀.deeper (envOf name scope L a cd)) (envOf name scope L a cd) E := by passes_own) :
    wpAny (model prog w) (A₀.deeper (envOf name scope L a cd)) (noteFrame (.ref e) (envOf name scope L a cd))
      (fun _ s₂ => wpAny (model prog w) (A₀.deeper (envOf name scope L a cd)) (setFlight (.ref e) none) (fun _ s₃ =>
        wpAny (model prog w) (A₀.deeper (envOf name scope L a cd)) (handleBy (.ref e) (envOf name scope L a cd) (.ExceptHandler (some (.Name (Str.ofString "LispSignal") np)) none (b₀ :: suite) pos :: rest)) Q E s₃) E s₂) E s' := by
  obtain ⟨a0, hfl, hsm⟩ := R
  have ground : ∀ h₅ : Heap, (hideAll G (frs (envOf name scope L a cd :: outer))).StaysIn h₅ → G.UpToSlots h₅ → Fr g L h₅ m ∧ Kept (L :: frs outer) G h₅ := fun h₅ hs hu => by
    have kp : Kept (L :: frs outer) G h₅ := fun b o hb e => hs b o (hideAll_get _ e hb)
    refine ⟨⟨hu.ns F.ns, fun b o e => kp b o (fun z => ?_) (F.keep b o e), F.above⟩, kp⟩
    rcases List.mem_cons.mp z with rfl | z
    · exact absurd (Nat.lt_of_lt_of_le (Heap.lt_size e) F.above) (Nat.lt_irrefl _)
    · rw [hg b z] at e; cases e
  refine wpAny_looks_onW (Around.frames_deeper hfr) rfl hfl fun h₄ hheld₄ hsm₄ => ?_
  refine wpAny_landsW hheld₄ fun h₅ hheld hsm₅' => ?_
  have hsm₅ := hsm₄.trans hsm₅'
  obtain ⟨F₅, -⟩ := ground h₅ hheld.1 (hsm.trans hsm₅)
  have P₅ : TopRead p loose mg mb g := topRead_of T
  obtain ⟨ob, hob, hobc⟩ := hheld.there
  obtain ⟨nm, q', N, bs, bm, hdct, sn, sub, ab, col, dd, k0, k1, k2, k3, k5, newId, hC, hbase, hbT⟩ := kts_cls X q
  have hC₅ := F₅.keep _ _ hC
  refine wpAny_handleBy_cons (codeAny_handlers_test (name_K F₅ X P₅ ex ?_ hk hx (by decide))) (by intro q; cases q)
  refine wpAny_excMatches_sub_self hC₅ hob hobc hbase (codeAny_handlers_suite ?_)
  refine lands_againW hheld fun h₆ hfl₆ hsm₆ => ?_
  obtain ⟨F₆, K₆⟩ := ground h₆ hfl₆.1 ((hsm.trans hsm₅).trans hsm₆)
  exact wpAny_passesOwnAt hE (k h₆ F₆ ((hsm.trans hsm₅).trans hsm₆) K₆)
end
inductive Op where
  | sub | add | mul | lt | le | eq | max | min | gt | eqv | cons | inc | dec | intp | consp | not | car
  deriving DecidableEq
namespace Op
noncomputable def idx : Op → Nat
  | sub => 21 | add => 20 | mul => 22 | lt => 26 | le => 28 | eq => 25 | max => 30 | min => 31 | gt => 27 | eqv => 5 | cons => 2 | inc => 23 | dec => 24 | intp => 11 | consp => 9 | not => 7 | car => 0
noncomputable def name : Op → Str
  | sub => Str.ofString "-" | add => Str.ofString "+" | mul => Str.ofString "*" | lt => Str.ofString "<" | le => Str.ofString "<=" | eq => Str.ofString "=" | max => Str.ofString "max" | min => Str.ofString "min" | gt => Str.ofString ">"
  | eqv => Str.ofString "eq" | cons => Str.ofString "cons" | inc => Str.ofString "1+" | dec => Str.ofString "1-" | intp => Str.ofString "integerp" | consp => Str.ofString "consp" | not => Str.ofString "not" | car => Str.ofString "car"
noncomputable def many : Op → Nat
  | inc | dec | intp | consp | not | car => 1
  | _ => 2
noncomputable def pure : Op → Bool
  | cons | car => false
  | _ => true
theorem row (o : Op) : plainRows[o.idx]? = some (o.name, (o.many : Int)) := by cases o <;> rfl
theorem many_cases (o : Op) : o.many = 1 ∨ o.many = 2 := by cases o <;> first | exact .inl rfl | exact .inr rfl
end Op
noncomputable def told2 (o : Op) (i j : Int) : Option At := match o with
  | .add => some (.int (i + j))
  | .sub => some (.int (i - j))
  | .mul => some (.int (i * j))
  | .lt => some (if i < j then .t else .nil)
  | .le => some (if i ≤ j then .t else .nil)
  | .eq => some (if i = j then .t else .nil)
  | .max => some (.int (if j > i then j else i))
  | .min => some (.int (if j < i then j else i))
  | _ => none
noncomputable def At.int? : At → Option Int
  | .int i => some i
  | _ => none
theorem noS {α : Type} {v : α} {P : Prop} (h : (none : Option α) = some v) : P := nomatch h
theorem ffT {P : Prop} (h : false = true) : P := nomatch h
noncomputable def told1 (o : Op) (a : At) : Option At := match o with
  | .inc => a.int?.map fun i => .int (i + 1)
  | .dec => a.int?.map fun i => .int (i - 1)
  | .intp => some (if a.isInt then .t else .nil)
  | _ => none
noncomputable def told (o : Op) : List At → Option At
  | [a] => told1 o a
  | [a, b] => a.int?.bind fun i => b.int?.bind fun j => told2 o i j
  | _ => none
noncomputable def Op.deed : Op → Option Addr
  | .add => some 341 | .sub => some 348 | .mul => some 355 | .inc => some 362 | .dec => some 369 | .lt => some 381 | .le => some 388 | .eq => some 395 | .max => some 400 | .min => some 405 | .intp => some 412
  | _ => none
inductive Ln where
  | c (k : Nat)
  | v (n : Nat)
  | p (o : Op)
noncomputable def Ln.word : Ln → Str
  | .c _ => Str.ofString "const"
  | .v _ => Str.ofString "varref"
  | .p _ => Str.ofString "plain"
noncomputable def Ln.opd : Ln → Nat
  | .c k => k
  | .v k => k
  | .p o => o.idx
noncomputable def indexOf (cs : List At) (y : At) : Nat × List At := match posOf y cs with
  | some k => (k, cs)
  | none => (cs.length, cs ++ [y])
noncomputable def Ln.con (cs : List At) : Ln → Option At
  | .c k => cs[k]?
  | _ => none
noncomputable def behind (lns : List Ln) (cs : List At) : Nat → Option (List At)
  | 1 => match lns.drop (lns.length - 1) with
    | [x] => (x.con cs).map fun a => [a]
    | _ => none
  | 2 => match lns.drop (lns.length - 2) with
    | [x, y] => (x.con cs).bind fun a => (y.con cs).map fun b => [a, b]
    | _ => none
  | _ => none
noncomputable def step (st : List Ln × List At) (ln : Ln) : List Ln × List At := match ln with
  | .p o => if o.pure then match (behind st.1 st.2 o.many).bind (told o) with
      | some v => (st.1.take (st.1.length - o.many) ++ [.c (indexOf st.2 v).1], (indexOf st.2 v).2)
      | none => (st.1 ++ [.p o], st.2)
    else (st.1 ++ [.p o], st.2)
  | ln => (st.1 ++ [ln], st.2)
noncomputable def foldL (lns : List Ln) (cs : List At) : List Ln × List At := lns.foldl step ([], cs)
inductive Tr where
  | at (a : At)
  | var (n : Nat)
  | f1 (o : Op) (x : Tr)
  | f2 (o : Op) (x y : Tr)
noncomputable def Tr.isInt : Tr → Bool
  | .at (.int _) => true
  | _ => false
noncomputable def Tr.int? : Tr → Option Int
  | .at a => a.int?
  | _ => none
noncomputable def called2 (o : Op) (x y : Tr) : Option Tr := match o with
  | .eqv => some (.f2 .eqv x y)
  | .cons => some (.f2 .cons x y)
  | .gt => x.int?.bind fun i => y.int?.map fun j => .at (if i > j then .t else .nil)
  | o => x.int?.bind fun i => y.int?.bind fun j => (told2 o i j).map .at
noncomputable def called1 (o : Op) (x : Tr) : Option Tr := match o with
  | .consp => some (.f1 .consp x)
  | .not => some (.f1 .not x)
  | .car => some (.f1 .car x)
  | .intp => some (.at (if x.isInt then .t else .nil))
  | o => x.int?.bind fun i => (told1 o (.int i)).map .at
noncomputable def called (o : Op) : List Tr → Option Tr
  | [x] => called1 o x
  | [x, y] => called2 o x y
  | _ => none
inductive Res where
  | fails (o : Op) (args : List Tr)
  | leaves (st : List Tr)
noncomputable def run : List Ln → List At → List Tr → Option Res
  | [], _, st => some (.leaves st)
  | .c k :: r, cs, st => (cs[k]?).bind fun a => run r cs (st ++ [.at a])
  | .v n :: r, cs, st => run r cs (st ++ [.var n])
  | .p o :: r, cs, st => if o.many ≤ st.length then match called o (st.drop (st.length - o.many)) with
      | some x => run r cs (st.take (st.length - o.many) ++ [x])
      | none => some (.fails o (st.drop (st.length - o.many)))
    else none
noncomputable def leftAt (lns : List Ln) (cs : List At) (o : Op) (place : Nat) : Bool :=
  decide (o.many ≤ place) && (match behind (lns.take place) cs o.many with
    | some as => o.pure && decide (o ≠ .gt ∧ o ≠ .consp ∧ o ≠ .not ∧ o ≠ .eqv) && (called o (as.map .at)).isSome
    | none => false)
noncomputable def isLeft (lns : List Ln) (cs : List At) : Bool := (List.range lns.length).any fun i => match lns[i]? with
  | some (.p o) => leftAt lns cs o i
  | _ => false
def TokNew (tk tk' : Nat) (vals : List Value) (v : Value) : Prop := v ∈ vals ∨ (∀ i t, v ≠ .int i t) ∨ ∃ i t, v = .int i t ∧ tk ≤ t ∧ t < tk'
def Deed (w : World) (dd : Addr) (vs : List Value) (res : Option At) : Prop :=
  ∀ (prog : Program) (dp un : Nat) (gd : Option (List Code)) (outer : List Env) (s : Shared) (h₀ : Heap) (p : Program) (lo : List Str) (mean : ExcName → Option Value) (mg mb : Str → Option Value) (Q E : Value → Shared → Prop) (wv : Value) (al : Addr) (n : Nat),
    Gd w p lo mean mg mb h₀ s → dp + 12 < recursionLimit → FF s.heap outer → s.heap.get? al = some (listOf vs.toArray n) →
    (∀ v a h' tk', res = some a → AtV v a → TokNew s.toks tk' vs v → Kept [] s.heap h' → s.toks ≤ tk' → Q v { s with heap := h', toks := tk' }) →
    (∀ e h' tk', res = none → Flew s.heap outer e h' → s.toks ≤ tk' → E (.ref e) { s with heap := h', toks := tk' }) →
    wpAny (model prog w) (At0 dp un (some outer) gd) (call (.ref dd) [wv, .ref al]) Q E s
theorem At.int_of {a : At} {i : Int} (h : a.int? = some i) : a = .int i := by
  cases a with
  | int k => exact congrArg At.int (Option.some.inj h)
  | nil => cases h
  | t => cases h
theorem Tr.int_eq {x : Tr} {i : Int} (h : x.int? = some i) : x = .at (.int i) := by
  cases x with
  | «at» a => exact congrArg Tr.at (At.int_of h)
  | var n => cases h
  | f1 o x => cases h
  | f2 o x y => cases h
theorem told_cases {o : Op} {as : List At} {v : At} (h : told o as = some v) : (∃ a, as = [a] ∧ told1 o a = some v) ∨ ∃ i j, as = [.int i, .int j] ∧ told2 o i j = some v := by
  rcases as with _ | ⟨a, _ | ⟨b, _ | ⟨_, _⟩⟩⟩
  · exact noS h
  · exact .inl ⟨a, rfl, h⟩
  · walk_at "9ar"
    obtain ⟨j, hj, h⟩ := Option.bind_eq_some_iff.mp h
    exact .inr ⟨i, j, by rw [At.int_of hi, At.int_of hj], h⟩
  · exact noS h
theorem called2_cases {o : Op} {x y z : Tr} (h : called2 o x y = some z) : (o = .eqv ∨ o = .cons) ∨ ∃ i j, x = .at (.int i) ∧ y = .at (.int j) := by
  revert h
  revert o x y z
  walk_at "9f"
  intro o x y z
  clear_value o x y z
  walk_at "in"
  by_cases h1 : o = .eqv
  · exact .inl (.inl h1)
  by_cases h2 : o = .cons
  · exact .inl (.inr h2)
  cases hx : x.int? with
  | none => cases o <;> first | exact absurd rfl h1 | exact absurd rfl h2 | (unfold called2 at h; rw [hx] at h; exact noS h)
  | some i =>
    cases hy : y.int? with
    | none => cases o <;> first | exact absurd rfl h1 | exact absurd rfl h2 | (unfold called2 at h; rw [hx, hy] at h; exact noS h)
    | some j => exact .inr ⟨i, j, Tr.int_eq hx, Tr.int_eq hy⟩
def Ext (cs cs' : List At) : Prop := ∀ (k : Nat) (a : At), cs[k]? = some a → cs'[k]? = some a
theorem Ext.refl {cs : List At} : Ext cs cs := fun _ _ h => h
theorem Ext.trans {a b c : List At} (x : Ext a b) (y : Ext b c) : Ext a c := fun k v h => y k v (x k v h)
theorem Ext.app {cs r : List At} : Ext cs (cs ++ r) := fun k a h => by
  rw [List.getElem?_append_left (List.getElem?_eq_some_iff.mp h).1]; exact h
noncomputable def Ln.ok (cs : List At) : Ln → Prop
  | .c k => k < cs.length
  | _ => True
theorem Ext.len {cs cs' : List At} (x : Ext cs cs') : cs.length ≤ cs'.length := by
  rcases Nat.lt_or_ge cs'.length cs.length with h | h
  · obtain ⟨a, ha⟩ : ∃ a, cs[cs'.length]? = some a := ⟨_, List.getElem?_eq_getElem h⟩
    have := (List.getElem?_eq_some_iff.mp (x _ _ ha)).1
    walk_at "om"
  · exact h
theorem Ln.ok_ext {cs cs' : List At} (x : Ext cs cs') : ∀ {l : Ln}, l.ok cs → l.ok cs'
  | .c k, h => Nat.lt_of_lt_of_le h x.len
  | .v _, _ => trivial
  | .p _, _ => trivial
theorem Ln.con_ext {cs cs' : List At} (x : Ext cs cs') : ∀ {l : Ln}, l.ok cs → l.con cs' = l.con cs
  | .c k, h => by
    show cs'[k]? = cs[k]?
    rw [List.getElem?_eq_getElem h]
    exact x k _ (List.getElem?_eq_getElem h)
  | .v _, _ => rfl
  | .p _, _ => rfl
theorem run_zc {k : Nat} {r : List Ln} {cs : List At} {st : List Tr} : run (.c k :: r) cs st = (cs[k]?).bind fun a => run r cs (st ++ [.at a]) := rfl
theorem run_zv {n : Nat} {r : List Ln} {cs : List At} {st : List Tr} : run (.v n :: r) cs st = run r cs (st ++ [.var n]) := rfl
theorem run_z0 {o : Op} {r : List Ln} {cs : List At} {st : List Tr} (hm : ¬ o.many ≤ st.length) : run (.p o :: r) cs st = none := if_neg hm
theorem run_z1 {o : Op} {r : List Ln} {cs : List At} {st : List Tr} (hm : o.many ≤ st.length) (e : called o (st.drop (st.length - o.many)) = none) : run (.p o :: r) cs st = some (.fails o (st.drop (st.length - o.many))) := (if_pos hm).trans (by rw [e])
theorem run_z2 {o : Op} {r : List Ln} {cs : List At} {st : List Tr} {x : Tr} (hm : o.many ≤ st.length) (e : called o (st.drop (st.length - o.many)) = some x) : run (.p o :: r) cs st = run r cs (st.take (st.length - o.many) ++ [x]) := (if_pos hm).trans (by rw [e])
theorem run_ext {cs cs' : List At} (x : Ext cs cs') {lns : List Ln} {st : List Tr} (h : ∀ l ∈ lns, l.ok cs) : run lns cs' st = run lns cs st := by
  induction lns generalizing st with
  | nil => rfl
  | cons l r ih =>
    have h' : ∀ l ∈ r, l.ok cs := fun l hl => h l (.tail _ hl)
    cases l with
    | c k =>
      rw [run_zc, run_zc, show cs'[k]? = cs[k]? from Ln.con_ext x (l := .c k) (h _ (.head _))]
      exact congrArg _ (funext fun a => ih h')
    | v n => exact ih h'
    | p o =>
      by_cases hm : o.many ≤ st.length
      · cases e : called o (st.drop (st.length - o.many)) with
        | none => rw [run_z1 hm e, run_z1 hm e]
        | some y => rw [run_z2 hm e, run_z2 hm e]; exact ih h'
      · rw [run_z0 hm, run_z0 hm]
noncomputable def andThen (r : Option Res) (f : List Tr → Option Res) : Option Res := match r with
  | some (.leaves st) => f st
  | r => r
theorem run_app {cs : List At} {a b : List Ln} {st : List Tr} : run (a ++ b) cs st = andThen (run a cs st) fun st => run b cs st := by
  induction a generalizing st with
  | nil => rfl
  | cons l r ih =>
    rw [List.cons_append]
    cases l with
    | c k =>
      rw [run_zc, run_zc]
      cases cs[k]? with
      | none => rfl
      | some a => exact ih
    | v n => exact ih
    | p o =>
      by_cases hm : o.many ≤ st.length
      · cases e : called o (st.drop (st.length - o.many)) with
        | none => rw [run_z1 hm e, run_z1 hm e]; rfl
        | some y => rw [run_z2 hm e, run_z2 hm e]; exact ih
      · rw [run_z0 hm, run_z0 hm]; rfl
theorem indexOf_spec (cs : List At) (y : At) : Ext cs (indexOf cs y).2 ∧ (indexOf cs y).2[(indexOf cs y).1]? = some y := by
  unfold indexOf
  cases h : posOf y cs with
  | none => exact ⟨Ext.app, by simp⟩
  | some k => exact ⟨Ext.refl, posOf_get h⟩
theorem indexOf_mem {cs : List At} {y a : At} (h : a ∈ (indexOf cs y).2) : a ∈ cs ∨ a = y := by
  unfold indexOf at h
  cases e : posOf y cs with
  | none => rw [e] at h; simpa using h
  | some k => rw [e] at h; exact .inl h
theorem drop_one {α : Type} {l : List α} {x : α} (h : l.drop (l.length - 1) = [x]) : l = l.take (l.length - 1) ++ [x] := by
  conv => lhs; rw [← List.take_append_drop (l.length - 1) l]
  rw [h]
theorem drop_two {α : Type} {l : List α} {x y : α} (h : l.drop (l.length - 2) = [x, y]) : l = l.take (l.length - 2) ++ [x, y] := by
  conv => lhs; rw [← List.take_append_drop (l.length - 2) l]
  rw [h]
theorem behind_some {f : List Ln} {cs : List At} {m : Nat} {as : List At} (h : behind f cs m = some as) :
    (∃ k a, m = 1 ∧ f = f.take (f.length - 1) ++ [.c k] ∧ cs[k]? = some a ∧ as = [a]) ∨ ∃ k j a b, m = 2 ∧ f = f.take (f.length - 2) ++ [.c k, .c j] ∧ cs[k]? = some a ∧ cs[j]? = some b ∧ as = [a, b] := by
  revert h
  revert f cs m as
  walk_at "9f"
  intro f cs m as
  clear_value f cs m as
  walk_at "in"
  unfold behind at h
  split at h
  · split at h
    · rename_i x hx
      obtain ⟨a, ha, rfl⟩ := Option.map_eq_some_iff.mp h
      cases x with
      | c k => exact .inl ⟨k, a, rfl, drop_one hx, ha, rfl⟩
      | v n => cases ha
      | p o => cases ha
    · cases h
  · split at h
    · rename_i x y hx
      obtain ⟨a, ha, h⟩ := Option.bind_eq_some_iff.mp h
      obtain ⟨b, hb, rfl⟩ := Option.map_eq_some_iff.mp h
      cases x with
      | c k =>
        cases y with
        | c j => exact .inr ⟨k, j, a, b, rfl, drop_two hx, ha, hb, rfl⟩
        | v n => cases hb
        | p o => cases hb
      | v n => cases ha
      | p o => cases ha
    · cases h
  · cases h
theorem behind_ext {f : List Ln} {cs cs' : List At} (x : Ext cs cs') (ok : ∀ l ∈ f, l.ok cs) (m : Nat) : behind f cs' m = behind f cs m := by
  revert x ok m
  revert f cs cs'
  walk_at "9e"
  intro f cs
  clear_value f cs
  walk_at "9g"
  intro cs'
  clear_value cs'
  walk_at "in"
  have mem : ∀ {n : Nat} {l : Ln}, l ∈ f.drop n → l.ok cs := fun h => ok _ (List.mem_of_mem_drop h)
  unfold behind
  split
  · split
    · rename_i y hy
      rw [Ln.con_ext x (mem (n := f.length - 1) (by rw [hy]; exact .head _))]
    · rfl
  · split
    · rename_i y z hy
      rw [Ln.con_ext x (mem (n := f.length - 2) (by rw [hy]; exact .head _)), Ln.con_ext x (mem (n := f.length - 2) (by rw [hy]; exact .tail _ (.head _)))]
    · rfl
  · rfl
theorem told_called {o : Op} {as : List At} {v : At} (h : told o as = some v) : called o (as.map .at) = some (.at v) := by
  rcases told_cases h with ⟨a, rfl, h⟩ | ⟨i, j, rfl, h⟩
  · show called1 o (.at a) = _
    cases a <;> cases o <;> first | exact noS h | (cases h; rfl)
  · show called2 o _ _ = _
    cases o <;> first | exact noS h | (cases h; rfl)
theorem called_told {o : Op} {as : List At} {x : Tr} (h : called o (as.map .at) = some x) (hn : o ≠ .gt ∧ o ≠ .consp ∧ o ≠ .not ∧ o ≠ .eqv) (hp : o.pure = true) : (told o as).isSome = true := by
  revert h hn hp
  revert o as x
  walk_at "9e"
  intro o as
  clear_value o as
  walk_at "9g"
  intro x
  clear_value x
  walk_at "in"
  obtain ⟨h1, h2, h3, h4⟩ := hn
  match as, h with
  | [], h => exact noS h
  | [a], h =>
    have h : called1 o (.at a) = some x := h
    show (told1 o a).isSome = true
    cases a <;> cases o <;> first | rfl | exact absurd rfl h2 | exact absurd rfl h3 | exact ffT hp | exact noS h
  | [a, b], h =>
    have h : called2 o (.at a) (.at b) = some x := h
    rcases called2_cases h with (rfl | rfl) | ⟨i, j, e, e'⟩
    · exact absurd rfl h4
    · exact ffT hp
    · injection e with e; injection e' with e'; subst e e'
      show (told2 o i j).isSome = true
      cases o <;> first | rfl | exact absurd rfl h1 | exact absurd rfl h2 | exact absurd rfl h3 | exact absurd rfl h4 | exact ffT hp | exact noS h
  | a :: b :: c :: r, h => exact noS h
def Clean (f : List Ln) (cs : List At) : Prop := ∀ i o, f[i]? = some (.p o) → o.pure = true → (behind (f.take i) cs o.many).bind (told o) = none
theorem Clean.ext {f : List Ln} {cs cs' : List At} (C : Clean f cs) (x : Ext cs cs') (ok : ∀ l ∈ f, l.ok cs) : Clean f cs' := fun i o hi hp => by
  rw [behind_ext x (fun l hl => ok l (List.mem_of_mem_take hl))]
  exact C i o hi hp
theorem Clean.take {f : List Ln} {cs : List At} (C : Clean f cs) (n : Nat) : Clean (f.take n) cs := fun i o hi hp => by
  have hin : i < n := by have := (List.getElem?_eq_some_iff.mp hi).1; simp at this; walk_at "om"
  rw [List.getElem?_take_of_lt hin] at hi
  rw [List.take_take, Nat.min_eq_left (Nat.le_of_lt hin)]
  exact C i o hi hp
theorem Clean.snoc {f : List Ln} {cs : List At} {l : Ln} (C : Clean f cs) (h : ∀ o, l = .p o → o.pure = true → (behind f cs o.many).bind (told o) = none) : Clean (f ++ [l]) cs := fun i o hi hp => by
  rcases Nat.lt_trichotomy i f.length with q | q | q
  · rw [List.getElem?_append_left q] at hi
    rw [List.take_append_of_le_length (Nat.le_of_lt q)]
    exact C i o hi hp
  · subst q
    rw [List.getElem?_concat_length] at hi
    rw [List.take_left]
    exact h o (Option.some.inj hi) hp
  · have := (List.getElem?_eq_some_iff.mp hi).1
    simp at this; walk_at "om"
def Bd (B : Nat) (cs : List At) : Prop := ∀ i, At.int i ∈ cs → Bits i B
theorem Bd.mono {B B' : Nat} {cs : List At} (h : Bd B cs) (k : B ≤ B') : Bd B' cs := fun i hi => Nat.le_trans (h i hi) k
theorem told_bits {o : Op} {as : List At} {B : Nat} {i : Int} (h : told o as = some (.int i)) (hb : Bd B as) (h1 : 1 ≤ B) : Bits i (2 * B) := by
  have e1 : max B B + 1 ≤ 2 * B := by rw [Nat.max_self]; walk_at "om"
  rcases told_cases h with ⟨a, rfl, h⟩ | ⟨x, y, rfl, h⟩
  · cases a with
    | int k =>
      have hk := hb k (.head _)
      cases o with
      | inc => cases h; exact Nat.le_trans (intBits_add_le hk (Nat.le_trans bits_one h1)) e1
      | dec => cases h; exact Nat.le_trans (intBits_sub_le hk (Nat.le_trans bits_one h1)) e1
      | intp => cases h
      | _ => exact noS h
    | nil => cases o <;> first | exact noS h | cases h
    | t => cases o <;> first | exact noS h | cases h
  · have hx := hb x (.head _)
    have hy := hb y Z1
    cases o with
    | add => cases h; exact Nat.le_trans (intBits_add_le hx hy) e1
    | sub => cases h; exact Nat.le_trans (intBits_sub_le hx hy) e1
    | mul => cases h; exact Nat.le_trans (intBits_mul_le hx hy) (by walk_at "om")
    | max => cases h; exact Nat.le_trans (intBits_ite_le hy hx) (by rw [Nat.max_self]; walk_at "om")
    | min => cases h; exact Nat.le_trans (intBits_ite_le hy hx) (by rw [Nat.max_self]; walk_at "om")
    | lt => have h := Option.some.inj h; split at h <;> cases h
    | le => have h := Option.some.inj h; split at h <;> cases h
    | eq => have h := Option.some.inj h; split at h <;> cases h
    | _ => exact noS h
structure Fold (cs₀ : List At) (pre : List Ln) (st : List Ln × List At) (B : Nat) : Prop where
  ext : Ext cs₀ st.2
  ok : ∀ l ∈ st.1, l.ok st.2
  clean : Clean st.1 st.2
  len : st.1.length ≤ pre.length
  same : run st.1 st.2 [] = run pre cs₀ []
  bits : Bd B st.2
theorem Fold.step {cs₀ : List At} {pre : List Ln} {st : List Ln × List At} {B : Nat} (F : Fold cs₀ pre st B) (h1 : 1 ≤ B) {ln : Ln} (hl : ln.ok cs₀) : Fold cs₀ (pre ++ [ln]) (step st ln) (2 * B) := by
  obtain ⟨f, cs⟩ := st
  obtain ⟨ext, ok, clean, len, same, bits⟩ := F
  dsimp only at *
  have plain : ∀ l : Ln, l.ok cs₀ → (∀ o, l = .p o → o.pure = true → (behind f cs o.many).bind (told o) = none) → Fold cs₀ (pre ++ [l]) (f ++ [l], cs) (2 * B) := fun l hl hc => by
    refine ⟨ext, fun x hx => ?_, clean.snoc hc, by simp; walk_at "om", ?_, bits.mono (by walk_at "om")⟩
    · rcases List.mem_append.mp hx with q | q
      · exact ok x q
      · rw [List.mem_singleton.mp q]; exact Ln.ok_ext ext hl
    · show run (f ++ [l]) cs [] = run (pre ++ [l]) cs₀ []
      rw [run_app, run_app, same]
      congr 1
      funext st
      exact run_ext ext fun x hx => by rw [List.mem_singleton.mp hx]; exact hl
  cases ln with
  | c k => exact plain _ hl fun o q => by cases q
  | v n => exact plain _ hl fun o q => by cases q
  | p o =>
    unfold Mine.step
    dsimp only
    split
    · rename_i hp
      split
      · rename_i v hv
        obtain ⟨as, has, htv⟩ := Option.bind_eq_some_iff.mp hv
        obtain ⟨ex, gx⟩ := indexOf_spec cs v
        have hklt : (indexOf cs v).1 < (indexOf cs v).2.length := (List.getElem?_eq_some_iff.mp gx).1
        have okt : ∀ l ∈ f.take (f.length - o.many), l.ok cs := fun l hl => ok l (List.mem_of_mem_take hl)
        refine ⟨ext.trans ex, fun x hx => ?_, ?_, ?_, ?_, fun i hi => ?_⟩
        · rcases List.mem_append.mp hx with q | q
          · exact Ln.ok_ext ex (okt x q)
          · rw [List.mem_singleton.mp q]; exact hklt
        · exact ((clean.take _).ext ex okt).snoc fun o q => by cases q
        · simp; walk_at "om"
        · show run (f.take (f.length - o.many) ++ [.c (indexOf cs v).1]) (indexOf cs v).2 [] = run (pre ++ [.p o]) cs₀ []
          rw [run_app, run_app, ← same]
          have e0 : run (f.take (f.length - o.many)) (indexOf cs v).2 [] = run (f.take (f.length - o.many)) cs [] := run_ext ex okt
          rw [e0]
          have hcall := told_called htv
          have e1 : run f cs [] = andThen (run (f.take (f.length - o.many)) cs []) fun st => some (.leaves (st ++ as.map .at)) := by
            rcases behind_some has with ⟨k, a, hm, hf, hk, rfl⟩ | ⟨k, j, a, b, hm, hf, hk, hj, rfl⟩
            · rw [hm]
              conv => lhs; rw [hf]
              rw [run_app]
              congr 1
              funext st
              simp [run, hk]
            · rw [hm]
              conv => lhs; rw [hf]
              rw [run_app]
              congr 1
              funext st
              simp [run, hk, hj]
          have hlen : (as.map Tr.at).length = o.many := by
            rcases behind_some has with ⟨k, a, hm, hf, hk, rfl⟩ | ⟨k, j, a, b, hm, hf, hk, hj, rfl⟩ <;> rw [hm] <;> rfl
          rw [e1]
          cases run (f.take (f.length - o.many)) cs [] with
          | none => rfl
          | some r =>
            cases r with
            | fails o' as' => rfl
            | leaves st =>
              show run [.c (indexOf cs v).1] (indexOf cs v).2 st = run [.p o] cs₀ (st ++ as.map .at)
              have hle : o.many ≤ (st ++ as.map Tr.at).length := by simp [← hlen]
              have hd : (st ++ as.map Tr.at).length - o.many = st.length := by rw [← hlen]; simp
              rw [run, run, if_pos hle, hd, List.drop_left, List.take_left, hcall, gx]
              rfl
        · rcases indexOf_mem hi with q | rfl
          · exact Nat.le_trans (bits i q) (by walk_at "om")
          · refine told_bits htv (B := B) (fun j hj => bits j ?_) h1
            rcases behind_some has with ⟨k, a, hm, hf, hk, rfl⟩ | ⟨k, k', a, b, hm, hf, hk, hk', rfl⟩
            · rw [List.mem_singleton.mp hj]; exact List.mem_of_getElem? hk
            · rcases List.mem_cons.mp hj with q | q
              · rw [q]; exact List.mem_of_getElem? hk
              · rw [List.mem_singleton.mp q]; exact List.mem_of_getElem? hk'
      · rename_i hn
        exact plain _ hl fun o' q _ => by cases q; exact hn
    · rename_i hp
      exact plain _ hl fun o' q hp' => by cases q; exact absurd hp' hp
theorem fold_all {cs₀ : List At} (lns : List Ln) (ok : ∀ l ∈ lns, l.ok cs₀) (rest pre : List Ln) (st : List Ln × List At) (B : Nat) (e : lns = pre ++ rest) (h1 : 1 ≤ B) (F : Fold cs₀ pre st B) : Fold cs₀ lns (rest.foldl step st) (2 ^ rest.length * B) := by
  induction rest generalizing pre st B with
  | nil =>
    rw [List.append_nil] at e
    rw [List.length_nil, Nat.pow_zero, Nat.one_mul, e]
    exact F
  | cons l rest ih =>
    rw [List.length_cons, Nat.pow_succ, Nat.mul_assoc]
    exact ih (pre ++ [l]) (step st l) (2 * B) (by rw [e, List.append_assoc]; rfl) (Nat.le_trans h1 (Nat.le_mul_of_pos_left _ (by decide))) (F.step h1 (ok l (by rw [e]; exact List.mem_append_right _ (.head _))))
theorem fold_facts {cs : List At} {lns : List Ln} {B : Nat} (ok : ∀ l ∈ lns, l.ok cs) (hb : Bd B cs) (h1 : 1 ≤ B) : Fold cs lns (foldL lns cs) (2 ^ lns.length * B) :=
  fold_all lns ok lns [] ([], cs) B rfl h1 ⟨Ext.refl, fun _ h => (nomatch h), fun i o h => by simp at h, Nat.le_refl _, rfl, hb⟩
theorem clean_step {pre rest : List Ln} {l : Ln} {cs : List At} (C : Clean (pre ++ l :: rest) cs) : step (pre, cs) l = (pre ++ [l], cs) := by
  cases l with
  | c k => rfl
  | v n => rfl
  | p o =>
    unfold Mine.step
    dsimp only
    split
    · rename_i hp
      have := C pre.length o (by simp) hp
      rw [List.take_left] at this
      rw [this]
    · rfl
theorem clean_fold {f : List Ln} {cs : List At} (C : Clean f cs) (rest pre : List Ln) (e : f = pre ++ rest) : rest.foldl step (pre, cs) = (f, cs) := by
  induction rest generalizing pre with
  | nil => rw [e, List.append_nil]; rfl
  | cons l rest ih =>
    rw [List.foldl_cons, clean_step (e ▸ C)]
    exact ih (pre ++ [l]) (by rw [e, List.append_assoc]; rfl)
theorem clean_left {f : List Ln} {cs : List At} (C : Clean f cs) : isLeft f cs = false := by
  unfold isLeft
  rw [List.any_eq_false]
  intro i hi
  split
  · rename_i o ho
    intro h
    unfold leftAt at h
    simp only [Bool.and_eq_true, decide_eq_true_eq] at h
    obtain ⟨hm, h⟩ := h
    split at h
    · rename_i as has
      simp only [Bool.and_eq_true, decide_eq_true_eq] at h
      obtain ⟨⟨hp, hn⟩, hc⟩ := h
      obtain ⟨x, hx⟩ := Option.isSome_iff_exists.mp hc
      have h1 := C i o ho hp
      rw [has, Option.bind_some] at h1
      have h2 := called_told hx hn hp
      rw [h1] at h2; cases h2
    · cases h
  · simp
theorem plain_law {cs : List At} {lns : List Ln} (ok : ∀ l ∈ lns, l.ok cs) (hb : Bd 3 cs) (hl : lns.length ≤ 12) :
    run (foldL lns cs).1 (foldL lns cs).2 [] = run lns cs [] ∧ (foldL lns cs).1.length ≤ lns.length ∧ isLeft (foldL lns cs).1 (foldL lns cs).2 = false ∧
      foldL (foldL lns cs).1 (foldL lns cs).2 = foldL lns cs ∧ Bd 12288 (foldL lns cs).2 ∧ (∀ l ∈ (foldL lns cs).1, l.ok (foldL lns cs).2) ∧ Ext cs (foldL lns cs).2 := by
  have F := fold_facts ok hb (by decide)
  refine ⟨F.same, F.len, clean_left F.clean, clean_fold F.clean _ [] rfl, F.bits.mono ?_, F.ok, F.ext⟩
  have : 2 ^ lns.length ≤ 2 ^ 12 := Nat.pow_le_pow_right (by decide) hl
  walk_at "om"
noncomputable def frl (h : Heap) (outer : List Env) : List (Addr × Obj) := (frs outer).map fun b => (b, (h.get? b).getD default)
theorem frl_mem {h : Heap} {outer : List Env} {p : Addr × Obj} (hp : p ∈ frl h outer) : p.1 ∈ frs outer := by
  obtain ⟨b, hb, rfl⟩ := List.mem_map.mp hp; exact hb
theorem frl_has {h : Heap} {outer : List Env} (F : FF h outer) {b : Addr} (hb : b ∈ frs outer) : ∃ o, h.get? b = some o ∧ (b, o) ∈ frl h outer := by
  obtain ⟨o, e, -⟩ := F.mem hb
  exact ⟨o, e, List.mem_map.mpr ⟨b, hb, by rw [e]; rfl⟩⟩
theorem frl_led {h₀ h : Heap} {outer : List Env} (F : FF h outer) (h0 : ∀ b ∈ frs outer, h₀.get? b = none) : Led h₀ h (frl h outer) := fun p hp => by
  obtain ⟨b, hb, rfl⟩ := List.mem_map.mp hp
  obtain ⟨o, e, -⟩ := F.mem hb
  exact ⟨by rw [e]; rfl, h0 b hb⟩
theorem led_app {h₀ h : Heap} {a b : List (Addr × Obj)} (x : Led h₀ h a) (y : Led h₀ h b) : Led h₀ h (a ++ b) := fun p hp => (List.mem_append.mp hp).elim (x p) (y p)
section
variable {g h h₁ : Heap} {L a : Addr} {m : Str → Option Value} {news : List (Addr × Obj)} {outer : List Env} {name : Str} {scope : Scope} {cd : Value}
theorem FF.ofNews (F : FF h outer) (N : News g L h₁ news) (k : ∀ p ∈ frl h outer, p ∈ news) : FF h₁ outer :=
  funFrames_re' (h := h) (fun b hb o e _ => by
    obtain ⟨o', e', hm⟩ := frl_has F hb
    rw [e] at e'; cases e'
    exact ⟨o, (N _ (k _ hm)).1, rfl⟩) F fun b hb => hideAll_none _ hb
theorem FF.push2 (K : FF h outer) (F : Fr g L h m) (hk : scope.kind = .function := by rfl) : FF h (envOf name scope L a cd :: outer) := by
  have ef : frs (envOf name scope L a cd :: outer) = L :: frs outer := rfl
  refine .cons (by show scope.kind ≠ .module; rw [hk]; decide) rfl F.ns (hideAll_none _ (by rw [ef]; exact .head _)) ?_
  exact funFrames_re (fun b o e _ => ⟨o, e, rfl⟩) K fun b hb => hideAll_none _ (by rw [ef]; exact .tail _ hb)
theorem news_caught {G h' : Heap} {n1 : List (Addr × Obj)} (N : News g L G news) (k : Kept (L :: frs outer) G h') (s : ∀ p ∈ n1, p ∈ news) (d : ∀ p ∈ n1, p.1 ∉ frs outer) : News g L h' n1 := fun p hp => by
  have q := N p (s p hp)
  refine ⟨k _ _ (fun z => ?_) q.1, q.2⟩
  rcases List.mem_cons.mp z with z | z
  · exact q.2.1 z
  · exact d p hp z
end
section
variable {prog : Program} {w : World} {A : Around} {E : Value → Shared → Prop} {s : Shared} {x y : Str} {t u : Tok} {b : Bool}
theorem ne_str_b {Q : Value → Shared → Prop} (e : (x != y) = b) (h : Q (.bool b) s) : wpAny (model prog w) A (compareOp .NotEq (.str x t) (.str y u)) Q E s := PyProof.Rows.ne_str (by rw [e]; exact h)
theorem eq_str_b {Q : Value → Shared → Prop} (e : (x == y) = b) (h : Q (.bool b) s) : wpAny (model prog w) A (compareOp .Eq (.str x t) (.str y u)) Q E s := PyProof.Rows.eq_str (by rw [e]; exact h)
end
theorem TokNew.mono {a b a' b' : Nat} {vs : List Value} {v : Value} (h : TokNew a b vs v) (x : a' ≤ a) (y : b ≤ b') : TokNew a' b' vs v := by
  rcases h with h | h | ⟨i, t, e, p, q⟩
  · exact .inl h
  · exact .inr (.inl h)
  · exact .inr (.inr ⟨i, t, e, Nat.le_trans x p, Nat.lt_of_lt_of_le q y⟩)
theorem allLt_mem {d : Addr} {l : List (Addr × Obj)} {p : Addr × Obj} (h : AllLt d l) (hp : p ∈ l) : @LT.lt Nat _ p.1 d := by
  induction l with
  | nil => cases hp
  | cons q r ih =>
    rcases List.mem_cons.mp hp with e | e
    · rw [e]; exact h.1
    · exact ih h.2 e
def HZ (h₀ h : Heap) (ex : List Addr) (b : Addr) (o : Obj) : Prop := h.get? b = some o ∧ h₀.get? b = none ∧ b ∉ ex
set_option genSizeOf false
set_option genInjectivity false
structure WA where
  (wa wd ob od rl nd ce cd fd pd va ba : Addr)
  (t1 t2 t3 t4 t5 t6 t7 t8 t9 t10 t11 t12 : Tok)
structure WD where
  (no fo : Obj) (kvs : List (Str × Value)) (fvs : List (Int × Value)) (rows : List Value) (n : Nat)
def Im (H : Addr → Obj → Prop) (W : WA) (b : Addr) (o : Obj) : Prop := H b o ∧ b ≠ W.nd ∧ b ≠ W.rl
inductive FnK (w : World) (H : Addr → Obj → Prop) (W : WA) (v : Option Value) (nm : Str) (dd : Addr) : Prop
  | mk (ua ud : Addr) (nu : Int) (u1 u2 u3 u4 u5 u6 u7 u8 u9 : Tok) (a : v = some (.ref ua)) (b : Im H W ua (instObj 166 ud)) (c : Im H W ud (subrD w.params u1 u2 u3 u4 u5 u6 u7 u8 u9 nu nm dd)) : FnK w H W v nm dd
def FnD (w : World) (H : Addr → Obj → Prop) (W : WA) (D : WD) (o : Op) (num : Int) : Prop := match o.deed with
  | some dd => FnK w H W (valueAt D.fvs num) o.name dd
  | none => valueAt D.fvs num = none ∨ ∃ nm dd, FnK w H W (valueAt D.fvs num) nm dd ∧ (nm != o.name) = true
def SymD (w : World) (H : Addr → Obj → Prop) (W : WA) (D : WD) (o : Op) (sa sd : Addr) (num : Int) (s1 s2 s3 s4 : Tok) : Prop :=
  valueAt D.kvs o.name = some (.ref sa) ∧ Im H W sa (instObj 118 sd) ∧ Im H W sd (symD w.params s1 s2 s3 s4 num o.name) ∧ FnD w H W D o num
structure WPd (prog : Program) (w : World) (H : Addr → Obj → Prop) (W : WA) (D : WD) (N : Nat) : Prop where
  wa : Im H W W.wa (instObj 737 W.wd)
  wd : Im H W W.wd (worldD w.params W.t3 W.t4 W.t5 W.t6 W.t7 W.t8 W.t9 W.t10 W.ob W.ce W.va W.ba)
  ob : Im H W W.ob (instObj 569 W.od)
  od : Im H W W.od (obD w.params W.t1 W.t2 W.rl W.nd)
  ce : Im H W W.ce (instObj 492 W.cd)
  cd : Im H W W.cd (cellsD w.params W.t11 W.t12 W.fd W.pd)
  fd : Im H W W.fd D.fo
  nd : H W.nd D.no
  rl : H W.rl (listOf D.rows.toArray D.n)
  ne : W.nd ≠ W.rl
  hk : D.no.IsDictOf (PySem.strKind prog w) D.kvs
  hf : D.fo.IsDictOf (PySem.intKind prog w) D.fvs
  nm : (W.nd == sysModules) = false
  fm : (W.fd == sysModules) = false
  lr : D.rows.length ≤ N
  lk : D.kvs.length ≤ N
  fv : ∀ k : Nat, D.rows.length ≤ k → valueAt D.fvs k = none
  sy : ∀ o : Op, o.pure = true → (∃ sa sd num s1 s2 s3 s4, SymD w H W D o sa sd num s1 s2 s3 s4) ∨ (o.deed = none ∧ valueAt D.kvs o.name = none)
section
variable {prog : Program} {w : World} {H H' : Addr → Obj → Prop} {W : WA} {D : WD} {N : Nat} {o : Op}
theorem FnK.mono {v : Option Value} {nm : Str} {dd : Addr} (k : ∀ b d, Im H W b (instObj 166 d) → Im H' W b (instObj 166 d)) (k' : ∀ b es n, Im H W b (dictOf es n) → Im H' W b (dictOf es n)) (h : FnK w H W v nm dd) : FnK w H' W v nm dd := by
  obtain ⟨ua, ud, nu, u1, u2, u3, u4, u5, u6, u7, u8, u9, a, b, c⟩ := h
  exact ⟨ua, ud, nu, u1, u2, u3, u4, u5, u6, u7, u8, u9, a, k _ _ b, k' _ _ _ c⟩
theorem FnD.gen {num : Int} (k : ∀ b d, Im H W b (instObj 166 d) → Im H' W b (instObj 166 d)) (k' : ∀ b es n, Im H W b (dictOf es n) → Im H' W b (dictOf es n)) (h : FnD w H W D o num) : FnD w H' W D o num := by
  unfold FnD at h ⊢
  cases q : o.deed with
  | some dd => rw [q] at h; exact FnK.mono k k' h
  | none =>
    rw [q] at h
    rcases h with h | ⟨nm, dd, a, d⟩
    · exact .inl h
    · exact .inr ⟨nm, dd, a.mono k k', d⟩
theorem FnD.mono {num : Int} (k : ∀ b x, Im H W b x → Im H' W b x) (h : FnD w H W D o num) : FnD w H' W D o num := h.gen (fun _ _ => k _ _) fun _ _ _ => k _ _
theorem FnD.data {D' : WD} {num : Int} (e : D'.fvs = D.fvs) (h : FnD w H W D o num) : FnD w H W D' o num := by
  unfold FnD at h ⊢
  rw [e]; exact h
theorem Im.mono (k : ∀ b x, b ≠ W.nd → b ≠ W.rl → H b x → H' b x) (b : Addr) (x : Obj) (h : Im H W b x) : Im H' W b x := ⟨k _ _ h.2.1 h.2.2 h.1, h.2⟩
theorem WPd.mono (k : ∀ b x, H b x → H' b x) (h : WPd prog w H W D N) : WPd prog w H' W D N := by
  have k' := Im.mono (W := W) (H := H) (H' := H') fun b x _ _ => k b x
  walk_at "9Y"
  refine ⟨k' _ _ h1, k' _ _ h2, k' _ _ h3, k' _ _ h4, k' _ _ h5, k' _ _ h6, k' _ _ h7, k _ _ h8, k _ _ h9, h10, h11, h12, h13, h14, h15, h16, h17, fun o ho => ?_⟩
  rcases h18 o ho with ⟨sa, sd, num, s1, s2, s3, s4, a, b, c, d⟩ | q
  · exact .inl ⟨sa, sd, num, s1, s2, s3, s4, a, k' _ _ b, k' _ _ c, d.mono k'⟩
  · exact .inr q
theorem WPd.le {N' : Nat} (h : WPd prog w H W D N) (l : N ≤ N') : WPd prog w H W D N' := { h with lr := Nat.le_trans h.lr l, lk := Nat.le_trans h.lk l }
theorem stored_new {α : Type} [DecidableEq α] {kvs : List (α × Value)} {k : α} {v : Value} (h : valueAt kvs k = none) : stored kvs k v = kvs ++ [(k, v)] := by
  unfold stored
  rw [if_neg]
  unfold valueAt at h
  rw [Option.map_eq_none_iff, List.find?_eq_none] at h
  intro q
  rw [List.any_eq_true] at q
  obtain ⟨x, hx, e⟩ := q
  exact h x hx e
theorem valueAt_app {α : Type} [DecidableEq α] {kvs : List (α × Value)} {k k' : α} {v : Value} : valueAt (kvs ++ [(k, v)]) k' = (valueAt kvs k').or (if k = k' then some v else none) := by
  unfold valueAt
  rw [List.find?_append]
  cases h : kvs.find? fun kv => decide (kv.1 = k') with
  | some x => rfl
  | none =>
    simp only [Option.none_or, Option.map_none]
    by_cases e : k = k'
    · rw [if_pos e]; simp [e]
    · rw [if_neg e]; simp [e]
theorem WPd.sym_new {x d : Addr} {s1 s2 s3 s4 : Tok} {no' : Obj} {n' : Nat} {H' : Addr → Obj → Prop} (h : WPd prog w H W D N) (k : ∀ b x, b ≠ W.nd → b ≠ W.rl → H b x → H' b x) (ho : o.deed = none) (hv : valueAt D.kvs o.name = none)
    (hnd : H' W.nd no') (hrl : H' W.rl (listOf (D.rows ++ [Value.ref x]).toArray n')) (hno : no'.IsDictOf (PySem.strKind prog w) (stored D.kvs o.name (.ref x))) (hx : H' x (instObj 118 d)) (hd : H' d (symD w.params s1 s2 s3 s4 D.rows.length o.name))
    (nx : x ≠ W.nd ∧ x ≠ W.rl) (nd : d ≠ W.nd ∧ d ≠ W.rl) :
    WPd prog w H' W ⟨no', D.fo, D.kvs ++ [(o.name, Value.ref x)], D.fvs, D.rows ++ [Value.ref x], n'⟩ (N + 1) ∧ SymD w H' W ⟨no', D.fo, D.kvs ++ [(o.name, Value.ref x)], D.fvs, D.rows ++ [Value.ref x], n'⟩ o x d D.rows.length s1 s2 s3 s4 := by
  revert h k ho hv hnd hrl hno hx hd nx nd
  revert prog w H W D N o x d s1 s2 s3 s4 no' n' H'
  walk_at "9c"
  intro prog w H W D N o x d s1 s2 s3 s4 no' n' H'
  clear_value prog w H W D N o x d s1 s2 s3 s4 no' n' H'
  walk_at "in"
  rw [stored_new hv] at hno
  have k' := Im.mono (W := W) (H := H) (H' := H') k
  walk_at "9Y"
  have S : SymD w H' W ⟨no', D.fo, D.kvs ++ [(o.name, Value.ref x)], D.fvs, D.rows ++ [Value.ref x], n'⟩ o x d D.rows.length s1 s2 s3 s4 := by
    refine ⟨?_, ⟨hx, nx⟩, ⟨hd, nd⟩, ?_⟩
    · show valueAt (D.kvs ++ [(o.name, Value.ref x)]) o.name = _
      rw [valueAt_app, hv, if_pos rfl]; rfl
    · unfold FnD; rw [ho]; exact .inl (h17 _ (Nat.le_refl _))
  refine ⟨⟨k' _ _ h1, k' _ _ h2, k' _ _ h3, k' _ _ h4, k' _ _ h5, k' _ _ h6, k' _ _ h7, hnd, hrl, h10, hno, h12, h13, h14, ?_, ?_, fun j hj => h17 j ?_, fun o' ho' => ?_⟩, S⟩
  · show (D.rows ++ [Value.ref x]).length ≤ N + 1
    rw [List.length_append]; exact Nat.succ_le_succ h15
  · show (D.kvs ++ [(o.name, Value.ref x)]).length ≤ N + 1
    rw [List.length_append]; exact Nat.succ_le_succ h16
  · have : (D.rows ++ [Value.ref x]).length ≤ j := hj
    rw [List.length_append] at this; exact Nat.le_of_succ_le this
  · rcases h18 o' ho' with ⟨sa, sd, num, s1, s2, s3, s4, a, b, c, d⟩ | ⟨q1, q2⟩
    · refine .inl ⟨sa, sd, num, s1, s2, s3, s4, ?_, k' _ _ b, k' _ _ c, (d.mono k').data rfl⟩
      walk_at "9aC"
      rw [valueAt_app, a]; rfl
    · by_cases e : o.name = o'.name
      · obtain ⟨a, b, c, d'⟩ := S
        refine .inl ⟨x, d, D.rows.length, s1, s2, s3, s4, e ▸ a, b, e ▸ c, ?_⟩
        unfold FnD; rw [q1]; exact .inl (h17 _ (Nat.le_refl _))
      · refine .inr ⟨q1, ?_⟩
        walk_at "9aC"
        rw [valueAt_app, q2, if_neg e]; rfl
end
def FrU (fs : List Addr) (h h' : Heap) : Prop := ∀ b ∈ fs, ∀ o, h.get? b = some o → ∃ sl, h'.get? b = some { o with slots := sl }
theorem FrU.kept {fs M : List Addr} {h h' : Heap} (k : Kept M h h') (d : ∀ b ∈ fs, b ∉ M) : FrU fs h h' := fun b hb o e => ⟨o.slots, k b o (d b hb) e⟩
theorem FrU.kept0 {fs : List Addr} {h h' : Heap} (k : Kept [] h h') : FrU fs h h' := FrU.kept k fun _ _ q => nomatch q
theorem FrU.trans {fs : List Addr} {h h' h'' : Heap} (a : FrU fs h h') (b : FrU fs h' h'') : FrU fs h h'' := fun x hx o e => by
  obtain ⟨sl, e1⟩ := a x hx o e
  obtain ⟨sl', e2⟩ := b x hx _ e1
  exact ⟨sl', e2⟩
theorem FF.fru {h h' : Heap} {outer : List Env} (F : FF h outer) (u : FrU (frs outer) h h') : FF h' outer :=
  funFrames_re' (h := h) (fun b hb o e _ => by
    obtain ⟨sl, e'⟩ := u b hb o e
    exact ⟨_, e', rfl⟩) F fun b hb => hideAll_none _ hb
theorem FrU.slots {h h' : Heap} {outer : List Env} (F : FF h outer) (u : h.UpToSlots h') : FrU (frs outer) h h' := fun b hb o e => by
  obtain ⟨o', e', hn⟩ := F.mem hb
  rw [e] at e'; cases e'
  exact u b o e hn
theorem led_of {h₀ g h h₁ : Heap} {L : Addr} {m : Str → Option Value} {news news' all : List (Addr × Obj)} (LA : Led h₀ h all) (kb : ∀ b o, b ∉ news.map (·.1) → h.get? b = some o → g.get? b = some o) (F : Fr g L h₁ m) (N : News g L h₁ news')
    (e : ∀ p ∈ news, h.get? p.1 = some p.2) (sub : ∀ p ∈ news, p ∈ news') : Led h₀ h₁ all := fun p hp => by
  refine ⟨?_, (LA p hp).2⟩
  by_cases q : p.1 ∈ news.map (·.1)
  · obtain ⟨x, hx, ex⟩ := List.mem_map.mp q
    have h1 := e x hx
    rw [ex, (LA p hp).1] at h1
    have h2 := (N x (sub x hx)).1
    rw [ex, ← Option.some.inj h1] at h2
    exact h2
  · exact F.keep _ _ (kb _ _ q (LA p hp).1)
section
variable {w : World} {p : Program} {lo : List Str} {mean : ExcName → Option Value} {mg mb : Str → Option Value} {h₀ g h₁ : Heap} {s : Shared} {L : Addr} {m : Str → Option Value} {news : List (Addr × Obj)}
theorem base_of (G : Gd w p lo mean mg mb h₀ s) (LL : Led h₀ s.heap news) (kb : ∀ b o, b ∉ news.map (·.1) → s.heap.get? b = some o → g.get? b = some o) : ∀ b o, h₀.get? b = some o → g.get? b = some o := fun b o e => kb b o (fun q => by
  obtain ⟨x, hx, ex⟩ := List.mem_map.mp q
  have := (LL x hx).2
  rw [ex, e] at this; cases this) (G.st b o e)
theorem Gd.of2 {s' : Shared} (G : Gd w p lo mean mg mb h₀ s) (k : ∀ b o, h₀.get? b = some o → g.get? b = some o) (F : Fr g L s'.heap m) : Gd w p lo mean mg mb h₀ s' := ⟨fun b o e => F.keep b o (k b o e), G.X, G.T⟩
end
theorem led_of2 {h₀ g h h₁ : Heap} {L : Addr} {m : Str → Option Value} {news' all : List (Addr × Obj)} (U C : List (Addr × Obj)) (LA : Led h₀ h all) (kb : ∀ b o, b ∉ (U ++ C).map (·.1) → h.get? b = some o → g.get? b = some o) (F : Fr g L h₁ m) (N : News g L h₁ news')
    (e : ∀ p ∈ U, h.get? p.1 = some p.2) (sub : ∀ p ∈ U, p ∈ news') (off : ∀ p ∈ all, p.1 ∉ C.map (·.1)) : Led h₀ h₁ all := fun p hp => by
  refine ⟨?_, (LA p hp).2⟩
  by_cases q : p.1 ∈ U.map (·.1)
  · obtain ⟨x, hx, ex⟩ := List.mem_map.mp q
    have h1 := e x hx
    rw [ex, (LA p hp).1] at h1
    have h2 := (N x (sub x hx)).1
    rw [ex, ← Option.some.inj h1] at h2
    exact h2
  · exact F.keep _ _ (kb _ _ (fun z => by
      rw [List.map_append] at z
      exact (List.mem_append.mp z).elim q (off p hp)) (LA p hp).1)
theorem none_base {h₀ g : Heap} {b : Addr} (k : ∀ b o, h₀.get? b = some o → g.get? b = some o) (e : g.get? b = none) : h₀.get? b = none := by
  cases q : h₀.get? b with
  | none => rfl
  | some o => rw [k b o q] at e; cases e
noncomputable def isIt (o : Obj) : Bool := isIter o && match o.data with
  | .fields _ => true
  | _ => false
theorem isIt_of {o : Obj} {vs : Array Value} (h : isIter o = true) (d : o.data = .fields vs) : isIt o = true := by unfold isIt; rw [h, d]; rfl
theorem notIt {o : Obj} (d : ∀ vs, o.data ≠ .fields vs) : isIt o = false := by
  unfold isIt
  split
  · rename_i e; exact absurd e (d _)
  · rw [Bool.and_false]
def KI (hs h h' : Heap) : Prop := ∀ b o, h.get? b = some o → isIt o = false ∨ (∃ o', hs.get? b = some o') → h'.get? b = some o
noncomputable abbrev HInv : Type := Nat → Heap → (Str → Option Value) → Nat → Prop
section
variable {prog : Program} {w : World} {A : Around} {E : Value → Shared → Prop} {s : Shared} {env : Env} {h₀ : Heap} {target : Expr} {body : List Stmt} {Q : Flow → Shared → Prop}
def EndH (g : Heap) (L : Addr) (ro : List Addr) (Inv : Heap → (Str → Option Value) → Nat → Prop) (s₁ s₂ : Shared) : Prop :=
  ∃ h' tk m', s₂ = { s₁ with heap := h', toks := tk } ∧ Fr g L h' m' ∧ (∀ b o, s₁.heap.get? b = some o → isIt o = true ∨ b ∈ ro → h'.get? b = some o) ∧ Inv h' m' tk
theorem EndH.mk {g : Heap} {L : Addr} {ro : List Addr} {Inv : Heap → (Str → Option Value) → Nat → Prop} {s₁ : Shared} {hS : Heap} {tS : Nat} {gS : Array GenState} {dS : Drawn} {oS : OsState} {m' : Str → Option Value}
    (F : Fr g L hS m') (k : ∀ b o, s₁.heap.get? b = some o → isIt o = true ∨ b ∈ ro → hS.get? b = some o) (j : Inv hS m' tS) (hg : gS = s₁.gens := by rfl) (hd : dS = s₁.drawn := by rfl) (ho : oS = s₁.os := by rfl) : EndH g L ro Inv s₁ ⟨hS, gS, dS, tS, oS⟩ :=
  ⟨hS, tS, m', by rw [hg, hd, ho], F, k, j⟩
def PostH (g : Heap) (L : Addr) (ro : List Addr) (Inv : Heap → (Str → Option Value) → Nat → Prop) (s₁ : Shared) (Q : Flow → Shared → Prop) (f : Flow) (s₂ : Shared) : Prop :=
  match f with
  | .ret v => Q (.ret v) s₂
  | .brk => Q .next s₂
  | _ => EndH g L ro Inv s₁ s₂
structure TurnH (prog : Program) (w : World) (A : Around) (g : Heap) (env : Env) (target : Expr) (body : List Stmt) (Q : Flow → Shared → Prop) (E : Value → Shared → Prop) (s₂ : Shared) (n : Nat) (P : Nat → Value → Heap → Prop) (m : Str → Option Value) (ro : List Addr) (hs : Heap) (Inv : HInv) : Prop where
  init : Inv 0 s₂.heap m s₂.toks
  up : ∀ i h h' m tk tk', Inv i h m tk → KI hs h h' → tk ≤ tk' → Inv i h' m tk'
  step : ∀ i v m₁ h₁ tk₁, i < n → P i v h₁ → Inv i h₁ m₁ tk₁ → s₂.toks ≤ tk₁ → Fr g env.locals h₁ m₁ →
      wpAny (model prog w) A (assign target env v) (fun _ s₃ => wpAny (model prog w) A (execs body env) (PostH g env.locals ro (Inv (i + 1)) { s₂ with heap := h₁, toks := tk₁ } Q) E s₃) E { s₂ with heap := h₁, toks := tk₁ }
  fin : ∀ h' tk m', s₂.toks ≤ tk → Fr g env.locals h' m' → Inv n h' m' tk → Q .next { s₂ with heap := h', toks := tk }
theorem TurnH.to {n : Nat} {g : Heap} {P : Nat → Value → Heap → Prop} {m : Str → Option Value} {ro : List Addr} {hs : Heap} {Inv : HInv} {s₁ s₂ : Shared} (T : TurnH prog w A g env target body Q E s₁ n P m ro hs Inv)
    (hh : KI hs s₁.heap s₂.heap) (ht : s₁.toks ≤ s₂.toks) (hg : s₂.gens = s₁.gens) (hd : s₂.drawn = s₁.drawn) (ho : s₂.os = s₁.os) : TurnH prog w A g env target body Q E s₂ n P m ro hs Inv := by
  obtain ⟨hp, ge, d, t, o⟩ := s₁
  obtain ⟨hp', ge', d', t', o'⟩ := s₂
  dsimp only at ht hg hd ho hh
  subst hg hd ho
  exact ⟨T.up _ _ _ _ _ _ T.init hh ht, T.up, fun i v m₁ h₁ tk₁ a b c d e => T.step i v m₁ h₁ tk₁ a b c (Nat.le_trans ht d) e, fun h' tk m' a b c => T.fin h' tk m' (Nat.le_trans ht a) b c⟩
def TurnsH (prog : Program) (w : World) (A : Around) (g : Heap) (env : Env) (target : Expr) (body : List Stmt) (Q : Flow → Shared → Prop) (E : Value → Shared → Prop) (it : Value) (s₂ : Shared) : Prop :=
  ∃ (I : Addr) (fp wr : List Addr) (n : Nat) (P Md : Nat → Value → Heap → Prop) (St : Nat → Heap → Prop) (m : Str → Option Value) (ro : List Addr) (hs : Heap) (Inv : HInv),
    it = .ref I ∧ KTurns prog w A target I fp wr n P Md St ∧ env.locals ∉ wr ∧ (∀ b ∈ wr, g.get? b = none) ∧ (∀ b ∈ fp, b ∈ wr ∨ b ∈ ro ∨ ∃ o, g.get? b = some o) ∧ (∀ i h, St i h → ∀ b ∈ wr, ∃ o, h.get? b = some o ∧ isIt o = true) ∧ (∀ b ∈ wr, hs.get? b = none) ∧ St 0 s₂.heap ∧ Fr g env.locals s₂.heap m ∧
    TurnH prog w A g env target body Q E s₂ n P m ro hs Inv
theorem h_loop {R : Result → Shared → Prop} {I : Addr} {fp wr : List Addr} {n : Nat} {P Md : Nat → Value → Heap → Prop} {St : Nat → Heap → Prop} {m : Str → Option Value} {ro : List Addr} {hs : Heap} {Inv : HInv} (W : KTurns prog w A target I fp wr n P Md St)
    (hLw : env.locals ∉ wr) (hwr : ∀ b ∈ wr, h₀.get? b = none) (hfw : ∀ b ∈ fp, b ∈ wr ∨ b ∈ ro ∨ ∃ o, h₀.get? b = some o) (hlive : ∀ i h, St i h → ∀ b ∈ wr, ∃ o, h.get? b = some o ∧ isIt o = true) (hhs : ∀ b ∈ wr, hs.get? b = none) (hst : St 0 s.heap) (F : Fr h₀ env.locals s.heap m)
    (T : TurnH prog w A h₀ env target body (fun f s' => R (.ok f) s') (notedBy (model prog w) A env fun e s' => R (.error e) s') s n P m ro hs Inv) :
    codeAny (model prog w) A (.forLoop target (.ref I) body [] env) R s := by
  revert W hLw hwr hfw hlive hhs hst F T
  revert prog w A s env h₀ target body R I fp wr n P Md St m ro hs Inv
  walk_at "9c"
  intro prog w A s env h₀ target body R I fp wr n P Md St
  clear_value prog w A s env h₀ target body R I fp wr n P Md St
  walk_at "9f"
  intro m ro hs Inv
  clear_value m ro hs Inv
  walk_at "in"
  obtain ⟨h0, up, step, hR⟩ := T
  have old : ∀ b o, h₀.get? b = some o → b ∉ wr := fun b o e hb => by rw [hwr b hb] at e; cases e
  have ki : ∀ {i : Nat} {h h' : Heap}, St i h → (∀ b o, b ∉ wr → h.get? b = some o → h'.get? b = some o) → KI hs h h' := fun st k b o e hi => k b o (fun hb => by
    obtain ⟨o', e', q⟩ := hlive _ _ st b hb
    rw [e] at e'; cases e'
    rcases hi with hi | ⟨_, hi⟩
    · rw [hi] at q; cases q
    · rw [hhs b hb] at hi; cases hi) e
  refine codeAny_forLoop_any
    (fun k s' => ∃ h' tk m' i, s' = { s with heap := h', toks := tk } ∧ s.toks ≤ tk ∧ St i h' ∧ Fr h₀ env.locals h' m' ∧ Inv i h' m' tk ∧ i ≤ n ∧ k = n + 1 - i) ?_ (n + 1)
    ⟨s.heap, s.toks, m, 0, rfl, Nat.le_refl _, hst, F, h0, Nat.zero_le _, rfl⟩
  rintro k s' ⟨h', tk, m', i, rfl, htk, hst', F', hJ, hi, rfl⟩
  have next : ∀ h₁ : Heap, (∀ b o, b ∉ wr → h'.get? b = some o → h₁.get? b = some o) → Fr h₀ env.locals h₁ m' := fun h₁ hk₁ =>
    ⟨F'.ns.at' fun o e => hk₁ _ o hLw e, fun b o e => hk₁ b o (old b o e) (F'.keep b o e), F'.above⟩
  by_cases hlt : i < n
  · refine wpAny_with_toks (n := tk) (Nat.le_refl _) (W.item i _ _ _ hlt hst' fun v h₁ tk₁ hMd hk₁ hle => ?_)
    refine W.go i v _ _ _ hMd fun h₂ hP hst₂ hk₂ => ?_
    have hle' : tk ≤ tk₁ := hle
    have hk12 : ∀ b o, b ∉ wr → h'.get? b = some o → h₂.get? b = some o := fun b o hb x => hk₂ b o hb (hk₁ b o hb x)
    have F₂ := next h₂ hk12
    refine wpAny_mono (wpAny_toks_of (n := s.toks) (Nat.le_trans htk hle') (step i v m' h₂ tk₁ hlt hP (up _ _ _ _ _ _ hJ (ki hst' hk12) hle') (Nat.le_trans htk hle') F₂)) (fun _ s₂ h₂' => ?_) fun _ _ e => e.2
    refine wpAny_mono (wpAny_toks_of (n := s.toks) h₂'.1 h₂'.2) (fun f s₃ h₃ => ?_) fun _ _ e => e.2
    obtain ⟨hle₃, h₃⟩ := h₃
    have fin : EndH h₀ env.locals ro (Inv (i + 1)) { s with heap := h₂, toks := tk₁ } s₃ → s.toks ≤ s₃.toks → ∃ m, m < n + 1 - i ∧ ∃ h' tk m' i, s₃ = { s with heap := h', toks := tk } ∧ s.toks ≤ tk ∧ St i h' ∧ Fr h₀ env.locals h' m' ∧ Inv i h' m' tk ∧ i ≤ n ∧ m = n + 1 - i := by
      rintro ⟨h₃', tk₃, m₂, rfl, F₃, k₃, hJ₃⟩ hle₃
      refine ⟨n + 1 - (i + 1), by walk_at "om", h₃', tk₃, m₂, i + 1, rfl, hle₃, ?_, F₃, hJ₃, hlt, rfl⟩
      refine W.frame _ _ _ hst₂ fun b hb o e => ?_
      rcases hfw b hb with q | q | ⟨o₀, q⟩
      · obtain ⟨o', e', hi'⟩ := hlive _ _ hst₂ b q
        rw [e] at e'; cases e'
        exact k₃ b o e (.inl hi')
      · exact k₃ b o e (.inr q)
      · have := F₂.keep b o₀ q
        rw [e] at this; cases this
        exact F₃.keep b _ q
    cases f with
    | ret v => exact h₃
    | brk => exact h₃
    | cont => exact fin h₃ hle₃
    | next => exact fin h₃ hle₃
  · have hin : i = n := by walk_at "om"
    subst hin
    refine wpAny_with_toks (n := tk) (Nat.le_refl _) (W.done _ _ _ hst' fun h₁ tk₁ hk₁ hle => wpAny_execs_nil ?_)
    exact hR h₁ tk₁ m' (Nat.le_trans htk hle) (next h₁ hk₁) (up _ _ _ _ _ _ hJ (ki hst' hk₁) hle)
theorem For_H {iter : Expr} {pos : Pos} {m : Str → Option Value} (_F : Fr h₀ env.locals s.heap m)
    (h : wpAny (model prog w) A (eval iter env) (fun xv s₁ => wpAny (model prog w) A (pyIter xv) (fun it s₂ => TurnsH prog w A h₀ env target body Q E it s₂) E s₁) E s)
    (hs : ∀ x, foldedSetIterable iter env x = pure x := by intro _; rfl)
    (hE : PassesOwn (model prog w) A env E := by passes_own) :
    wpAny (model prog w) A (exec (.For target iter body [] pos) env) Q E s := by
  revert _F h hs hE
  walk_at "9aO"
  walk_at "9i"
  walk_at "9aF"
  clear_value prog w A E s env h₀ target
  walk_at "9f"
  intro body Q iter pos
  clear_value body Q iter pos
  walk_at "9g"
  intro m
  clear_value m
  walk_at "in"
  walk_at "9y"
  obtain ⟨I, fp, wr, n, P, Md, St, m, ro, hs₁, Inv, rfl, W, hLf, hwr, hfw, hlive, hhs, hst, F, T⟩ := h₂
  exact h_loop (R := fun r s' => match r with | .ok f => Q f s' | .error e => cameBackBy (model prog w) A env E e s') W hLf hwr hfw hlive hhs hst F
    ⟨T.init, T.up, fun i v m₁ h₁ tk₁ a b c d e => wpAny_mono (T.step i v m₁ h₁ tk₁ a b c d e) (fun _ _ x => wpAny_passesOwn hE x) hE, T.fin⟩
theorem h_list {l : Addr} {items : Array Value} {m : Str → Option Value} (ro : List Addr) (Inv : HInv) (hh : A.handled = none) (F : Fr h₀ env.locals s.heap m) (hls : s.heap.IsList l items) (hro : l ∈ ro ∨ ∃ o, h₀.get? l = some o)
    (T : TurnH prog w A h₀ env target body Q E s items.size (fun i v _ => items[i]? = some v) m ro s.heap Inv) :
    wpAny (model prog w) A (pyIter (.ref l)) (fun it s₂ => TurnsH prog w A h₀ env target body Q E it s₂) E s := by
  revert ro Inv hh F hls hro T
  revert prog w A E s env h₀ target body Q l items m
  walk_at "9i"
  walk_at "9aF"
  clear_value prog w A E s env h₀ target
  walk_at "9f"
  intro body Q l items
  clear_value body Q l items
  walk_at "9g"
  intro m
  clear_value m
  walk_at "in"
  obtain ⟨ol, hol, _⟩ := id hls
  have hls' : l < s.heap.objs.size := Heap.lt_size hol
  have hne : l ≠ s.heap.objs.size := Nat.ne_of_lt hls'
  refine wpAny_pyIter_list hls ?_
  have W := KTurns.ofWalks (target := target) (Walks.list (prog := prog) (w := w) hh s.heap.objs.size l hne items) (fun i v s Q E st hq => by
    obtain ⟨⟨o, ho, hc, hd⟩, _⟩ := st
    exact letGo_any ho hc hd (by decide) hq)
  refine ⟨_, _, _, _, _, _, _, m, ro, s.heap, Inv, rfl, W, ?_, ?_, ?_, ?_, ?_, ⟨⟨_, Heap.get?_push_size _ rfl, rfl, rfl⟩, hls.at fun o e => Heap.get?_push_of_some _ e⟩, F.push _, T.to (fun b o e _ => Heap.get?_push_of_some _ e) (Nat.le_refl _) rfl rfl rfl⟩
  · intro hm
    exact absurd F.ns.lt ((List.mem_singleton.mp hm) ▸ Nat.lt_irrefl _)
  · intro b hb
    rw [List.mem_singleton.mp hb]
    exact next_is_new F
  · intro b hb
    walk_at "9N"
    · exact .inl (.head _)
    · rw [List.mem_singleton.mp hb]; exact .inr hro
  · intro i h st b hb
    obtain ⟨⟨o, ho, hc, hd⟩, _⟩ := st
    rw [List.mem_singleton.mp hb]
    exact ⟨o, ho, isIt_of (by unfold isIter; rw [hc]; rfl) hd⟩
  · intro b hb
    rw [List.mem_singleton.mp hb]
    exact Heap.get?_none_of_le (Nat.le_refl _)
theorem h_range {r : Addr} {n : Nat} {t u v : Tok} {m : Str → Option Value} (Inv : HInv) (hh : A.handled = none) (F : Fr h₀ env.locals s.heap m) (hr : IsRange s.heap r 0 n 1 t u v) (hn : n ≤ 1000)
    (T : TurnH prog w A h₀ env target body Q E s n (fun i v _ => ∃ t, v = .int i t) m [] s.heap Inv) :
    wpAny (model prog w) A (pyIter (.ref r)) (fun it s₂ => TurnsH prog w A h₀ env target body Q E it s₂) E s := by
  revert Inv hh F hr hn T
  revert prog w A E s env h₀ target body Q r n t u v m
  walk_at "9c"
  intro prog w A E s env h₀ target body Q r n t u v m
  clear_value prog w A E s env h₀ target body Q r n t u v m
  walk_at "in"
  have hsz : Builtin.Range.rangeSize 0 n 1 = (n : Int) := by
    unfold Builtin.Range.rangeSize
    split <;> walk_at "om"
  have hsm : Builtin.Range.small 0 n 1 = true := small_one (by decide) (by decide) (by walk_at "om") (by walk_at "om")
  refine wpAny_pyIter_range hr hsm ?_
  have W0 : Walks prog w A s.heap.objs.size [s.heap.objs.size] [s.heap.objs.size] n (fun i v => i < n ∧ ∃ t, v = .int ((0 : Int) + i * 1) t)
      (fun i h => IsRangeIter h s.heap.objs.size ((0 : Int) + (i : Nat) * 1) ((n : Int) - (i : Nat)) 1) := (Walks.range hh _ 0 1 n).bound
  have W := KTurns.ofWalks (target := target) W0 (fun i v s Q E st hq => letGo_any st rfl rfl (by decide) hq)
  refine ⟨_, _, _, _, _, _, _, m, [], s.heap, Inv, rfl, W, ?_, ?_, ?_, ?_, ?_, ?_, F.push _, ?_⟩
  · intro hm
    exact absurd F.ns.lt ((List.mem_singleton.mp hm) ▸ Nat.lt_irrefl _)
  · intro b hb
    rw [List.mem_singleton.mp hb]
    exact next_is_new F
  · intro b hb
    exact .inl hb
  · intro i h st b hb
    rw [List.mem_singleton.mp hb]
    exact ⟨_, st, isIt_of rfl rfl⟩
  · intro b hb
    rw [List.mem_singleton.mp hb]
    exact Heap.get?_none_of_le (Nat.le_refl _)
  · show IsRangeIter _ _ _ _ _
    rw [hsz]
    simpa using Heap.get?_push_size _ rfl
  · have T' : TurnH prog w A h₀ env target body Q E s n (fun i v _ => i < n ∧ ∃ t, v = .int ((0 : Int) + i * 1) t) m [] s.heap Inv := ⟨T.init, T.up, fun i v m₁ h₁ tk₁ a b c d e => T.step i v m₁ h₁ tk₁ a (by obtain ⟨_, t, rfl⟩ := b; exact ⟨t, by simp⟩) c d e, T.fin⟩
    exact T'.to (fun b o e _ => Heap.get?_push_of_some _ e) (Nat.le_refl _) rfl rfl rfl
theorem h_enum {elts : List Expr} {k : Nat} {pos : Pos} {l : Addr} {items : Array Value} {m : Str → Option Value} (Inv : HInv) (hh : A.handled = none) (F : Fr h₀ env.locals s.heap m) (hl : h₀.IsList l items)
    (T : TurnH prog w A h₀ env (.Tuple elts k pos) body Q E s items.size (fun i v h => ∃ T vals, v = .ref T ∧ (∃ t x, items[i]? = some x ∧ vals = #[.int i t, x]) ∧ h.IsTuple T vals) m [] s.heap Inv) :
    wpAny (model prog w) A (call (.type "enumerate") [.ref l]) (fun xv s₁ => wpAny (model prog w) A (pyIter xv) (fun it s₂ => TurnsH prog w A h₀ env (.Tuple elts k pos) body Q E it s₂) E s₁) E s := by
  revert Inv hh F hl T
  revert prog w A E s env h₀ body Q elts k pos l items m
  walk_at "9i"
  intro prog w A E s env h₀ body
  clear_value prog w A E s env h₀ body
  walk_at "9f"
  intro Q elts k pos
  clear_value Q elts k pos
  walk_at "9e"
  intro l items
  clear_value l items
  walk_at "9g"
  intro m
  clear_value m
  walk_at "in"
  have hls : s.heap.IsList l items := hl.at fun o e => F.keep l o e
  obtain ⟨ol, hol, _⟩ := id hl
  have hlt : l < h₀.objs.size := Heap.lt_size hol
  have hls' : l < s.heap.objs.size := Heap.lt_size (F.keep _ _ hol)
  walk_at "9aS"
  refine call_enumerate_list hls fun h' hE hI hsz hk => ?_
  refine wpAny_pyIter_enum hE ?_
  have n1 : s.heap.objs.size + 1 ≠ s.heap.objs.size := Nat.succ_ne_self _
  have n2 : l ≠ s.heap.objs.size + 1 := Nat.ne_of_lt (Nat.lt_succ_of_lt hls')
  have n3 : l ≠ s.heap.objs.size := Nat.ne_of_lt hls'
  have fresh : ∀ b, s.heap.objs.size ≤ b → h₀.get? b = none := fun b hb => by
    cases e : h₀.get? b with
    | none => rfl
    | some o => exact absurd (Heap.lt_size (F.keep b o e)) (Nat.not_lt.mpr hb)
  refine ⟨_, _, [s.heap.objs.size + 1, s.heap.objs.size], _, _, _, _, m, [], s.heap, Inv, rfl, KTurns.ofWalksU (WalksT.enumerate hh (s.heap.objs.size + 1) s.heap.objs.size l n1 n2 n3 items).toU, ?_, ?_, ?_, ?_, ?_, ⟨⟨_, hE⟩, hI, hls.at fun o e => hk l o e⟩, F.keeps hk, T.to (fun b o e _ => hk b o e) (Nat.le_refl _) rfl rfl rfl⟩
  · intro hm
    simp only [mem_cons, not_mem_nil, or_false] at hm
    rcases hm with e | e
    · exact absurd hLs (by rw [e]; exact Nat.not_lt.mpr (Nat.le_succ _))
    · exact absurd hLs (by rw [e]; exact Nat.lt_irrefl _)
  · intro b hb
    walk_at "9C"
    rcases hb with rfl | rfl
    · exact fresh _ (Nat.le_succ _)
    · exact fresh _ (Nat.le_refl _)
  · intro b hb
    walk_at "9aP"
    rcases hb with rfl | rfl | rfl
    · exact .inl (.inl rfl)
    · exact .inl (.inr rfl)
    · exact .inr (.inr ⟨_, hol⟩)
  · intro i h st b hb
    obtain ⟨⟨old, he⟩, ⟨o, ho, hc, hd⟩, _⟩ := st
    walk_at "9C"
    rcases hb with rfl | rfl
    · exact ⟨_, he, isIt_of rfl rfl⟩
    · exact ⟨o, ho, isIt_of (by unfold isIter; rw [hc]; rfl) hd⟩
  · intro b hb
    walk_at "9C"
    rcases hb with rfl | rfl
    · exact Heap.get?_none_of_le (Nat.le_succ _)
    · exact Heap.get?_none_of_le (Nat.le_refl _)
end
noncomputable def restOf (g : Heap) (L : Addr) (adr : List Addr) (h : Heap) : List (Addr × Obj) := PyProof.Rows.ownOf g ((List.range h.objs.size).filter fun b => decide (b ≠ L ∧ b ∉ adr)) h
theorem restOf_mem {g h : Heap} {L : Addr} {adr : List Addr} {p : Addr × Obj} (hp : p ∈ restOf g L adr h) : p.1 ≠ L ∧ p.1 ∉ adr := by
  have := ownOf_sub p hp
  simp only [List.mem_filter, decide_eq_true_eq] at this
  exact this.2
theorem turn_open {g h : Heap} {L : Addr} {m : Str → Option Value} (X : List (Addr × Obj)) (F : Fr g L h m) (hX : ∀ p ∈ X, h.get? p.1 = some p.2 ∧ p.1 ≠ L ∧ g.get? p.1 = none) :
    ∃ own, News g L h (X ++ own) ∧ OwnOff own (X.map (·.1)) ∧ (∀ p ∈ own, h.get? p.1 = some p.2) ∧ (∀ b o, h.get? b = some o → b ≠ L → b ∉ X.map (·.1) → g.get? b = some o ∨ (b, o) ∈ own) := by
  refine ⟨restOf g L (X.map (·.1)) h, fun p hp => ?_, fun p hp b hb e => (restOf_mem hp).2 (e ▸ hb), fun p hp => ?_, fun b o e hL hb => ?_⟩
  · rcases List.mem_append.mp hp with hp | hp
    · exact hX p hp
    · exact news_ownOf (L := L) (fun q => by simp [List.mem_filter] at q) p hp
  · exact (news_ownOf (L := L) (fun q => by simp [List.mem_filter] at q) p hp).1
  · cases q : g.get? b with
    | some o' =>
      have := F.keep b o' q
      rw [e] at this
      exact .inl this.symm
    | none =>
      refine .inr (mem_ownOf ?_ q e)
      simp only [List.mem_filter, List.mem_range, decide_eq_true_eq]
      exact ⟨Heap.lt_size e, hL, hb⟩
theorem turn_kept {g h h' : Heap} {L : Addr} {m' : Str → Option Value} {adr : List Addr} {X' own : List (Addr × Obj)} (F : Fr g L h' m') (N : News g L h' (X' ++ own)) (a : ∀ b o, h.get? b = some o → b ≠ L → b ∉ adr → g.get? b = some o ∨ (b, o) ∈ own) : Kept (L :: adr) h h' := fun b o hb e => by
  rw [List.mem_cons, not_or] at hb
  rcases a b o e hb.1 hb.2 with q | q
  · exact F.keep b o q
  · exact (N _ (List.mem_append_right _ q)).1
def NF (o : Obj) : Prop := ∀ vs, o.data ≠ .fields vs
theorem dict_nf {prog : Program} {w : World} {K : Type} [DecidableEq K] {knd : KeyKind prog w K} {o : Obj} {kvs : List (K × Value)} (h : o.IsDictOf knd kvs) : NF o := fun vs q => by
  obtain ⟨es, ep, _, d, _⟩ := h
  rw [d] at q; cases q
section
variable {prog : Program} {w : World} {H H' : Addr → Obj → Prop} {W : WA} {D : WD} {N : Nat} {o : Op}
end
theorem KI.nf {hs h h' : Heap} (k : KI hs h h') {b : Addr} {o : Obj} (n : NF o) (e : h.get? b = some o) : h'.get? b = some o := k b o e (.inl (notIt n))
theorem list_nf {vs : Array Value} {n : Nat} : NF (listOf vs n) := fun _ q => by cases q
theorem KI.hz {hs h h' h₀ : Heap} {ex : List Addr} (k : KI hs h h') {b : Addr} {o : Obj} (n : NF o) (z : HZ h₀ h ex b o) : HZ h₀ h' ex b o := ⟨k.nf n z.1, z.2⟩
theorem HZ.exs {h₀ h : Heap} {ex ex' : List Addr} {b : Addr} {o : Obj} (z : HZ h₀ h ex b o) (k : b ∉ ex') : HZ h₀ h ex' b o := ⟨z.1, z.2.1, k⟩
theorem fresh_of {s g : Heap} {news : List (Addr × Obj)} {x : Addr} (kb : ∀ b o, b ∉ news.map (·.1) → s.get? b = some o → g.get? b = some o) (hx : g.get? x = none) (hn : x ∉ news.map (·.1)) : s.get? x = none := by
  cases e : s.get? x with
  | none => rfl
  | some o => rw [kb x o hn e] at hx; cases hx
theorem off_lt {d : Addr} {l : List (Addr × Obj)} (h : AllLt d l) : d ∉ l.map (·.1) := fun q => by
  walk_at "9W"
  exact absurd (allLt_mem h hp) (Nat.lt_irrefl _)
theorem there_of {s g h : Heap} {L : Addr} {m : Str → Option Value} {news : List (Addr × Obj)} (kb : ∀ b o, b ∉ news.map (·.1) → s.get? b = some o → g.get? b = some o) (hl : ∀ p ∈ news, s.get? p.1 = some p.2) (F : Fr g L h m) {news' : List (Addr × Obj)} (N : News g L h news') (sub : ∀ p ∈ news, p ∈ news') :
    ∀ b o, s.get? b = some o → h.get? b = some o := fun b o e => by
  by_cases q : b ∈ news.map (·.1)
  · walk_at "9W"
    have := hl p hp
    rw [e] at this
    rw [Option.some.inj this]
    exact (N p (sub p hp)).1
  · exact F.keep b o (kb b o q e)
theorem local_new {s g h : Heap} {L : Addr} {m : Str → Option Value} {news : List (Addr × Obj)} (kb : ∀ b o, b ∉ news.map (·.1) → s.get? b = some o → g.get? b = some o) (F : Fr g L h m) (N : News g L h news) : s.get? L = none := by
  cases e : s.get? L with
  | none => rfl
  | some o =>
    by_cases q : L ∈ news.map (·.1)
    · obtain ⟨p, hp, e'⟩ := List.mem_map.mp q
      exact absurd e' (N p hp).2.1
    · exact absurd (Nat.lt_of_lt_of_le (Heap.lt_size (kb _ _ q e)) F.above) (Nat.lt_irrefl _)
theorem locs6 {a b c d e f : Str} {m m₀ : Str → Option Value} (h : ∀ z, z ≠ a → z ≠ b → z ≠ c → z ≠ d → z ≠ e → z ≠ f → m z = m₀ z) : ∃ u : Str → Option Value, m = fun z => if z = a then u z else if z = b then u z else if z = c then u z else if z = d then u z else if z = e then u z else if z = f then u z else m₀ z :=
  ⟨m, funext fun z => by
    repeat (split; · rfl)
    exact h z (by assumption) (by assumption) (by assumption) (by assumption) (by assumption) (by assumption)⟩
theorem FrU.ki {fs : List Addr} {hs s h h' : Heap} (u : FrU fs s h) (k : KI hs h h') (hk : ∀ b o, s.get? b = some o → ∃ o', hs.get? b = some o') : FrU fs s h' := fun b hb o e => by
  obtain ⟨sl, q⟩ := u b hb o e
  exact ⟨sl, k b _ q (.inr (hk b o e))⟩
theorem Kept.ki {M : List Addr} {hs s h h' : Heap} (u : Kept M s h) (k : KI hs h h') (hk : ∀ b o, s.get? b = some o → ∃ o', hs.get? b = some o') : Kept M s h' := fun b o hb e => k b _ (u b o hb e) (.inr (hk b o e))
theorem Kept.app {M M' : List Addr} {h h' h'' : Heap} (x : Kept M h h') (y : Kept M' h' h'') (k : ∀ b o, b ∉ M → h.get? b = some o → b ∉ M') : Kept M h h'' := fun b o hb e => y b o (k b o hb e) (x b o hb e)
theorem toks_gen0 {M : Model} {A : Around} {α : Type} {t : Sem α} {Q : α → Shared → Prop} {E : Value → Shared → Prop} {h : Heap} {g : Array GenState} {d : Drawn} {X : Nat} {os : OsState}
    (k : ∀ tk, X ≤ tk → wpAny M A t Q E ⟨h, g, d, tk, os⟩) : wpAny M A t Q E ⟨h, g, d, X, os⟩ := k _ (Nat.le_refl _)
noncomputable def pureStrs : List Str := [Str.ofString "eq", Str.ofString "not", Str.ofString "null", Str.ofString "consp", Str.ofString "symbolp", Str.ofString "integerp", Str.ofString "stringp", Str.ofString "listp", Str.ofString "+", Str.ofString "-", Str.ofString "*", Str.ofString "1+", Str.ofString "1-", Str.ofString "=", Str.ofString "<", Str.ofString ">", Str.ofString "<=", Str.ofString ">=", Str.ofString "max", Str.ofString "min"]
theorem in_pure (o : Op) : pureStrs.any (· == o.name) = o.pure := by cases o <;> decide +kernel
def NL (o : Obj) : Prop := o.cls ≠ .type "list"
def Mu (o : Obj) : Prop := (∃ es ep, o.data = .dict es ep) ∨ o.cls = .type "list" ∧ NF o
theorem mu_list {vs : Array Value} {n : Nat} : Mu (listOf vs n) := .inr ⟨rfl, list_nf⟩
def KN (h h' : Heap) : Prop := ∀ b o, h.get? b = some o → ¬ Mu o → h'.get? b = some o
theorem KN.trans {h h' h'' : Heap} (x : KN h h') (y : KN h' h'') : KN h h'' := fun b o e n => y b o (x b o e n) n
theorem KN.of {M : List Addr} {h h' : Heap} (k : Kept M h h') (m : ∀ b ∈ M, ∃ o, h.get? b = some o ∧ Mu o) : KN h h' := fun b o e n => k b o (fun q => by
  obtain ⟨o', e', m'⟩ := m b q
  rw [e] at e'; cases e'
  exact n m') e
theorem it_nmu {o : Obj} (h : isIt o = true) : ¬ Mu o := by
  unfold isIt at h
  rw [Bool.and_eq_true] at h
  have h2 := h.2
  split at h2
  · rename_i vs e
    rintro (⟨es, ep, q⟩ | ⟨_, q⟩)
    · rw [e] at q; cases q
    · exact q vs e
  · cases h2
theorem tup_nmu {o : Obj} {vs : Array Value} {n : Nat} (hc : o.cls = .type "tuple") (hd : o.data = .seq vs n) : ¬ Mu o := by
  rintro (⟨es, ep, q⟩ | ⟨q, _⟩)
  · rw [hd] at q; cases q
  · rw [hc] at q; injection q with q; exact absurd q (by decide)
theorem ns_mu {h : Heap} {L : Addr} {m : Str → Option Value} (n : h.Ns L m) : ∃ o, h.get? L = some o ∧ Mu o := by
  obtain ⟨o, es, ep, e, d, _⟩ := n
  exact ⟨o, e, .inl ⟨es, ep, d⟩⟩
def LnZ (h₀ h : Heap) (v : Value) (x : Ln) : Prop := ∃ a t u, v = .ref a ∧ h.IsTuple a #[.str x.word t, .int x.opd u] ∧ h₀.get? a = none
theorem LnZ.obj {h₀ h : Heap} {v : Value} {x : Ln} (z : LnZ h₀ h v x) : ∃ a t u d n sl, v = .ref a ∧ h.get? a = some ⟨.type "tuple", d, .seq #[.str x.word t, .int x.opd u] n, sl⟩ ∧ h₀.get? a = none := by
  obtain ⟨a, t, u, rfl, ⟨⟨c, d, dt, sl⟩, ho, hc, n, hdt⟩, h0⟩ := z
  replace hc : c = .type "tuple" := hc
  replace hdt : dt = .seq #[.str x.word t, .int x.opd u] n := hdt
  subst hc hdt
  exact ⟨a, t, u, d, n, sl, rfl, ho, h0⟩
theorem LnZ.kn {h₀ h h' : Heap} {v : Value} {x : Ln} (k : KN h h') (z : LnZ h₀ h v x) : LnZ h₀ h' v x := by
  walk_at "9aD"
  exact ⟨a, t, u, rfl, ⟨o, k a o ho (tup_nmu hc hd), hc, n, hd⟩, h0⟩
section
variable {prog : Program} {w : World} {H H' : Addr → Obj → Prop} {W : WA} {D : WD} {N : Nat} {o : Op}
def NO (W : WA) (b : Addr) (o : Obj) : Prop := NF o ∧ (NL o ∨ b = W.rl)
theorem no_inst {W : WA} {b C d : Addr} : NO W b (instObj C d) := ⟨(fun _ q => by cases q), .inl (fun q => by cases q)⟩
theorem no_dict {W : WA} {b : Addr} {es : List DictEntry} {n : Nat} : NO W b (dictOf es n) := ⟨(fun _ q => by cases q), .inl (fun q => by injection q with q; exact absurd q (by decide))⟩
theorem no_is {K : Type} [DecidableEq K] {knd : KeyKind prog w K} {b : Addr} {o : Obj} {kvs : List (K × Value)} (h : o.IsDictOf knd kvs) : NO W b o := ⟨dict_nf h, .inl fun q => by
  obtain ⟨es, ep, ⟨c, _⟩, _⟩ := h
  rw [c] at q; injection q with q; exact absurd q (by decide)⟩
theorem FnD.mono3 {num : Int} (k : ∀ b x, NO W b x → Im H W b x → Im H' W b x) (h : FnD w H W D o num) : FnD w H' W D o num := h.gen (fun _ _ => k _ _ no_inst) fun _ _ _ => k _ _ no_dict
theorem WPd.mono3 (k : ∀ b x, NO W b x → H b x → H' b x) (h : WPd prog w H W D N) : WPd prog w H' W D N := by
  have k' : ∀ b x, NO W b x → Im H W b x → Im H' W b x := fun b x n z => ⟨k b x n z.1, z.2⟩
  walk_at "9Y"
  refine ⟨k' _ _ no_inst h1, k' _ _ no_dict h2, k' _ _ no_inst h3, k' _ _ no_dict h4, k' _ _ no_inst h5, k' _ _ no_dict h6, k' _ _ (no_is h12) h7, k _ _ (no_is h11) h8, k _ _ ⟨list_nf, .inr rfl⟩ h9, h10, h11, h12, h13, h14, h15, h16, h17, fun o ho => ?_⟩
  rcases h18 o ho with ⟨sa, sd, num, s1, s2, s3, s4, a, b, c, d⟩ | q
  · exact .inl ⟨sa, sd, num, s1, s2, s3, s4, a, k' _ _ no_inst b, k' _ _ no_dict c, d.mono3 k'⟩
  · exact .inr q
end
structure FC (s₀ : Heap) (outer : List Env) (L vl : Addr) (W : WA) : Prop where
  L0 : s₀.get? L = none
  vl0 : ∃ vs n, s₀.get? vl = some (listOf vs n)
  rl0 : ∃ vs n, s₀.get? W.rl = some (listOf vs n)
  nd0 : ∃ o, s₀.get? W.nd = some o
  vr : vl ≠ W.rl
  vn : vl ≠ W.nd
  fr : ∀ b ∈ frs outer, ∃ o es ep, s₀.get? b = some o ∧ o.data = .dict es ep
structure FS (prog : Program) (w : World) (h₀ s₀ : Heap) (outer : List Env) (L vl : Addr) (W : WA) (N V F : Nat) (fl pl : Addr) (fvs vals pvs : List Value) (fn vn pn : Nat) (D : WD) (f : List Ln) (cs : List At) (h : Heap) (tk : Nat) : Prop where
  fl9 : h.get? fl = some (listOf fvs.toArray fn)
  flN : s₀.get? fl = none
  flL : fl ≠ L
  flP : fl ≠ pl
  plN : s₀.get? pl = none
  plL : pl ≠ L
  pl9 : h.get? pl = some (listOf pvs.toArray pn)
  pv9 : StrsAre pvs pureStrs
  vl9 : h.get? vl = some (listOf vals.toArray vn)
  ln9 : All2 (LnZ h₀ h) fvs f
  av9 : AtsV vals cs
  ok9 : TokOK vals
  tk9 : ∀ j t, Value.int j t ∈ vals → t < tk
  lv9 : vals.length ≤ V
  lf9 : fvs.length ≤ F
  wp9 : WPd prog w (HZ h₀ h (L :: frs outer)) W D N
  fu9 : FrU (frs outer) s₀ h
  kp9 : Kept (vl :: W.nd :: W.rl :: frs outer) s₀ h
section
variable {prog : Program} {w : World} {h₀ s₀ h h' : Heap} {outer : List Env} {L vl : Addr} {W : WA} {N V F N' V' F' : Nat} {fl pl fl' : Addr} {fvs vals pvs fvs' vals' : List Value} {fn vn pn fn' vn' : Nat} {D D' : WD} {f f' : List Ln} {cs cs' : List At} {tk tk' : Nat} {m : Str → Option Value}
theorem FC.ne_fr (S : FC s₀ outer L vl W) {b : Addr} (hb : b ∈ frs outer) : b ≠ vl ∧ b ≠ L ∧ s₀.get? b ≠ none := by
  obtain ⟨o, es, ep, e, d⟩ := S.fr b hb
  refine ⟨?_, ?_, fun q => by rw [e] at q; cases q⟩
  · rintro rfl
    obtain ⟨vs, n, q⟩ := S.vl0
    rw [e] at q; cases q; cases d
  · rintro rfl
    rw [S.L0] at e; cases e
theorem FS.kn (S : FC s₀ outer L vl W) (B : FS prog w h₀ s₀ outer L vl W N V F fl pl fvs vals pvs fn vn pn D f cs h tk) (n : h.Ns L m) (k : Kept [L, fl, pl, vl] h h') : KN h h' := KN.of k fun b hb => by
  walk_at "9C"
  rcases hb with rfl | rfl | rfl | rfl
  · exact ns_mu n
  · exact ⟨_, B.fl9, mu_list⟩
  · exact ⟨_, B.pl9, mu_list⟩
  · exact ⟨_, B.vl9, mu_list⟩
theorem FS.walk (S : FC s₀ outer L vl W) (B : FS prog w h₀ s₀ outer L vl W N V F fl pl fvs vals pvs fn vn pn D f cs h tk) (k : Kept [L, fl, pl, vl] h h')
    (e1 : h'.get? fl' = some (listOf fvs'.toArray fn')) (n1 : s₀.get? fl' = none) (n2 : fl' ≠ L) (n3 : fl' ≠ pl) (e2 : h'.get? pl = some (listOf pvs.toArray pn)) (e3 : h'.get? vl = some (listOf vals'.toArray vn')) (ln : All2 (LnZ h₀ h') fvs' f') (av : AtsV vals' cs') (ok : TokOK vals')
    (tk9 : ∀ j t, Value.int j t ∈ vals' → t < tk') (lv : vals'.length ≤ V') (lf : fvs'.length ≤ F') (hN : N ≤ N') : FS prog w h₀ s₀ outer L vl W N' V' F' fl' pl fvs' vals' pvs fn' vn' pn D f' cs' h' tk' := by
  have h1 : ∀ b x, NO W b x → HZ h₀ h (L :: frs outer) b x → b ∉ [L, fl, pl, vl] := by
    intro b x n z
    walk_at "9O"
    have nl : ∀ {y : Addr} {vs : Array Value} {n' : Nat}, h.get? y = some (listOf vs n') → y ≠ W.rl → b ≠ y := fun {y vs n'} e ne q => by
      subst q
      have e' := z.1
      rw [e] at e'
      rcases n.2 with r | r
      · exact r (Option.some.inj e' ▸ rfl)
      · exact ne r
    obtain ⟨rv, rn, hr⟩ := S.rl0
    exact ⟨(fun q => z.2.2 (q ▸ .head _)), nl B.fl9 (fun q => by have := B.flN; rw [q, hr] at this; cases this), nl B.pl9 (fun q => by have := B.plN; rw [q, hr] at this; cases this), nl B.vl9 S.vr⟩
  have h2 : ∀ b, b ∈ frs outer → b ∉ [L, fl, pl, vl] := by
    intro b hb
    walk_at "9O"
    obtain ⟨q1, q2, q3⟩ := S.ne_fr hb
    exact ⟨q2, fun q => q3 (q ▸ B.flN), fun q => q3 (q ▸ B.plN), q1⟩
  have h3 : ∀ b o, b ∉ vl :: W.nd :: W.rl :: frs outer → s₀.get? b = some o → b ∉ [L, fl, pl, vl] := by
    intro b o hb e
    walk_at "9O"
    refine ⟨fun q => ?_, fun q => ?_, fun q => ?_, fun q => hb (q ▸ .head _)⟩
    · rw [q, S.L0] at e; cases e
    · rw [q, B.flN] at e; cases e
    · rw [q, B.plN] at e; cases e
  exact ⟨e1, n1, n2, n3, B.plN, B.plL, e2, B.pv9, e3, ln, av, ok, tk9, lv, lf, (B.wp9.mono3 fun b x n z => ⟨k b x (h1 b x n z) z.1, z.2⟩).le hN, B.fu9.trans fun b hb o e => ⟨o.slots, k b o (h2 b hb) e⟩, fun b o hb e => k b o (h3 b o hb e) (B.kp9 b o hb e)⟩
theorem FS.kn_told (S : FC s₀ outer L vl W) (B : FS prog w h₀ s₀ outer L vl W N V F fl pl fvs vals pvs fn vn pn D f cs h tk) (n : h.Ns L m) (k : Kept (W.nd :: W.rl :: L :: frs outer) h h') : KN h h' := KN.of k fun b hb => by
  walk_at "9N"
  · obtain ⟨es, ep, _, d, _⟩ := B.wp9.hk
    exact ⟨_, B.wp9.nd.1, .inl ⟨es, ep, d⟩⟩
  · walk_at "9N"
    · exact ⟨_, B.wp9.rl.1, mu_list⟩
    · walk_at "9N"
      · exact ns_mu n
      · obtain ⟨o, es, ep, e, d⟩ := S.fr b hb
        obtain ⟨sl, e'⟩ := B.fu9 b hb o e
        exact ⟨_, e', .inl ⟨es, ep, d⟩⟩
theorem FS.told (S : FC s₀ outer L vl W) (B : FS prog w h₀ s₀ outer L vl W N V F fl pl fvs vals pvs fn vn pn D f cs h tk) (n : h.Ns L m) (k : Kept (W.nd :: W.rl :: L :: frs outer) h h') (u : FrU (L :: frs outer) h h') (wp : WPd prog w (HZ h₀ h' (L :: frs outer)) W D' N') (ht : tk ≤ tk') :
    FS prog w h₀ s₀ outer L vl W N' V F fl pl fvs vals pvs fn vn pn D' f cs h' tk' := by
  have kn := B.kn_told S n k
  obtain ⟨rv, rn, hr⟩ := S.rl0
  obtain ⟨no, hnd⟩ := S.nd0
  have off : ∀ {y : Addr}, s₀.get? y = none → y ≠ L → y ∉ W.nd :: W.rl :: L :: frs outer := fun {y} e nL => by
    simp only [List.mem_cons, not_or]
    exact ⟨(fun q => by rw [q, hnd] at e; cases e), (fun q => by rw [q, hr] at e; cases e), nL, fun q => (S.ne_fr q).2.2 e⟩
  have offv : vl ∉ W.nd :: W.rl :: L :: frs outer := by
    simp only [List.mem_cons, not_or]
    exact ⟨S.vn, S.vr, (fun q => by obtain ⟨_, _, e⟩ := S.vl0; rw [q, S.L0] at e; cases e), fun q => (S.ne_fr q).1 rfl⟩
  refine ⟨k _ _ (off B.flN B.flL) B.fl9, B.flN, B.flL, B.flP, B.plN, B.plL, k _ _ (off B.plN B.plL) B.pl9, B.pv9, k _ _ offv B.vl9, B.ln9.mono fun _ _ z => z.kn kn, B.av9, B.ok9, fun j t q => Nat.lt_of_lt_of_le (B.tk9 j t q) ht, B.lv9, B.lf9, wp, B.fu9.trans fun b hb o e => u b (.tail _ hb) o e, fun b o hb e => k b o ?_ (B.kp9 b o hb e)⟩
  simp only [List.mem_cons, not_or] at hb ⊢
  exact ⟨hb.2.1, hb.2.2.1, (fun q => by rw [q, S.L0] at e; cases e), hb.2.2.2⟩
theorem FS.ki {hs : Heap} (B : FS prog w h₀ s₀ outer L vl W N V F fl pl fvs vals pvs fn vn pn D f cs h tk) (k : KI hs h h') (hk : ∀ b o, s₀.get? b = some o → ∃ o', hs.get? b = some o') (ht : tk ≤ tk') : FS prog w h₀ s₀ outer L vl W N V F fl pl fvs vals pvs fn vn pn D f cs h' tk' := by
  refine ⟨k.nf list_nf B.fl9, B.flN, B.flL, B.flP, B.plN, B.plL, k.nf list_nf B.pl9, B.pv9, k.nf list_nf B.vl9, B.ln9.mono fun _ _ z => ?_, B.av9, B.ok9, fun j t q => Nat.lt_of_lt_of_le (B.tk9 j t q) ht, B.lv9, B.lf9, B.wp9.mono3 fun b x n z => k.hz n.1 z, B.fu9.ki k hk, B.kp9.ki k hk⟩
  walk_at "9aD"
  exact ⟨a, t, u, rfl, ⟨o, k.nf (fun vs q => by rw [hd] at q; cases q) ho, hc, n, hd⟩, h0⟩
end
noncomputable def stAt (lns : List Ln) (cs : List At) (i : Nat) : List Ln × List At := (lns.take i).foldl step ([], cs)
theorem stAt_succ {lns : List Ln} {cs : List At} {i : Nat} {l : Ln} (h : lns[i]? = some l) : stAt lns cs (i + 1) = step (stAt lns cs i) l := by
  unfold stAt
  rw [List.take_add_one, h, List.foldl_append]; rfl
theorem stAt_all {lns : List Ln} {cs : List At} : stAt lns cs lns.length = foldL lns cs := by unfold stAt foldL; rw [List.take_length]
section
variable {prog : Program} {w : World} {A : Around} {E : Value → Shared → Prop} {s : Shared}
theorem item_tupR {value slice : Expr} {l : Addr} {items : Array Value} {k : Nat} {u : Tok} {x : Value} {Q : Value → Shared → Prop} (ht : s.heap.IsTuple l items) (hfit : items.size ≤ 1000) (hx : items[k]? = some x) (h : Q x s)
    (hs : subscripted slice false (.ref l) (.int (k : Int) u) = operate [.ref l, .int (k : Int) u] (getItem (.ref l) (.int (k : Int) u))) :
    wpAny (model prog w) A (subscriptTail value slice (.ref l) (.int (k : Int) u)) Q E s := by
  have hlt := (Array.getElem?_eq_some_iff.mp hx).1
  exact tail_any (Heap.IsTuple.typeIs ht) slot_tuple_getitem.lookup (getItem_tuple ht (by omega) (by omega) (seqIndex_of (Int.natCast_nonneg k) (by omega)) (by simpa using hx) h) hs
end
theorem Kept.drop {M M' : List Addr} {h h' : Heap} (k : Kept M h h') (f : ∀ b ∈ M, b ∈ M' ∨ ∃ o, h.get? b = some o ∧ h'.get? b = some o) : Kept M' h h' := fun b o hb e => by
  by_cases q : b ∈ M
  · rcases f b q with z | ⟨o', e1, e2⟩
    · exact absurd z hb
    · rw [e] at e1; cases e1; exact e2
  · exact k b o q e
theorem ns_fru {fs : List Addr} {h h' : Heap} {L : Addr} {m : Str → Option Value} (u : FrU fs h h') (hL : L ∈ fs) (n : h.Ns L m) : h'.Ns L m := by
  obtain ⟨o, es, ep, e, d, r⟩ := n
  obtain ⟨sl, e'⟩ := u L hL o e
  exact ⟨_, es, ep, e', d, r⟩
theorem fr_fru {M fs : List Addr} {g h h' : Heap} {L : Addr} {m : Str → Option Value} (F : Fr g L h m) (k : Kept M h h') (u : FrU fs h h') (hL : L ∈ fs) (hM : ∀ b ∈ M, g.get? b = none) : Fr g L h' m :=
  ⟨ns_fru u hL F.ns, fun b o e => k b o (fun q => by rw [hM b q] at e; cases e) (F.keep b o e), F.above⟩
theorem plain_get (o : Op) : (refsFrom 22 45).toArray[o.idx]? = some (.ref (22 + o.idx)) := by cases o <;> rfl
theorem Ln.plain {l : Ln} (h : (l.word == Str.ofString "plain") = true) : ∃ o, l = .p o := by
  cases l with
  | c k => exact absurd (show (Str.ofString "const" == Str.ofString "plain") = true from h) (by decide)
  | v k => exact absurd (show (Str.ofString "varref" == Str.ofString "plain") = true from h) (by decide)
  | p o => exact ⟨o, rfl⟩
theorem slice_last1 {vs : List Value} {x : Value} : (slicePick (vs.toArray.push x) none (some (-1)) none).toList = vs := by
  rw [show (some (-1 : Int)) = some (-((1 : Nat) : Int)) from rfl, slicePick_butLast _ 1 (Nat.le_refl _)]
  simp
theorem slice_last2 {vs : List Value} {x : Value} : (slicePick (vs ++ [x]).toArray none (some (-1)) none).toList = vs := by
  rw [← List.push_toArray]; exact slice_last1
theorem slice_upto1 {vs : List Value} {x : Value} {m : Nat} (h : m ≤ vs.length) : (slicePick (vs.toArray.push x) none (some ((((vs.toArray.push x).size : Nat) : Int) - 1 - (m : Nat))) none).toList = vs.take (vs.length - m) := by
  rw [show ((((vs.toArray.push x).size : Nat) : Int) - 1 - (m : Nat)) = ((vs.length - m : Nat) : Int) by simp; omega, slicePick_upto']
  simp [List.take_append_of_le_length (Nat.sub_le vs.length m)]
theorem slice_upto2 {vs : List Value} {x : Value} {m : Nat} (h : m ≤ vs.length) : (slicePick (vs ++ [x]).toArray none (some ((((vs ++ [x]).toArray.size : Nat) : Int) - 1 - (m : Nat))) none).toList = vs.take (vs.length - m) := by
  rw [← List.push_toArray]; exact slice_upto1 h
theorem behind_bd {f : List Ln} {cs as : List At} {m B : Nat} (h : behind f cs m = some as) (b : Bd B cs) : Bd B as := fun i hi => b i (by
  rcases behind_some h with ⟨k, a, -, -, hk, rfl⟩ | ⟨k, j, a, c, -, -, hk, hj, rfl⟩
  · rw [List.mem_singleton.mp hi]; exact List.mem_of_getElem? hk
  · rcases List.mem_cons.mp hi with q | q
    · rw [q]; exact List.mem_of_getElem? hk
    · rw [List.mem_singleton.mp q]; exact List.mem_of_getElem? hj)
theorem behind_len {f : List Ln} {cs as : List At} {m : Nat} (h : behind f cs m = some as) : m ≤ f.length := by
  rcases behind_some h with ⟨k, a, hm, hf, -, -⟩ | ⟨k, j, a, c, hm, hf, -, -, -⟩
  · have := congrArg List.length hf
    simp at this; omega
  · have := congrArg List.length hf
    simp at this; omega
section
variable {prog : Program} {w : World} {h₀ s₀ h h' : Heap} {outer : List Env} {L vl : Addr} {W : WA} {N V F : Nat} {fl pl : Addr} {fvs vals pvs : List Value} {fn vn pn : Nat} {D : WD} {f : List Ln} {cs : List At} {tk tk' : Nat}
theorem FS.fresh (S : FC s₀ outer L vl W) (B : FS prog w h₀ s₀ outer L vl W N V F fl pl fvs vals pvs fn vn pn D f cs h tk) {x : Addr} (e : h.get? x = none) : s₀.get? x = none := by
  cases q : s₀.get? x with
  | none => rfl
  | some o =>
    by_cases hx : x ∈ vl :: W.nd :: W.rl :: frs outer
    · rcases List.mem_cons.mp hx with rfl | hx
      · rw [B.vl9] at e; cases e
      · rcases List.mem_cons.mp hx with rfl | hx
        · rw [B.wp9.nd.1] at e; cases e
        · rcases List.mem_cons.mp hx with rfl | hx
          · rw [B.wp9.rl.1] at e; cases e
          · obtain ⟨sl, e'⟩ := B.fu9 x hx o q
            rw [e'] at e; cases e
    · rw [B.kp9 x o hx q] at e; cases e
end
theorem turn_new {g h : Heap} {L x : Addr} {adr : List Addr} {own : List (Addr × Obj)} (all : ∀ b o, h.get? b = some o → b ≠ L → b ∉ adr → g.get? b = some o ∨ (b, o) ∈ own) (hg : g.get? x = none) (hL : x ≠ L) (ha : x ∉ adr) (hl : AllLt x own) : h.get? x = none := by
  cases e : h.get? x with
  | none => rfl
  | some o =>
    rcases all x o e hL ha with q | q
    · rw [hg] at q; cases q
    · exact absurd (allLt_mem hl q) (Nat.lt_irrefl _)
theorem tok_for {vals xs : List Value} {v : Value} {tk tk' tk₁ : Nat} (ok : TokOK vals) (hs : ∀ x ∈ xs, x ∈ vals) (h1 : ∀ j t, Value.int j t ∈ vals → t < tk₁) (h2 : tk₁ ≤ tk) (h3 : 1 ≤ tk) (h : TokNew tk tk' xs v) : TokFor vals v := by
  rcases h with h | h | ⟨i, t, rfl, a, b⟩
  · exact ok.for (hs _ h)
  · exact fun i t e => absurd e (h i t)
  · intro i' t' e
    injection e with e1 e2
    subst e1 e2
    exact ⟨fun q => by rw [q] at a; exact absurd (Nat.le_trans h3 a) (by decide), fun j hj => absurd (h1 j t hj) (Nat.not_lt.mpr (Nat.le_trans h2 a))⟩
theorem tok_lt {vals xs : List Value} {v : Value} {tk tk' tk₁ tk₂ : Nat} (hs : ∀ x ∈ xs, x ∈ vals) (h1 : ∀ j t, Value.int j t ∈ vals → t < tk₁) (h2 : tk₁ ≤ tk₂) (h3 : tk' ≤ tk₂) (h : TokNew tk tk' xs v) : ∀ j t, Value.int j t ∈ vals ++ [v] → t < tk₂ := fun j t hj => by
  rcases List.mem_append.mp hj with q | q
  · exact Nat.lt_of_lt_of_le (h1 j t q) h2
  · have q := List.mem_singleton.mp q
    subst q
    rcases h with h | h | ⟨i, t', e, a, b⟩
    · exact Nat.lt_of_lt_of_le (h1 j t (hs _ h)) h2
    · exact absurd rfl (h j t)
    · injection e with e1 e2
      subst e1 e2
      exact Nat.lt_of_lt_of_le b h3
theorem All2.takeLast {α β : Type} {R : α → β → Prop} {as : List α} {bs : List β} (h : All2 R as bs) (m : Nat) : All2 R (as.take (as.length - m)) (bs.take (bs.length - m)) := by
  rw [← h.length]; exact h.take _
theorem ne_new {h₀ h : Heap} {L a x : Addr} {o : Obj} {news : List (Addr × Obj)} (N : News h₀ L h news) (hm : (a, o) ∈ news) (e : h.get? x = none) : a ≠ x := fun q => by
  have := (N _ hm).1
  rw [show (a, o).1 = x from q, e] at this; cases this
def HF (s₀ h : Heap) (fd L : Addr) (b : Addr) (o : Obj) : Prop := h.get? b = some o ∧ s₀.get? b = none ∧ b ≠ fd ∧ b ≠ L
noncomputable def known : List Op := [.add, .sub, .mul, .inc, .dec, .lt, .le, .eq, .max, .min, .intp]
structure PW (prog : Program) (w : World) (s₀ h : Heap) (L : Addr) (W : WA) (D : WD) (i : Nat) : Prop where
  wa : Im (HF s₀ h W.fd L) W W.wa (instObj 737 W.wd)
  wd : Im (HF s₀ h W.fd L) W W.wd (worldD w.params W.t3 W.t4 W.t5 W.t6 W.t7 W.t8 W.t9 W.t10 W.ob W.ce W.va W.ba)
  ob : Im (HF s₀ h W.fd L) W W.ob (instObj 569 W.od)
  od : Im (HF s₀ h W.fd L) W W.od (obD w.params W.t1 W.t2 W.rl W.nd)
  ce : Im (HF s₀ h W.fd L) W W.ce (instObj 492 W.cd)
  cd : Im (HF s₀ h W.fd L) W W.cd (cellsD w.params W.t11 W.t12 W.fd W.pd)
  fd : h.get? W.fd = some D.fo ∧ s₀.get? W.fd = none
  nd : HF s₀ h W.fd L W.nd D.no
  rl : HF s₀ h W.fd L W.rl (listOf D.rows.toArray D.n)
  ne : W.nd ≠ W.rl
  hk : D.no.IsDictOf (PySem.strKind prog w) D.kvs
  hf : D.fo.IsDictOf (PySem.intKind prog w) D.fvs
  nm : (W.nd == sysModules) = false
  fm : (W.fd == sysModules) = false
  lr : D.rows.length = 2 + i
  ky : D.kvs.map (·.1) = Str.ofString "nil" :: Str.ofString "t" :: (known.take i).map Op.name
  fk : D.fvs.map (·.1) = (List.range i).map fun j => ((2 + j : Nat) : Int)
  sy : ∀ j o, j < i → known[j]? = some o → ∃ sa sd s1 s2 s3 s4, SymD w (HF s₀ h W.fd L) W D o sa sd ((2 + j : Nat) : Int) s1 s2 s3 s4
theorem valueAt_none {α : Type} [DecidableEq α] {kvs : List (α × Value)} {k : α} (h : k ∉ kvs.map (·.1)) : valueAt kvs k = none := by
  unfold valueAt
  rw [Option.map_eq_none_iff, List.find?_eq_none]
  intro x hx e
  exact h (List.mem_map.mpr ⟨x, hx, by simpa using e⟩)
section
variable {prog : Program} {w : World} {s₀ h h' : Heap} {L : Addr} {W : WA} {D : WD} {i : Nat} {o : Op}
theorem PW.fv (B : PW prog w s₀ h L W D i) {k : Nat} (hk : 2 + i ≤ k) : valueAt D.fvs (k : Int) = none := valueAt_none (by
  rw [B.fk]
  intro q
  obtain ⟨j, hj, e⟩ := List.mem_map.mp q
  have := List.mem_range.mp hj
  omega)
theorem known_new {i : Nat} {o : Op} (h : known[i]? = some o) : o.name ∉ Str.ofString "nil" :: Str.ofString "t" :: (known.take i).map Op.name := by
  have hi : i < 11 := (List.getElem?_eq_some_iff.mp h).1
  have q : ∀ i : Fin 11, (known[i.1]'i.2).name ∉ Str.ofString "nil" :: Str.ofString "t" :: (known.take i.1).map Op.name := by decide +kernel
  rw [← (List.getElem?_eq_some_iff.mp h).2]; exact q ⟨i, hi⟩
theorem SymD.ext {H H' : Addr → Obj → Prop} {D' : WD} {o : Op} {sa sd : Addr} {num : Int} {s1 s2 s3 s4 : Tok} (k : ∀ b x, NO W b x → Im H W b x → Im H' W b x) (ek : valueAt D'.kvs o.name = valueAt D.kvs o.name) (ef : valueAt D'.fvs num = valueAt D.fvs num) (S : SymD w H W D o sa sd num s1 s2 s3 s4) : SymD w H' W D' o sa sd num s1 s2 s3 s4 := by
  obtain ⟨a, b, c, d⟩ := S
  refine ⟨ek.trans a, k _ _ no_inst b, k _ _ no_dict c, ?_⟩
  have d' := d.mono3 k
  unfold FnD at d' ⊢
  rw [ef]; exact d'
theorem PW.step {no' fo' : Obj} {n' : Nat} {x d ua ud dd : Addr} {s1 s2 s3 s4 u1 u2 u3 u4 u5 u6 u7 u8 u9 : Tok} {nu : Int} (B : PW prog w s₀ h L W D i) (ho : known[i]? = some o) (hdd : o.deed = some dd) (k : Kept [W.nd, W.rl, W.fd, L] h h')
    (hnd : h'.get? W.nd = some no') (hrl : h'.get? W.rl = some (listOf (D.rows ++ [Value.ref x]).toArray n')) (hfd : h'.get? W.fd = some fo') (hno : no'.IsDictOf (PySem.strKind prog w) (stored D.kvs o.name (.ref x))) (hfo : fo'.IsDictOf (PySem.intKind prog w) (stored D.fvs ((2 + i : Nat) : Int) (.ref ua)))
    (hx : h'.get? x = some (instObj 118 d)) (hd : h'.get? d = some (symD w.params s1 s2 s3 s4 ((2 + i : Nat) : Int) o.name)) (hu : h'.get? ua = some (instObj 166 ud)) (hud : h'.get? ud = some (subrD w.params u1 u2 u3 u4 u5 u6 u7 u8 u9 nu o.name dd))
    (nw : ∀ b ∈ [x, d, ua, ud], s₀.get? b = none ∧ b ≠ W.nd ∧ b ≠ W.rl ∧ b ≠ W.fd ∧ b ≠ L) :
    PW prog w s₀ h' L W ⟨no', fo', D.kvs ++ [(o.name, .ref x)], D.fvs ++ [(((2 + i : Nat) : Int), .ref ua)], D.rows ++ [.ref x], n'⟩ (i + 1) := by
  revert B ho hdd k hnd hrl hfd hno hfo hx hd hu hud nw
  revert prog w s₀ h h' L W D i o no' fo' n' x d ua ud dd s1 s2 s3 s4 u1 u2 u3 u4 u5 u6 u7 u8 u9 nu
  walk_at "9c"
  intro prog w s₀ h h' L W D i o no' fo' n' x d ua
  clear_value prog w s₀ h h' L W D i o no' fo' n' x d ua
  walk_at "9c"
  intro ud dd s1 s2 s3 s4 u1 u2 u3 u4 u5 u6 u7 u8 u9 nu
  clear_value ud dd s1 s2 s3 s4 u1 u2 u3 u4 u5 u6 u7 u8 u9 nu
  walk_at "in"
  have hv : valueAt D.kvs o.name = none := valueAt_none (by rw [B.ky]; exact known_new ho)
  have hf := B.fv (Nat.le_refl (2 + i))
  rw [stored_new hv] at hno
  rw [stored_new hf] at hfo
  have k' : ∀ b x, NO W b x → Im (HF s₀ h W.fd L) W b x → Im (HF s₀ h' W.fd L) W b x := fun b x _ z => ⟨⟨k b x (by
    walk_at "9O"
    exact ⟨z.2.1, z.2.2, z.1.2.2.1, z.1.2.2.2⟩) z.1.1, z.1.2⟩, z.2⟩
  have k2 : ∀ b x, Im (HF s₀ h W.fd L) W b x → Im (HF s₀ h' W.fd L) W b x := fun b x z => ⟨⟨k b x (by
    walk_at "9O"
    exact ⟨z.2.1, z.2.2, z.1.2.2.1, z.1.2.2.2⟩) z.1.1, z.1.2⟩, z.2⟩
  have nx := nw x (by simp)
  have nd := nw d (by simp)
  have nu' := nw ua (by simp)
  have nud := nw ud (by simp)
  refine ⟨k2 _ _ B.wa, k2 _ _ B.wd, k2 _ _ B.ob, k2 _ _ B.od, k2 _ _ B.ce, k2 _ _ B.cd, ⟨hfd, B.fd.2⟩, ⟨hnd, B.nd.2⟩, ⟨hrl, B.rl.2⟩, B.ne, hno, hfo, B.nm, B.fm, ?_, ?_, ?_, ?_⟩
  · show (D.rows ++ [Value.ref x]).length = 2 + (i + 1)
    rw [List.length_append, B.lr]; rfl
  · show (D.kvs ++ [(o.name, Value.ref x)]).map (·.1) = _
    rw [List.map_append, B.ky, List.take_add_one, ho]
    simp
  · show (D.fvs ++ [(((2 + i : Nat) : Int), Value.ref ua)]).map (·.1) = _
    rw [List.map_append, B.fk, List.range_succ, List.map_append]; rfl
  · intro j o' hj hjo
    rcases Nat.lt_succ_iff_lt_or_eq.mp hj with q | rfl
    · obtain ⟨sa, sd, t1, t2, t3, t4, S⟩ := B.sy j o' q hjo
      refine ⟨sa, sd, t1, t2, t3, t4, S.ext k' ?_ ?_⟩
      · walk_at "9aC"
        rw [valueAt_app, S.1]; rfl
      · show valueAt (D.fvs ++ [(((2 + i : Nat) : Int), Value.ref ua)]) _ = _
        rw [valueAt_app, if_neg (by omega), Option.or_none]
    · rw [ho] at hjo
      cases hjo
      refine ⟨x, d, s1, s2, s3, s4, ?_, ⟨⟨hx, nx.1, nx.2.2.2⟩, nx.2.1, nx.2.2.1⟩, ⟨⟨hd, nd.1, nd.2.2.2⟩, nd.2.1, nd.2.2.1⟩, ?_⟩
      · show valueAt (D.kvs ++ [(o.name, Value.ref x)]) o.name = _
        rw [valueAt_app, hv, if_pos rfl]; rfl
      · unfold FnD
        rw [hdd]
        refine ⟨ua, ud, nu, u1, u2, u3, u4, u5, u6, u7, u8, u9, ?_, ⟨⟨hu, nu'.1, nu'.2.2.2⟩, nu'.2.1, nu'.2.2.1⟩, ⟨⟨hud, nud.1, nud.2.2.2⟩, nud.2.1, nud.2.2.1⟩⟩
        show valueAt (D.fvs ++ [(((2 + j : Nat) : Int), Value.ref ua)]) _ = _
        rw [valueAt_app, hf, if_pos rfl]; rfl
theorem PW.fin {no' fo' : Obj} {n' : Nat} {x d ua ud dd : Addr} {s1 s2 s3 s4 u1 u2 u3 u4 u5 u6 u7 u8 u9 : Tok} {nu : Int} (B : PW prog w s₀ h L W D 11) (k : Kept [W.nd, W.rl, W.fd, L] h h')
    (hnd : h'.get? W.nd = some no') (hrl : h'.get? W.rl = some (listOf (D.rows ++ [Value.ref x]).toArray n')) (hfd : h'.get? W.fd = some fo') (hno : no'.IsDictOf (PySem.strKind prog w) (stored D.kvs (Str.ofString ">") (.ref x))) (hfo : fo'.IsDictOf (PySem.intKind prog w) (stored D.fvs ((13 : Nat) : Int) (.ref ua)))
    (hx : h'.get? x = some (instObj 118 d)) (hd : h'.get? d = some (symD w.params s1 s2 s3 s4 ((13 : Nat) : Int) (Str.ofString ">"))) (hu : h'.get? ua = some (instObj 166 ud)) (hud : h'.get? ud = some (subrD w.params u1 u2 u3 u4 u5 u6 u7 u8 u9 nu (Str.ofString "<") dd))
    (nw : ∀ b ∈ [x, d, ua, ud], s₀.get? b = none ∧ b ≠ W.nd ∧ b ≠ W.rl ∧ b ≠ W.fd ∧ b ≠ L) :
    WPd prog w (fun b x => h'.get? b = some x ∧ s₀.get? b = none) W ⟨no', fo', D.kvs ++ [(Str.ofString ">", .ref x)], D.fvs ++ [(((13 : Nat) : Int), .ref ua)], D.rows ++ [.ref x], n'⟩ 14 := by
  revert B k hnd hrl hfd hno hfo hx hd hu hud nw
  revert prog w s₀ h h' L W D no' fo' n' x d ua ud dd s1 s2 s3 s4 u1 u2 u3 u4 u5 u6 u7 u8 u9 nu
  walk_at "9c"
  intro prog w s₀ h h' L W D no' fo' n' x d ua ud dd
  clear_value prog w s₀ h h' L W D no' fo' n' x d ua ud dd
  walk_at "9i"
  intro s1 s2 s3 s4 u1 u2 u3 u4
  clear_value s1 s2 s3 s4 u1 u2 u3 u4
  walk_at "9f"
  intro u5 u6 u7 u8
  clear_value u5 u6 u7 u8
  walk_at "9e"
  intro u9 nu
  clear_value u9 nu
  walk_at "in"
  have hv : valueAt D.kvs (Str.ofString ">") = none := valueAt_none (by rw [B.ky]; decide +kernel)
  have hf : valueAt D.fvs ((13 : Nat) : Int) = none := B.fv (k := 13) (by decide)
  rw [stored_new hv] at hno
  rw [stored_new hf] at hfo
  have k' : ∀ b x, NO W b x → Im (HF s₀ h W.fd L) W b x → Im (fun b x => h'.get? b = some x ∧ s₀.get? b = none) W b x := fun b x _ z => ⟨⟨k b x (by
    walk_at "9O"
    exact ⟨z.2.1, z.2.2, z.1.2.2.1, z.1.2.2.2⟩) z.1.1, z.1.2.1⟩, z.2⟩
  have k2 : ∀ b x, Im (HF s₀ h W.fd L) W b x → Im (fun b x => h'.get? b = some x ∧ s₀.get? b = none) W b x := fun b x z => ⟨⟨k b x (by
    walk_at "9O"
    exact ⟨z.2.1, z.2.2, z.1.2.2.1, z.1.2.2.2⟩) z.1.1, z.1.2.1⟩, z.2⟩
  have nx := nw x (by simp)
  have nd := nw d (by simp)
  have nu' := nw ua (by simp)
  have nud := nw ud (by simp)
  have mem : ∀ o : Op, o.deed.isSome = true → ∃ j, j < 11 ∧ known[j]? = some o := fun o h => by
    cases o <;> first | (cases h; done) | skip
    · exact ⟨1, by decide, rfl⟩
    · exact ⟨0, by decide, rfl⟩
    · exact ⟨2, by decide, rfl⟩
    · exact ⟨5, by decide, rfl⟩
    · exact ⟨6, by decide, rfl⟩
    · exact ⟨7, by decide, rfl⟩
    · exact ⟨8, by decide, rfl⟩
    · exact ⟨9, by decide, rfl⟩
    · exact ⟨3, by decide, rfl⟩
    · exact ⟨4, by decide, rfl⟩
    · exact ⟨10, by decide, rfl⟩
  refine ⟨k2 _ _ B.wa, k2 _ _ B.wd, k2 _ _ B.ob, k2 _ _ B.od, k2 _ _ B.ce, k2 _ _ B.cd, ⟨⟨hfd, B.fd.2⟩, B.nd.2.2.1.symm, B.rl.2.2.1.symm⟩, ⟨hnd, B.nd.2.1⟩, ⟨hrl, B.rl.2.1⟩, B.ne, hno, hfo, B.nm, B.fm, ?_, ?_, ?_, ?_⟩
  · show (D.rows ++ [Value.ref x]).length ≤ 14
    rw [List.length_append, B.lr]; exact Nat.le_of_ble_eq_true rfl
  · show (D.kvs ++ [(Str.ofString ">", Value.ref x)]).length ≤ 14
    have := congrArg List.length B.ky
    rw [List.length_map] at this
    rw [List.length_append, this]; exact Nat.le_of_ble_eq_true rfl
  · intro j hj
    show valueAt (D.fvs ++ [(((13 : Nat) : Int), Value.ref ua)]) _ = none
    have hj' : 14 ≤ j := by
      have : (D.rows ++ [Value.ref x]).length ≤ j := hj
      rw [List.length_append, B.lr] at this; exact this
    rw [valueAt_app, B.fv (by omega), if_neg (by omega)]; rfl
  · intro o hp
    cases ho : o.deed with
    | some dd' =>
      obtain ⟨j, hj, hjo⟩ := mem o (by rw [ho]; rfl)
      obtain ⟨sa, sd, t1, t2, t3, t4, S⟩ := B.sy j o hj hjo
      refine .inl ⟨sa, sd, _, t1, t2, t3, t4, S.ext k' ?_ ?_⟩
      · show valueAt (D.kvs ++ [(Str.ofString ">", Value.ref x)]) o.name = _
        rw [valueAt_app, S.1]; rfl
      · show valueAt (D.fvs ++ [(((13 : Nat) : Int), Value.ref ua)]) _ = _
        rw [valueAt_app, if_neg (by omega), Option.or_none]
    | none =>
      by_cases hg : o = .gt
      · subst hg
        refine .inl ⟨x, d, _, s1, s2, s3, s4, ?_, ⟨⟨hx, nx.1⟩, nx.2.1, nx.2.2.1⟩, ⟨⟨hd, nd.1⟩, nd.2.1, nd.2.2.1⟩, ?_⟩
        · show valueAt (D.kvs ++ [(Str.ofString ">", Value.ref x)]) (Str.ofString ">") = _
          rw [valueAt_app, hv, if_pos rfl]; rfl
        · unfold FnD
          rw [ho]
          refine .inr ⟨_, dd, ⟨ua, ud, nu, u1, u2, u3, u4, u5, u6, u7, u8, u9, ?_, ⟨⟨hu, nu'.1⟩, nu'.2.1, nu'.2.2.1⟩, ⟨⟨hud, nud.1⟩, nud.2.1, nud.2.2.1⟩⟩, by decide +kernel⟩
          show valueAt (D.fvs ++ [(((13 : Nat) : Int), Value.ref ua)]) _ = _
          rw [valueAt_app, hf, if_pos rfl]; rfl
      · refine .inr ⟨rfl, ?_⟩
        show valueAt (D.kvs ++ [(Str.ofString ">", Value.ref x)]) o.name = none
        have h1 : o.name ∉ D.kvs.map (·.1) ∧ Str.ofString ">" ≠ o.name := by
          rw [B.ky]
          cases o <;> first | (cases ho; done) | (exact absurd rfl hg) | (cases hp; done) | (constructor <;> decide +kernel)
        rw [valueAt_app, valueAt_none h1.1, if_neg h1.2]; rfl
end
def KnV (s₀ h : Heap) (v : Value) (o : Op) : Prop := ∃ a t dd, v = .ref a ∧ h.IsTuple a #[.str o.name t, .ref dd] ∧ o.deed = some dd ∧ s₀.get? a = none
theorem PW.ki {prog : Program} {w : World} {s₀ h h' hs : Heap} {L : Addr} {W : WA} {D : WD} {i : Nat} (B : PW prog w s₀ h L W D i) (k : KI hs h h') : PW prog w s₀ h' L W D i := by
  have k0 : ∀ b x, NO W b x → HF s₀ h W.fd L b x → HF s₀ h' W.fd L b x := fun b x n z => ⟨k.nf n.1 z.1, z.2⟩
  have k' : ∀ b x, NO W b x → Im (HF s₀ h W.fd L) W b x → Im (HF s₀ h' W.fd L) W b x := fun b x n z => ⟨k0 b x n z.1, z.2⟩
  exact ⟨k' _ _ no_inst B.wa, k' _ _ no_dict B.wd, k' _ _ no_inst B.ob, k' _ _ no_dict B.od, k' _ _ no_inst B.ce, k' _ _ no_dict B.cd, ⟨k.nf (no_is B.hf (W := W) (b := W.fd)).1 B.fd.1, B.fd.2⟩, k0 _ _ (no_is B.hk) B.nd, k0 _ _ ⟨list_nf, .inr rfl⟩ B.rl, B.ne, B.hk, B.hf, B.nm, B.fm, B.lr, B.ky, B.fk, fun j o hj hjo => by
    obtain ⟨sa, sd, t1, t2, t3, t4, S⟩ := B.sy j o hj hjo
    exact ⟨sa, sd, t1, t2, t3, t4, S.ext k' rfl rfl⟩⟩
theorem KnV.ki {s₀ h h' hs : Heap} {v : Value} {o : Op} (k : KI hs h h') : KnV s₀ h v o → KnV s₀ h' v o := fun z => by obtain ⟨a, t, dd, e, ⟨x, hx, hc, n, hd⟩, ho⟩ := z; exact ⟨a, t, dd, e, ⟨x, k.nf (fun _ q => by rw [hd] at q; cases q) hx, hc, n, hd⟩, ho⟩
theorem KnV.kn {s₀ h h' : Heap} {v : Value} {o : Op} (k : KN h h') : KnV s₀ h v o → KnV s₀ h' v o := fun z => by obtain ⟨a, t, dd, e, ⟨x, hx, hc, n, hd⟩, ho⟩ := z; exact ⟨a, t, dd, e, ⟨x, k a x hx (tup_nmu hc hd), hc, n, hd⟩, ho⟩
theorem KnV.obj {s₀ h : Heap} {v : Value} {o : Op} (z : KnV s₀ h v o) : ∃ a t dd d n sl, v = .ref a ∧ h.get? a = some ⟨.type "tuple", d, .seq #[.str o.name t, .ref dd] n, sl⟩ ∧ o.deed = some dd ∧ s₀.get? a = none := by
  revert z
  revert s₀ h v o
  walk_at "9f"
  intro s₀ h v o
  clear_value s₀ h v o
  walk_at "in"
  obtain ⟨a, t, dd, rfl, ⟨⟨c, d, dt, sl⟩, ho, hc, n, hdt⟩, h0⟩ := z
  replace hc : c = .type "tuple" := hc
  replace hdt : dt = .seq #[.str o.name t, .ref dd] n := hdt
  subst hc hdt
  exact ⟨a, t, dd, d, n, sl, rfl, ho, h0⟩
theorem tup {s₀ h : Heap} {a : Addr} {t : Tok} {o : Op} {dd : Addr} {n : Nat} {d : Option Addr} {sl : Array (Option Value)} (hd : o.deed = some dd) (e : h.get? a = some { cls := .type "tuple", dict := d, data := .seq #[.str o.name t, .ref dd] n, slots := sl }) (hs : s₀.get? a = none) : KnV s₀ h (.ref a) o := ⟨_, _, _, rfl, ⟨_, e, rfl, _, rfl⟩, hd, hs⟩
section
variable {prog : Program} {w : World} {K : Type} [DecidableEq K] {knd : KeyKind prog w K} {h : Heap} {a b : Addr} {o : Obj} {es : List DictEntry} {n : Nat} {kvs : List (K × Value)}
theorem dict_len_ne (e : h.get? a = some (dictOf es n)) (e' : h.get? b = some o) (i : o.IsDictOf knd kvs) (hl : es.length ≠ kvs.length) : a ≠ b := ne_obj e e' fun q => by
  obtain ⟨es', ep, _, d, _, p, _⟩ := i
  rw [← q] at d
  injection d with d1 d2
  apply hl
  rw [← p.length, ← d1]
theorem dict_find_ne (e : h.get? a = some (dictOf es n)) (e' : h.get? b = some o) (i : o.IsDictOf knd kvs) (k : K) (hl : (es.find? fun e => knd.is k e.key).map (·.val) ≠ valueAt kvs k) : a ≠ b := ne_obj e e' fun q => by
  obtain ⟨es', ep, _, d, _, p, _⟩ := i
  rw [← q] at d
  injection d with d1 d2
  apply hl
  rw [← p.find, ← d1]
end
theorem two_dicts_ne {prog : Program} {w : World} {K K' : Type} [DecidableEq K] [DecidableEq K'] {knd : KeyKind prog w K} {knd' : KeyKind prog w K'} {h : Heap} {a b : Addr} {o o' : Obj} {kvs : List (K × Value)} {kvs' : List (K' × Value)} (e : h.get? a = some o) (e' : h.get? b = some o') (i : o.IsDictOf knd kvs) (i' : o'.IsDictOf knd' kvs') (hl : kvs.length ≠ kvs'.length) : a ≠ b := ne_obj e e' fun q => by
  obtain ⟨es, ep, _, d, _, p, _⟩ := i
  obtain ⟨es', ep', _, d', _, p', _⟩ := i'
  rw [← q, d] at d'
  injection d' with d1 d2
  apply hl
  rw [← p.length, ← p'.length, d1]
theorem ob_ne {prog : Program} {w : World} {h : Heap} {a b rl nd : Addr} {o : Obj} {t1 t2 : Tok} (e : h.get? a = some (obD w.params t1 t2 rl nd)) (e' : h.get? b = some o) (i : o.IsDictOf (PySem.strKind prog w) [(Str.ofString "nil", .ref 124), (Str.ofString "t", .ref 127)]) : a ≠ b :=
  dict_find_ne e e' i (Str.ofString "nil") (by
    simp [PySem.strKind, Value.isStrOf, valueAt]
    rintro x (⟨q, -⟩ | ⟨-, q, -⟩) <;> exact absurd q (by decide +kernel))
theorem ce_ne {prog : Program} {w : World} {h : Heap} {a b rl nd : Addr} {o : Obj} {t1 t2 : Tok} (e : h.get? a = some (cellsD w.params t1 t2 rl nd)) (e' : h.get? b = some o) (i : o.IsDictOf (PySem.strKind prog w) [(Str.ofString "nil", .ref 124), (Str.ofString "t", .ref 127)]) : a ≠ b :=
  dict_find_ne e e' i (Str.ofString "nil") (by
    simp [PySem.strKind, Value.isStrOf, valueAt]
    rintro x (⟨q, -⟩ | ⟨-, q, -⟩) <;> exact absurd q (by decide +kernel))
theorem led_get {h₀ h : Heap} {L a : Addr} {o : Obj} {news : List (Addr × Obj)} (N : News h₀ L h news) (hm : (a, o) ∈ news) : h.get? a = some o := (N _ hm).1
theorem led_new {h₀ h : Heap} {L a : Addr} {o : Obj} {news : List (Addr × Obj)} (N : News h₀ L h news) (hm : (a, o) ∈ news) : h₀.get? a = none := (N _ hm).2.2
def Runs (lns : List Ln) (cs : List At) (have_ : Nat) : Prop := (∃ o as, run lns cs [] = some (.fails o as)) ∨ ∃ st, run lns cs [] = some (.leaves st) ∧ st.length = have_
theorem Runs.nil {cs : List At} : Runs [] cs 0 := .inr ⟨[], rfl, rfl⟩
theorem Runs.ext {lns : List Ln} {cs cs' : List At} {n : Nat} (R : Runs lns cs n) (x : Ext cs cs') (ok : ∀ l ∈ lns, l.ok cs) : Runs lns cs' n := by
  unfold Runs
  rw [run_ext x ok]
  exact R
theorem Runs.const {lns : List Ln} {cs : List At} {n k : Nat} (R : Runs lns cs n) (hk : k < cs.length) : Runs (lns ++ [.c k]) cs (n + 1) := by
  rcases R with ⟨o, as, e⟩ | ⟨st, e, hl⟩
  · exact .inl ⟨o, as, by rw [run_app, e]; rfl⟩
  · refine .inr ⟨st ++ [.at (cs[k])], ?_, by simp [hl]⟩
    rw [run_app, e]
    show run [.c k] cs st = _
    rw [run, List.getElem?_eq_getElem hk]; rfl
theorem Runs.var {lns : List Ln} {cs : List At} {n k : Nat} (R : Runs lns cs n) : Runs (lns ++ [.v k]) cs (n + 1) := by
  rcases R with ⟨o, as, e⟩ | ⟨st, e, hl⟩
  · exact .inl ⟨o, as, by rw [run_app, e]; rfl⟩
  · refine .inr ⟨st ++ [.var k], ?_, by simp [hl]⟩
    rw [run_app, e]; rfl
theorem Runs.plain {lns : List Ln} {cs : List At} {n : Nat} {o : Op} (R : Runs lns cs n) (hm : o.many ≤ n) : Runs (lns ++ [.p o]) cs (n + 1 - o.many) := by
  rcases R with ⟨o', as, e⟩ | ⟨st, e, hl⟩
  · exact .inl ⟨o', as, by rw [run_app, e]; rfl⟩
  · subst hl
    cases hc : called o (st.drop (st.length - o.many)) with
    | none =>
      refine .inl ⟨o, st.drop (st.length - o.many), ?_⟩
      rw [run_app, e]
      show run [.p o] cs st = _
      rw [run, if_pos hm, hc]
    | some x =>
      refine .inr ⟨st.take (st.length - o.many) ++ [x], ?_, ?_⟩
      · rw [run_app, e]
        show run [.p o] cs st = _
        rw [run, if_pos hm, hc]; rfl
      · rw [List.length_append, List.length_take]
        simp only [List.length_cons, List.length_nil]
        walk_at "om"
noncomputable def atoms8 : List At := [.int 0, .int 1, .int 2, .int 7, .int (-3), .int 5, .nil, .t]
noncomputable def ops2 : List Op := [.sub, .add, .mul, .lt, .le, .eq, .max, .min, .gt, .eqv, .cons]
noncomputable def ops1 : List Op := [.inc, .dec, .intp, .consp, .not, .car]
theorem atoms8_bits : ∀ a ∈ atoms8, ∀ i, a = .int i → Bits i 3 := by
  intro a ha i e
  simp only [atoms8, mem_cons, not_mem_nil, or_false] at ha
  rcases ha with rfl | rfl | rfl | rfl | rfl | rfl | rfl | rfl <;> cases e <;> decide +kernel
theorem plain_first (o : Op) : ∀ j, j < o.idx → plainRows[j]? ≠ some (o.name, (o.many : Int)) := by
  have h : (List.range o.idx).all (fun j => decide (plainRows[j]? ≠ some (o.name, (o.many : Int)))) = true := by cases o <;> decide +kernel
  intro j hj
  have := List.all_eq_true.mp h j (List.mem_range.mpr hj)
  simpa using this
theorem plain_strOk : ∀ r ∈ plainRows, PyData.strOk r.1 = true := by
  have h : plainRows.all (fun r => PyData.strOk r.1) = true := by decide +kernel
  exact fun r hr => List.all_eq_true.mp h r hr
theorem op_strOk (o : Op) : PyData.strOk o.name = true := plain_strOk _ (List.mem_of_getElem? o.row)
theorem ops2_many : ∀ o ∈ ops2, o.many = 2 := by decide +kernel
theorem ops1_many : ∀ o ∈ ops1, o.many = 1 := by decide +kernel
section
variable {prog : Program} {w : World} {A : Around} {E : Value → Shared → Prop} {s : Shared} {g : Heap} {L : Addr} {m : Str → Option Value} {news : List (Addr × Obj)}
theorem range_K {n : Int} {t : Tok} {Q : Value → Shared → Prop} (F : Fr g L s.heap m) (N : News g L s.heap news)
    (h : ∀ h' r t u v, IsRange h' r 0 n 1 t u v → Fr g L h' m → News g L h' news → (∀ b o, s.heap.get? b = some o → h'.get? b = some o) → Q (.ref r) { s with heap := h', toks := s.toks + 1 + 1 }) :
    wpAny (model prog w) A (call (.type "range") [.int n t]) Q E s :=
  call_range_1 (h _ _ _ _ _ (Heap.get?_push_size _ rfl) (F.push _) (fun p hp => ⟨Heap.get?_push_of_some _ (N p hp).1, (N p hp).2⟩) (fun b o e => Heap.get?_push_of_some _ e))
end
theorem LnZ.ki {h₀ h h' hs : Heap} {v : Value} {x : Ln} (k : KI hs h h') (z : LnZ h₀ h v x) : LnZ h₀ h' v x := by
  walk_at "9aD"
  exact ⟨a, t, u, rfl, ⟨o, k.nf (fun vs q => by rw [hd] at q; cases q) ho, hc, n, hd⟩, h0⟩
structure LS (h₀ s₀ : Heap) (pa cl vl : Addr) (N : Nat) (fl : Addr) (fvs vals : List Value) (fn vn pn : Nat) (lns : List Ln) (cs : List At) (hv : Nat) (at9 seed : Int) (t1 t2 : Tok) (h : Heap) (tk : Nat) : Prop where
  fl9 : h.get? fl = some (listOf fvs.toArray fn)
  vl9 : h.get? vl = some (listOf vals.toArray vn)
  pa9 : h.get? pa = some (listOf #[.ref cl, .int at9 t1, .int seed t2] pn)
  ln9 : All2 (LnZ h₀ h) fvs lns
  lk9 : ∀ l ∈ lns, l.ok cs
  av9 : AtsV vals cs
  ok9 : TokOK vals
  tk9 : ∀ j t, Value.int j t ∈ vals → t < tk
  t19 : 1 ≤ tk
  bd9 : Bd 3 cs
  lf9 : lns.length = N
  lv9 : vals.length ≤ N
  rn9 : Runs lns cs hv
  a09 : 0 ≤ at9
  a19 : at9 ≤ 1 + 4 * (N : Int)
  s09 : 0 ≤ seed
  s19 : seed ≤ 100000
  kp9 : Kept [pa, vl] s₀ h
theorem LS.ki {h₀ s₀ hs h h' : Heap} {pa cl vl fl : Addr} {N : Nat} {fvs vals : List Value} {fn vn pn : Nat} {lns : List Ln} {cs : List At} {hv : Nat} {at9 seed : Int} {t1 t2 : Tok} {tk tk' : Nat} (B : LS h₀ s₀ pa cl vl N fl fvs vals fn vn pn lns cs hv at9 seed t1 t2 h tk)
    (k : KI hs h h') (hk : ∀ b o, s₀.get? b = some o → ∃ o', hs.get? b = some o') (ht : tk ≤ tk') : LS h₀ s₀ pa cl vl N fl fvs vals fn vn pn lns cs hv at9 seed t1 t2 h' tk' :=
  ⟨k.nf list_nf B.fl9, k.nf list_nf B.vl9, k.nf list_nf B.pa9, B.ln9.mono fun _ _ z => z.ki k, B.lk9, B.av9, B.ok9, fun j t q => Nat.lt_of_lt_of_le (B.tk9 j t q) ht, Nat.le_trans B.t19 ht, B.bd9, B.lf9, B.lv9, B.rn9, B.a09, B.a19, B.s09, B.s19, B.kp9.ki k hk⟩
inductive LnX (h₀ s₀ : Heap) (pa cl vl ca fl : Addr) (i : Nat) (h : Heap) (m : Str → Option Value) (tk : Nat) : Prop
  | mk (fvs vals : List Value) (fn vn pn : Nat) (lns : List Ln) (cs : List At) (hv : Nat) (th : Tok) (at9 seed : Int) (t1 t2 : Tok) (hm : ∀ z, z ≠ Str.ofString "step" → z ≠ Str.ofString "sort" → z ≠ Str.ofString "value" → z ≠ Str.ofString "name" → m z = if z = Str.ofString "have" then some (.int hv th) else if z = Str.ofString "found" then some (.ref fl) else if z = Str.ofString "constants" then some (.ref ca) else if z = Str.ofString "pot" then some (.ref pa) else none) (B : LS h₀ s₀ pa cl vl i fl fvs vals fn vn pn lns cs hv at9 seed t1 t2 h tk) : LnX h₀ s₀ pa cl vl ca fl i h m tk
noncomputable def LnI (h₀ s₀ : Heap) (pa cl vl ca fl : Addr) : HInv := LnX h₀ s₀ pa cl vl ca fl
theorem LnI.up {h₀ s₀ hs : Heap} {pa cl vl ca fl : Addr} (hk : ∀ b o, s₀.get? b = some o → ∃ o', hs.get? b = some o') : ∀ i h h' m tk tk', LnI h₀ s₀ pa cl vl ca fl i h m tk → KI hs h h' → tk ≤ tk' → LnI h₀ s₀ pa cl vl ca fl i h' m tk' := by
  intro i h h' m tk tk' z k ht
  obtain ⟨fvs, vals, fn, vn, pn, lns, cs, hv, th, at9, seed, t1, t2, hm, B⟩ := z
  exact ⟨fvs, vals, fn, vn, pn, lns, cs, hv, th, at9, seed, t1, t2, hm, B.ki k hk ht⟩
theorem locs4 {a b c d : Str} {m m₀ : Str → Option Value} (h : ∀ z, z ≠ a → z ≠ b → z ≠ c → z ≠ d → m z = m₀ z) : ∃ u : Str → Option Value, m = fun z => if z = a then u z else if z = b then u z else if z = c then u z else if z = d then u z else m₀ z :=
  ⟨m, funext fun z => by
    repeat (split; · rfl)
    exact h z (by assumption) (by assumption) (by assumption) (by assumption)⟩
theorem ln_start {prog : Program} {w : World} {A : Around} {E : Value → Shared → Prop} {s : Shared} {env : Env} {g h₀ s₀ : Heap} {target : Expr} {body : List Stmt} {Q : Flow → Shared → Prop} {pa cl vl ca fl r : Addr} {n : Nat} {t u v : Tok} {m : Str → Option Value} (hh : A.handled = none) (F : Fr g env.locals s.heap m) (hr : IsRange s.heap r 0 n 1 t u v) (hn : n ≤ 1000) (hfl : s.heap.get? fl = some (listOf #[] 0))
    (T : TurnH prog w A g env target body Q E s n (fun i v _ => ∃ t, v = .int i t) m [] s.heap (LnI h₀ s₀ pa cl vl ca fl)) : wpAny (model prog w) A (pyIter (.ref r)) (fun it s₂ => TurnsH prog w A g env target body Q E it s₂) E s :=
  h_range _ hh F hr hn T
theorem pick_int {i : Int} {u : Tok} {PL PH : Nat → Prop} (ha : At.int i ∈ atoms8) (p : ∀ n, PL n → n ≤ u) (q : ∀ n, PH n → n > u) : ∃ a, AtV (.int i u) a ∧ a ∈ atoms8 ∧ ∀ (lo hi : Nat) (xs : List Value), PL lo → PH hi → TokNew lo hi xs (.int i u) :=
  ⟨_, .int, ha, fun lo hi xs a b => .inr (.inr ⟨_, _, rfl, p lo a, q hi b⟩)⟩
theorem pick8 {h₀ h : Heap} {L l : Addr} {news : List (Addr × Obj)} {n r : Nat} {u0 u1 u2 u3 u4 u5 : Tok} {vs : List Value} (N : News h₀ L h news) (hm : (l, listOf vs.toArray n) ∈ news) (e : vs = [.int 0 u0, .int 1 u1, .int 2 u2, .int 7 u3, .int (-3) u4, .int 5 u5, .ref 124, .ref 127]) (hr : (r : Int) < 8) :
    ∃ x a, vs[r]? = some x ∧ AtV x a ∧ a ∈ atoms8 ∧ ∀ (lo hi : Nat) (xs : List Value), (lo ≤ u0 ∧ lo ≤ u1 ∧ lo ≤ u2 ∧ lo ≤ u3 ∧ lo ≤ u4 ∧ lo ≤ u5) → (hi > u0 ∧ hi > u1 ∧ hi > u2 ∧ hi > u3 ∧ hi > u4 ∧ hi > u5) → TokNew lo hi xs x := by
  have H : ∀ x ∈ vs, ∃ a, AtV x a ∧ a ∈ atoms8 ∧ ∀ (lo hi : Nat) (xs : List Value), (lo ≤ u0 ∧ lo ≤ u1 ∧ lo ≤ u2 ∧ lo ≤ u3 ∧ lo ≤ u4 ∧ lo ≤ u5) → (hi > u0 ∧ hi > u1 ∧ hi > u2 ∧ hi > u3 ∧ hi > u4 ∧ hi > u5) → TokNew lo hi xs x := by
    rw [e]
    refine List.forall_mem_cons.2 ⟨pick_int (by decide) (fun _ p => p.1) (fun _ p => p.1), List.forall_mem_cons.2 ⟨pick_int (by decide) (fun _ p => p.2.1) (fun _ p => p.2.1), List.forall_mem_cons.2 ⟨pick_int (by decide) (fun _ p => p.2.2.1) (fun _ p => p.2.2.1),
      List.forall_mem_cons.2 ⟨pick_int (by decide) (fun _ p => p.2.2.2.1) (fun _ p => p.2.2.2.1), List.forall_mem_cons.2 ⟨pick_int (by decide) (fun _ p => p.2.2.2.2.1) (fun _ p => p.2.2.2.2.1), List.forall_mem_cons.2 ⟨pick_int (by decide) (fun _ p => p.2.2.2.2.2) (fun _ p => p.2.2.2.2.2), List.forall_mem_cons.2 ⟨?_, List.forall_mem_cons.2 ⟨?_, fun _ q => (nomatch q)⟩⟩⟩⟩⟩⟩⟩⟩
    · exact ⟨.nil, .nil, by decide, fun lo hi xs p q => .inr (.inl fun _ _ z => nomatch z)⟩
    · exact ⟨.t, .t, by decide, fun lo hi xs p q => .inr (.inl fun _ _ z => nomatch z)⟩
  have hl : r < vs.length := by rw [e]; show r < 8; omega
  obtain ⟨a, z⟩ := H _ (List.getElem_mem hl)
  exact ⟨vs[r], a, List.getElem?_eq_getElem hl, z⟩
def NamesAre (vs : List Value) (os : List Op) : Prop := All2 (fun (v : Value) (o : Op) => ∃ t, v = .str o.name t) vs os
theorem NamesAre.get {vs : List Value} {os : List Op} {r : Nat} (H : NamesAre vs os) (h : r < os.length) : ∃ o t, o ∈ os ∧ vs[r]? = some (.str o.name t) := by
  have hl : r < vs.length := by rw [All2.length H]; exact h
  obtain ⟨o, e, t, q⟩ := All2.at H r hl
  exact ⟨o, t, List.mem_of_getElem? e, q ▸ List.getElem?_eq_getElem hl⟩
theorem pickS {h₀ h : Heap} {L l : Addr} {news : List (Addr × Obj)} {n r : Nat} {vs : List Value} {os : List Op} (N : News h₀ L h news) (hm : (l, listOf vs.toArray n) ∈ news) (H : NamesAre vs os) (hr : r < os.length) : ∃ o t, o ∈ os ∧ vs[r]? = some (.str o.name t) := H.get hr
theorem pickG {r : Nat} (hr : (r : Int) < 11) : ∃ o ∈ ops2, [Str.ofString "-", Str.ofString "+", Str.ofString "*", Str.ofString "<", Str.ofString "<=", Str.ofString "=", Str.ofString "max", Str.ofString "min", Str.ofString ">", Str.ofString "eq", Str.ofString "cons"].getD ((r : Int)).toNat Str.empty = o.name := by
  have h : r < ops2.length := by show r < 11; omega
  refine ⟨ops2[r], List.getElem_mem h, ?_⟩
  rw [Int.toNat_natCast]
  show (ops2.map Op.name).getD r Str.empty = _
  rw [List.getD_eq_getElem?_getD, List.getElem?_map, List.getElem?_eq_getElem h]; rfl
theorem LS.next {h₀ s₀ h h' : Heap} {pa cl vl fl L : Addr} {N : Nat} {fvs vals vals' : List Value} {fn vn pn fn' vn' pn' : Nat} {lns : List Ln} {cs cs' : List At} {hv hv' : Nat} {at9 seed at9' seed' : Int} {t1 t2 t1' t2' : Tok} {tk tk' : Nat} {v : Value} {x : Ln} (B : LS h₀ s₀ pa cl vl N fl fvs vals fn vn pn lns cs hv at9 seed t1 t2 h tk)
    (hL : s₀.get? L = none) (hf : s₀.get? fl = none) (hn : ∃ o, h.get? L = some o ∧ Mu o) (k : Kept [L, fl, vl, pa] h h') (e1 : h'.get? fl = some (listOf (fvs.toArray.push v) fn')) (e2 : h'.get? vl = some (listOf vals'.toArray vn')) (e3 : h'.get? pa = some (listOf #[.ref cl, .int at9' t1', .int seed' t2'] pn'))
    (hz : LnZ h₀ h' v x) (hx : x.ok cs') (xt : Ext cs cs') (av : AtsV vals' cs') (ok : TokOK vals') (tl : ∀ j t, Value.int j t ∈ vals' → t < tk') (ht : tk ≤ tk') (bd : Bd 3 cs') (lv : vals'.length ≤ N + 1) (rn : Runs (lns ++ [x]) cs' hv') (a0 : 0 ≤ at9') (a1 : at9' ≤ at9 + 4) (b0 : 0 ≤ seed') (b1 : seed' ≤ 100000) :
    KN h h' ∧ LS h₀ s₀ pa cl vl (N + 1) fl (fvs ++ [v]) vals' fn' vn' pn' (lns ++ [x]) cs' hv' at9' seed' t1' t2' h' tk' := by
  have kn : KN h h' := KN.of k fun b hb => by
    walk_at "9C"
    rcases hb with rfl | rfl | rfl | rfl
    · exact hn
    · exact ⟨_, B.fl9, mu_list⟩
    · exact ⟨_, B.vl9, mu_list⟩
    · exact ⟨_, B.pa9, mu_list⟩
  rw [List.push_toArray] at e1
  refine ⟨kn, e1, e2, e3, (B.ln9.mono fun _ _ z => z.kn kn).snoc hz, fun l hl => ?_, av, ok, tl, Nat.le_trans B.t19 ht, bd, ?_, lv, rn, a0, ?_, b0, b1, B.kp9.app k fun b o hb e q => ?_⟩
  · rcases List.mem_append.mp hl with q | q
    · exact Ln.ok_ext xt (B.lk9 l q)
    · rw [List.mem_singleton.mp q]; exact hx
  · rw [List.length_append, B.lf9]; rfl
  · have := B.a19
    omega
  · simp only [mem_cons, not_mem_nil, or_false] at q hb
    rcases q with rfl | rfl | rfl | rfl
    · rw [hL] at e; cases e
    · rw [hf] at e; cases e
    · exact hb (.inr rfl)
    · exact hb (.inl rfl)
theorem lookup_ite {z a : Str} {v : Value} {l : List (Str × Value)} : List.lookup z ((a, v) :: l) = if z = a then some v else List.lookup z l := by
  by_cases h : z = a
  · subst h; simp [List.lookup]
  · rw [if_neg h, List.lookup, beq_false_of_ne h]
theorem int_pred {n : Nat} {t : Tok} (h : 1 ≤ n) : Value.int ((n : Int) - 1) t = Value.int ((n - 1 : Nat) : Int) t := by
  congr 1; omega
noncomputable def TrV (h : Heap) : Value → Tr → Prop
  | v, .at a => AtV v a
  | v, .var n => ∃ a t u, v = .ref a ∧ h.IsTuple a #[.str (Str.ofString "variable") t, .int (n : Int) u]
  | v, .f1 o x => ∃ a t b y, v = .ref a ∧ h.IsTuple a #[.str o.name t, .ref b] ∧ h.IsTuple b #[y] ∧ TrV h y x
  | v, .f2 o x y => ∃ a t b z z', v = .ref a ∧ h.IsTuple a #[.str o.name t, .ref b] ∧ h.IsTuple b #[z, z'] ∧ TrV h z x ∧ TrV h z' y
theorem tup_kn {h h' : Heap} (k : KN h h') {a : Addr} {vs : Array Value} (t : h.IsTuple a vs) : h'.IsTuple a vs := by
  obtain ⟨o, ho, hc, n, hd⟩ := t
  exact ⟨o, k a o ho (tup_nmu hc hd), hc, n, hd⟩
theorem TrV.kn {h h' : Heap} (k : KN h h') {x : Tr} : ∀ {v : Value}, TrV h v x → TrV h' v x := by
  induction x with
  | «at» a => exact fun z => z
  | var n => intro v z; obtain ⟨a, t, u, e, q⟩ := z; exact ⟨a, t, u, e, tup_kn k q⟩
  | f1 o x ih => intro v z; obtain ⟨a, t, b, y, e, q, r, z⟩ := z; exact ⟨a, t, b, y, e, tup_kn k q, tup_kn k r, ih z⟩
  | f2 o x y ih ih' => intro v z; obtain ⟨a, t, b, y, y', e, q, r, z, z'⟩ := z; exact ⟨a, t, b, y, y', e, tup_kn k q, tup_kn k r, ih z, ih' z'⟩
theorem kn_of_kept {h h' : Heap} (k : Kept [] h h') : KN h h' := fun _ _ e _ => k.get e
theorem TrV.kinds {h : Heap} {v : Value} {x : Tr} (z : TrV h v x) : (∃ i t, v = .int i t ∧ x = .at (.int i)) ∨ x.isInt = false ∧ (v = .ref 124 ∨ v = .ref 127 ∨ ∃ a vs, v = .ref a ∧ h.IsTuple a vs) := by
  revert z
  revert h v x
  walk_at "9e"
  intro h v
  clear_value h v
  walk_at "9g"
  intro x
  clear_value x
  walk_at "in"
  cases x with
  | «at» a =>
    cases z with
    | int => exact .inl ⟨_, _, rfl, rfl⟩
    | nil => exact .inr ⟨rfl, .inl rfl⟩
    | t => exact .inr ⟨rfl, .inr (.inl rfl)⟩
  | var n => obtain ⟨a, t, u, e, q⟩ := z; exact .inr ⟨rfl, .inr (.inr ⟨a, _, e, q⟩)⟩
  | f1 o x => obtain ⟨a, t, b, y, e, q, r, z⟩ := z; exact .inr ⟨rfl, .inr (.inr ⟨a, _, e, q⟩)⟩
  | f2 o x y => obtain ⟨a, t, b, y, y', e, q, r, z⟩ := z; exact .inr ⟨rfl, .inr (.inr ⟨a, _, e, q⟩)⟩
noncomputable def Tr.dep : Tr → Nat
  | .f1 _ x => x.dep + 1
  | .f2 _ x y => max x.dep y.dep + 1
  | _ => 0
section
variable {A : Around} {s : Shared}
theorem all_range {n : Nat} {e : Nat → Bool} (h : ∀ j, j < n → e j = true) : (List.range n).all e = true := by
  rw [List.all_eq_true]
  intro j hj
  exact h j (List.mem_range.mp hj)
theorem eq_alike {l b : Addr} {items items2 : Array Value} (hl : s.heap.IsTuple l items) (hb : s.heap.IsTuple b items2) (hu : A.units < cLine) (hs : items.size = items2.size)
    (he : ∀ j (h1 : j < items.size) (h2 : j < items2.size), SeqAt.EqAt A.in1 s items[j] items2[j] true) : SeqAt.EqAt A s (.ref l) (.ref b) true := by
  by_cases q : l = b
  · subst q; exact SeqAt.EqAt.same _
  · refine SeqAt.EqAt.of_refs q ?_
    have := SeqAt.RcAt.tuples (e := fun _ => true) hl hb hu he
    rwa [all_range (fun _ _ => rfl), hs, beq_self_eq_true] at this
theorem eq_str (x : Str) (t u : Tok) : SeqAt.EqAt A s (.str x t) (.str x u) true := by
  have := SeqAt.EqAt.str_str (A := A) (s := s) x t x u
  rwa [beq_self_eq_true] at this
theorem eq_int (x : Int) (t u : Tok) : SeqAt.EqAt A s (.int x t) (.int x u) true := by
  have := SeqAt.EqAt.int_int (A := A) (s := s) x t x u
  rwa [beq_self_eq_true] at this
theorem eq1 {l b : Addr} {x y : Value} (hl : s.heap.IsTuple l #[x]) (hb : s.heap.IsTuple b #[y]) (hu : A.units < cLine) (h0 : SeqAt.EqAt A.in1 s x y true) : SeqAt.EqAt A s (.ref l) (.ref b) true :=
  eq_alike hl hb hu rfl fun j h1 h2 => by
    cases j with
    | zero => exact h0
    | succ j => exact absurd h1 (Nat.not_lt.mpr (Nat.le_add_left _ _))
theorem eq2 {l b : Addr} {x y x' y' : Value} (hl : s.heap.IsTuple l #[x, x']) (hb : s.heap.IsTuple b #[y, y']) (hu : A.units < cLine) (h0 : SeqAt.EqAt A.in1 s x y true) (h1 : SeqAt.EqAt A.in1 s x' y' true) : SeqAt.EqAt A s (.ref l) (.ref b) true :=
  eq_alike hl hb hu rfl fun j q1 q2 => by
    cases j with
    | zero => exact h0
    | succ j =>
      cases j with
      | zero => exact h1
      | succ j => exact absurd q1 (Nat.not_lt.mpr (Nat.le_add_left _ _))
theorem lt_dep1 {a d : Nat} (h : a + 2 * (d + 1) < cLine) : a + 1 + 1 + 2 * d < cLine := by walk_at "om"
theorem lt_dep0 {a d : Nat} (h : a + 2 * d < cLine) : a < cLine := by walk_at "om"
theorem lt_dep2 {a d : Nat} (h : a + 2 * (d + 1) < cLine) : a + 1 < cLine := by walk_at "om"
theorem lt_depL {a d e : Nat} (h : a + 2 * (max d e + 1) < cLine) : a + 1 + 1 + 2 * d < cLine := by walk_at "om"
theorem lt_depR {a d e : Nat} (h : a + 2 * (max d e + 1) < cLine) : a + 1 + 1 + 2 * e < cLine := by walk_at "om"
end
theorem tr_eq {s : Shared} {x : Tr} : ∀ {v v' : Value} {A : Around}, TrV s.heap v x → TrV s.heap v' x → A.units + 2 * x.dep < cLine → SeqAt.EqAt A s v v' true := by
  induction x with
  | «at» a =>
    intro v v' A z z' hu
    cases z with
    | int => cases z' with
      | int => exact eq_int _ _ _
    | nil => cases z'; exact SeqAt.EqAt.same _
    | t => cases z'; exact SeqAt.EqAt.same _
  | var n =>
    intro v v' A z z' hu
    obtain ⟨a, t, u, e, q⟩ := z
    obtain ⟨a', t', u', e', q'⟩ := z'
    rw [e, e']
    exact eq2 q q' (lt_dep0 hu) (eq_str _ _ _) (eq_int _ _ _)
  | f1 o x ih =>
    intro v v' A z z' hu
    obtain ⟨a, t, b, y, e, q, r, z⟩ := z
    obtain ⟨a', t', b', y', e', q', r', z'⟩ := z'
    rw [e, e']
    exact eq2 q q' (lt_dep0 hu) (eq_str _ _ _) (eq1 (A := A.in1) r r' (lt_dep2 hu) (ih (A := A.in1.in1) z z' (lt_dep1 hu)))
  | f2 o x y ih ih' =>
    intro v v' A z z' hu
    obtain ⟨a, t, b, w, w', e, q, r, z, y1⟩ := z
    obtain ⟨a', t', b', v, v', e', q', r', z', y2⟩ := z'
    rw [e, e']
    exact eq2 q q' (lt_dep0 hu) (eq_str _ _ _) (eq2 (A := A.in1) r r' (lt_dep2 hu) (ih (A := A.in1.in1) z z' (lt_depL hu)) (ih' (A := A.in1.in1) y1 y2 (lt_depR hu)))
noncomputable def ResV (h : Heap) (v : Value) : Res → Prop
  | .fails o args => ∃ a t u b gvs, v = .ref a ∧ h.IsTuple a #[.str (Str.ofString "fails") t, .str o.name u, .ref b] ∧ h.IsTuple b (List.toArray gvs) ∧ All2 (TrV h) gvs args
  | .leaves st => ∃ a t b gvs, v = .ref a ∧ h.IsTuple a #[.str (Str.ofString "leaves") t, .ref b] ∧ h.IsTuple b (List.toArray gvs) ∧ All2 (TrV h) gvs st
noncomputable def Res.trs : Res → List Tr
  | .fails _ as => as
  | .leaves st => st
theorem ResV.kn {h h' : Heap} (k : KN h h') {v : Value} {r : Res} (z : ResV h v r) : ResV h' v r := by
  revert k z
  revert h h' v r
  walk_at "9f"
  intro h h' v r
  clear_value h h' v r
  walk_at "in"
  cases r with
  | fails o as => obtain ⟨a, t, u, b, gvs, e, q, q', al⟩ := z; exact ⟨a, t, u, b, gvs, e, tup_kn k q, tup_kn k q', al.mono fun _ _ y => y.kn k⟩
  | leaves st => obtain ⟨a, t, b, gvs, e, q, q', al⟩ := z; exact ⟨a, t, b, gvs, e, tup_kn k q, tup_kn k q', al.mono fun _ _ y => y.kn k⟩
theorem trs_eq {s : Shared} {A : Around} {b b' : Addr} {gvs gvs' : List Value} {st : List Tr} (q : s.heap.IsTuple b gvs.toArray) (q' : s.heap.IsTuple b' gvs'.toArray) (al : All2 (TrV s.heap) gvs st) (al' : All2 (TrV s.heap) gvs' st) (hd : ∀ x ∈ st, x.dep ≤ 12) (hu : A.units + 30 < cLine) : SeqAt.EqAt A s (.ref b) (.ref b') true := by
  refine eq_alike q q' (by walk_at "om") (by rw [List.size_toArray, List.size_toArray, al.length, al'.length]) fun j h1 h2 => ?_
  obtain ⟨x, e, z⟩ := al.at j (by simpa using h1)
  obtain ⟨x', e', z'⟩ := al'.at j (by simpa using h2)
  rw [e] at e'; cases e'
  have := hd x (List.mem_of_getElem? e)
  rw [List.getElem_toArray, List.getElem_toArray]
  exact tr_eq z z' (by show A.units + 1 + 2 * x.dep < cLine; walk_at "om")
theorem eq_two {s : Shared} {A : Around} {a b a' b' : Value} (x : SeqAt.EqAt A s a a' true) (y : SeqAt.EqAt A s b b' true) : ∀ j (h1 : j < #[a, b].size) (h2 : j < #[a', b'].size), SeqAt.EqAt A s #[a, b][j] #[a', b'][j] true := by
  intro j h1 h2
  rcases j with _ | _ | j
  · exact x
  · exact y
  · exact absurd h1 (Nat.not_lt_of_le (Nat.le_add_left 2 j))
theorem eq_three {s : Shared} {A : Around} {a b c a' b' c' : Value} (x : SeqAt.EqAt A s a a' true) (y : SeqAt.EqAt A s b b' true) (z : SeqAt.EqAt A s c c' true) : ∀ j (h1 : j < #[a, b, c].size) (h2 : j < #[a', b', c'].size), SeqAt.EqAt A s #[a, b, c][j] #[a', b', c'][j] true := by
  intro j h1 h2
  rcases j with _ | _ | _ | j
  · exact x
  · exact y
  · exact z
  · exact absurd h1 (Nat.not_lt_of_le (Nat.le_add_left 3 j))
theorem res_rc {s : Shared} {A : Around} {v v' : Value} {r : Res} (z : ResV s.heap v r) (z' : ResV s.heap v' r) (hd : ∀ x ∈ r.trs, x.dep ≤ 12) (hu : A.units + 40 < cLine) : ∃ a a' vs vs', v = .ref a ∧ v' = .ref a' ∧ s.heap.IsTuple a vs ∧ s.heap.IsTuple a' vs' ∧ vs.size = vs'.size ∧
    ∀ j (h1 : j < vs.size) (h2 : j < vs'.size), SeqAt.EqAt A.in1 s vs[j] vs'[j] true := by
  revert z z' hd hu
  revert s A v v' r
  walk_at "9f"
  intro s A v v'
  clear_value s A v v'
  walk_at "9g"
  intro r
  clear_value r
  walk_at "in"
  have hu' : A.in1.units + 30 < cLine := by show A.units + 1 + 30 < cLine; walk_at "om"
  cases r with
  | fails o as =>
    obtain ⟨a, t, u, b, gvs, e, q, q2, al⟩ := z
    obtain ⟨a', t', u', b', gvs', e', q', q2', al'⟩ := z'
    exact ⟨a, a', _, _, e, e', q, q', rfl, eq_three (eq_str _ _ _) (eq_str _ _ _) (trs_eq q2 q2' al al' hd hu')⟩
  | leaves st =>
    obtain ⟨a, t, b, gvs, e, q, q2, al⟩ := z
    obtain ⟨a', t', b', gvs', e', q', q2', al'⟩ := z'
    exact ⟨a, a', _, _, e, e', q, q', rfl, eq_two (eq_str _ _ _) (trs_eq q2 q2' al al' hd hu')⟩
def IsI (prog : Program) (w : World) (g : Heap) (v : Value) (b : Bool) : Prop :=
  ∀ (A : Around) (E : Value → Shared → Prop) (s : Shared) (L : Addr) (m : Str → Option Value) (Q : Value → Shared → Prop), Fr g L s.heap m → (∀ tk', Q (.bool b) { s with toks := tk' }) → wpAny (model prog w) A (call (.builtin "isinstance") [v, .type "int"]) Q E s
theorem isI_use {prog : Program} {w : World} {g : Heap} {v : Value} {b : Bool} {A : Around} {E : Value → Shared → Prop} {s : Shared} {L : Addr} {m : Str → Option Value} {Q : Value → Shared → Prop} (hI : IsI prog w g v b) (F : Fr g L s.heap m) (h : ∀ tk', Q (.bool b) { s with toks := tk' }) : wpAny (model prog w) A (call (.builtin "isinstance") [v, .type "int"]) Q E s := hI A E s L m Q F h
noncomputable def nine : List Op := [.add, .sub, .mul, .max, .min, .lt, .le, .eq, .gt]
noncomputable def six : List Str := [Str.ofString "integerp", Str.ofString "consp", Str.ofString "not", Str.ofString "car", Str.ofString "eq", Str.ofString "cons"]
theorem nm1 (o : Op) (hm : o.many = 2) (h : (six.any fun x => x == o.name) = true) : o = .eqv ∨ o = .cons := by
  revert hm h; cases o <;> decide +kernel
theorem nm2 (o : Op) (hm : o.many = 2) (h : (six.any fun x => x == o.name) = false) : o ∈ nine := by
  revert hm h; cases o <;> decide +kernel
theorem nm3 (o : Op) (hm : o.many = 1) (h : (six.any fun x => x == o.name) = true) (h' : (o.name != Str.ofString "integerp") = true) : o = .consp ∨ o = .not ∨ o = .car := by
  revert hm h h'; cases o <;> decide +kernel
theorem nm4 (o : Op) (h : (o.name != Str.ofString "integerp") = false) : o = .intp := by
  revert h; cases o <;> decide +kernel
theorem nm5 (o : Op) (hm : o.many = 1) (h : (six.any fun x => x == o.name) = false) : o = .inc ∨ o = .dec := by
  revert hm h; cases o <;> decide +kernel
theorem nm6 (o : Op) (ho : o = .inc ∨ o = .dec) : (o.name == Str.ofString "1+") = true ∧ o = .inc ∨ (o.name == Str.ofString "1+") = false ∧ o = .dec := by
  rcases ho with rfl | rfl
  · exact .inl ⟨by decide +kernel, rfl⟩
  · exact .inr ⟨by decide +kernel, rfl⟩
theorem TrV.int_of {h : Heap} {v : Value} {i : Int} (z : TrV h v (.at (.int i))) : ∃ t, v = .int i t := by
  cases z; exact ⟨_, rfl⟩
theorem called_t {x : Tr} (h : x.isInt = true) : called .intp [x] = some (.at .t) := by
  show some (Tr.at (if x.isInt then At.t else At.nil)) = _
  rw [h]; rfl
theorem called_nil {x : Tr} (h : x.isInt = false) : called .intp [x] = some (.at .nil) := by
  show some (Tr.at (if x.isInt then At.t else At.nil)) = _
  rw [h]; rfl
theorem isInt_of {x : Tr} (h : x.isInt = true) : ∃ i, x = .at (.int i) := by
  cases x with
  | «at» a => cases a with
    | int i => exact ⟨i, rfl⟩
    | nil => cases h
    | t => cases h
  | _ => cases h
theorem called_none2 {o : Op} (ho : o ∈ nine) {x y : Tr} (h : ¬ (x.isInt = true ∧ y.isInt = true)) : called o [x, y] = none := by
  show called2 o x y = none
  cases e : called2 o x y with
  | none => rfl
  | some z =>
    rcases called2_cases e with (rfl | rfl) | ⟨i, j, rfl, rfl⟩
    · exact absurd ho (by decide)
    · exact absurd ho (by decide)
    · exact absurd ⟨rfl, rfl⟩ h
theorem called_none1 {o : Op} (ho : o = .inc ∨ o = .dec) {x : Tr} (h : x.isInt = false) : called o [x] = none := by
  have e : x.int? = none := by
    cases x with
    | «at» a => cases a with
      | int i => cases h
      | nil => rfl
      | t => rfl
    | var n => rfl
    | f1 o x => rfl
    | f2 o x y => rfl
  rcases ho with rfl | rfl
  · show x.int?.bind _ = none
    rw [e]; rfl
  · show x.int?.bind _ = none
    rw [e]; rfl
section
variable {prog : Program} {w : World} {A : Around} {E : Value → Shared → Prop} {s : Shared} {l b : Addr} {Q : Value → Shared → Prop}
end
theorem take_next {lns : List Ln} {i : Nat} {l : Ln} (hl : lns[i]? = some l) : lns.take (i + 1) = lns.take i ++ [l] := by
  rw [List.take_add_one, hl]; rfl
theorem run_pre {lns : List Ln} {cs : List At} {res : Res} (hr : run lns cs [] = some res) (k : Nat) : run (lns.take k) cs [] = some res ∨ ∃ st, run (lns.take k) cs [] = some (.leaves st) := by
  rw [← List.take_append_drop k lns, run_app] at hr
  cases h : run (lns.take k) cs [] with
  | none => rw [h] at hr; cases hr
  | some r => cases r with
    | fails o as => rw [h] at hr; exact .inl hr
    | leaves st => exact .inr ⟨st, rfl⟩
theorem run_fail {lns : List Ln} {cs : List At} {res : Res} (hr : run lns cs [] = some res) {k : Nat} {o : Op} {as : List Tr} (h : run (lns.take k) cs [] = some (.fails o as)) : res = .fails o as := by
  rcases run_pre hr k with q | ⟨st, q⟩
  · rw [h] at q; exact (Option.some.inj q).symm
  · rw [h] at q; cases q
theorem run_some {lns : List Ln} {cs : List At} {res : Res} (hr : run lns cs [] = some res) (k : Nat) : run (lns.take k) cs [] ≠ none := by
  rcases run_pre hr k with q | ⟨st, q⟩ <;> rw [q] <;> exact fun z => nomatch z
section
variable {lns : List Ln} {cs : List At} {res : Res} {i : Nat} {st : List Tr}
theorem run_c {k : Nat} (hr : run lns cs [] = some res) (hl : lns[i]? = some (.c k)) (hs : run (lns.take i) cs [] = some (.leaves st)) : ∃ a, cs[k]? = some a ∧ run (lns.take (i + 1)) cs [] = some (.leaves (st ++ [.at a])) := by
  have h := run_some hr (i + 1)
  rw [take_next hl, run_app, hs] at h ⊢
  cases e : cs[k]? with
  | none =>
    refine absurd ?_ h
    show run [.c k] cs st = none
    rw [run, e]; rfl
  | some a =>
    refine ⟨a, rfl, ?_⟩
    show run [.c k] cs st = _
    rw [run, e]; rfl
theorem run_v {k : Nat} (hl : lns[i]? = some (.v k)) (hs : run (lns.take i) cs [] = some (.leaves st)) : run (lns.take (i + 1)) cs [] = some (.leaves (st ++ [.var k])) := by
  rw [take_next hl, run_app, hs]; rfl
theorem run_p {o : Op} (hr : run lns cs [] = some res) (hl : lns[i]? = some (.p o)) (hs : run (lns.take i) cs [] = some (.leaves st)) : ∃ q args, st = q ++ args ∧ args.length = o.many ∧ (∀ y, called o args = some y → run (lns.take (i + 1)) cs [] = some (.leaves (q ++ [y]))) ∧ (called o args = none → res = .fails o args) := by
  have h := run_some hr (i + 1)
  have hf : ∀ {as}, run (lns.take (i + 1)) cs [] = some (.fails o as) → res = .fails o as := fun e => run_fail hr e
  rw [take_next hl, run_app, hs] at h hf
  have e0 : andThen (some (.leaves st)) (fun st => run [.p o] cs st) = run [.p o] cs st := rfl
  rw [e0] at h hf
  rw [run] at h hf
  by_cases hm : o.many ≤ st.length
  · rw [if_pos hm] at h hf
    refine ⟨st.take (st.length - o.many), st.drop (st.length - o.many), (List.take_append_drop _ _).symm, by rw [List.length_drop]; omega, fun y hy => ?_, fun hy => ?_⟩
    · rw [take_next hl, run_app, hs, e0, run, if_pos hm, hy]; rfl
    · rw [hy] at hf; exact hf rfl
  · rw [if_neg hm] at h; exact absurd rfl h
end
theorem AtsV.at {vals : List Value} {cs : List At} (h : AtsV vals cs) {k : Nat} {a : At} (e : cs[k]? = some a) : ∃ v, vals[k]? = some v ∧ AtV v a := by
  induction vals generalizing cs k with
  | nil => cases cs with
    | nil => cases e
    | cons _ _ => exact h.elim
  | cons v vs ih => cases cs with
    | nil => exact h.elim
    | cons b bs => cases k with
      | zero => cases e; exact ⟨v, rfl, h.1⟩
      | succ k =>
        obtain ⟨v', e', z⟩ := ih h.2 (k := k) (by simpa using e)
        exact ⟨v', by simpa using e', z⟩
theorem TrV.ki {hs h h' : Heap} (k : KI hs h h') : ∀ {x : Tr} {v : Value}, TrV h v x → TrV h' v x := by
  have tk : ∀ {a : Addr} {vs : Array Value}, h.IsTuple a vs → h'.IsTuple a vs := fun z => by
    obtain ⟨o, ho, hc, n, hd⟩ := z
    exact ⟨o, k.nf (fun vs q => by rw [hd] at q; cases q) ho, hc, n, hd⟩
  intro x
  induction x with
  | «at» a => exact fun z => z
  | var n => intro v z; obtain ⟨a, t, u, e, q⟩ := z; exact ⟨a, t, u, e, tk q⟩
  | f1 o x ih => intro v z; obtain ⟨a, t, b, y, e, q, r, z⟩ := z; exact ⟨a, t, b, y, e, tk q, tk r, ih z⟩
  | f2 o x y ih ih' => intro v z; obtain ⟨a, t, b, y, y', e, q, r, z, z'⟩ := z; exact ⟨a, t, b, y, y', e, tk q, tk r, ih z, ih' z'⟩
theorem last_app (p : List Value) (y : Value) : kl_last (p ++ [y]) = some (p, y) := by
  induction p with
  | nil => rfl
  | cons x p ih =>
    rw [List.cons_append, kl_last, ih]
theorem upd_mk {d : Addr} {o o' : Obj} {post : List (Addr × Obj)} (b : ∀ q ∈ post, q.1 ≠ d) {pre : List (Addr × Obj)} (a : ∀ q ∈ pre, q.1 ≠ d) : Upd d o o' (pre ++ (d, o) :: post) (pre ++ (d, o') :: post) := by
  induction pre with
  | nil => exact .head b
  | cons x r ih => exact .tail (a x (.head _)) (ih fun q hq => a q (.tail _ hq))
section
variable {prog : Program} {w : World} {A : Around} {E : Value → Shared → Prop} {s : Shared} {h₀ : Heap} {L : Addr} {m : Str → Option Value} {news : List (Addr × Obj)} {g : Obj → List (Addr × Obj)}
theorem pop_upd {l : Addr} {y : Value} {items p : List Value} {n : Nat} {Q : Value → Shared → Prop} (F : Fr h₀ L s.heap m) (N : News h₀ L s.heap news) (U : UpdF l (listOf items.toArray n) news g) (e : items = p ++ [y]) (hsz : p.length ≤ 900)
    (h : ∀ h', Fr h₀ L h' m → News h₀ L h' (g (listOf p.toArray (n + 1))) → Q y { s with heap := h' }) : wpAny (model prog w) A (call (.builtin "list.pop") [.ref l]) Q E s := by
  subst e
  obtain ⟨pre, post, rfl, hg, a, b⟩ := U.split
  refine kl_pop (its := (p ++ [y]).toArray) F N (last_app p y) (upd_mk b a) ?_ fun h' F' N' => h h' F' (hg _ ▸ N')
  rw [sizeLine_eq, List.toList_toArray, List.length_append]
  exact Nat.le_trans (Nat.succ_le_succ hsz) (by decide)
end
theorem two_last {p : List Value} {a b : Value} : p ++ [a, b] = (p ++ [a]) ++ [b] := by simp
def NN (v : Value) : Prop := v ≠ .none
theorem TrV.nn {h : Heap} {v : Value} {x : Tr} (z : TrV h v x) : NN v := by
  rcases z.kinds with ⟨i, t, rfl, -⟩ | ⟨-, rfl | rfl | ⟨a, vs, rfl, -⟩⟩ <;> exact fun q => nomatch q
theorem is_none_nn {M : Model} {A : Around} {E Q : Value → Shared → Prop} {s : Shared} {v : Value} (z : NN v) (h : Q (.bool false) s) : wpAny M A (compareOp .Is v .none) Q E s := is_none_ne z h
def NeR (a b : Addr) : Prop := a ≠ b
theorem NeR.intro {a b : Addr} (h : @Ne Nat a b) : NeR a b := h
theorem NeR.ne {a b : Addr} (h : NeR a b) : a ≠ b := h
noncomputable def sixL : List Str := [Str.ofString "consp", Str.ofString "not", Str.ofString "car", Str.ofString "eq", Str.ofString "cons", Str.ofString ">"]
theorem nmL (o : Op) (h : (sixL.any fun x => x == o.name) = false) : o.pure = true ∧ (o ≠ .gt ∧ o ≠ .consp ∧ o ≠ .not ∧ o ≠ .eqv) := by
  revert h; cases o <;> decide +kernel
theorem isLeft_of {lns : List Ln} {cs : List At} {i : Nat} {o : Op} (hl : lns[i]? = some (.p o)) (h : leftAt lns cs o i = true) : isLeft lns cs = true := by
  unfold isLeft
  rw [List.any_eq_true]
  exact ⟨i, List.mem_range.mpr (List.getElem?_eq_some_iff.mp hl).1, by rw [hl]; exact h⟩
theorem drop_last1 {α : Type} {l : List α} {j : Nat} {x : α} (h : l[j]? = some x) : (l.take (j + 1)).drop ((l.take (j + 1)).length - 1) = [x] := by
  have hj := (List.getElem?_eq_some_iff.mp h).1
  have hl : (l.take (j + 1)).length = j + 1 := by rw [List.length_take]; walk_at "om"
  rw [hl, List.take_add_one, h]
  have : (l.take j).length = j := by rw [List.length_take]; walk_at "om"
  show (l.take j ++ [x]).drop (j + 1 - 1) = [x]
  rw [Nat.add_sub_cancel]
  conv => lhs; rw [← this]
  rw [this]
  simp [List.drop_append, List.length_take, Nat.min_eq_left (Nat.le_of_lt hj)]
theorem drop_last2 {α : Type} {l : List α} {j : Nat} {x y : α} (h : l[j]? = some x) (h' : l[j + 1]? = some y) : (l.take (j + 2)).drop ((l.take (j + 2)).length - 2) = [x, y] := by
  have hj := (List.getElem?_eq_some_iff.mp h').1
  have hl : (l.take (j + 2)).length = j + 2 := by rw [List.length_take]; walk_at "om"
  rw [hl, show j + 2 = j + 1 + 1 from rfl, List.take_add_one, h', List.take_add_one, h]
  show ((l.take j ++ [x]) ++ [y]).drop (j + 2 - 2) = [x, y]
  rw [Nat.add_sub_cancel, List.append_assoc]
  simp [List.drop_append, List.length_take, Nat.min_eq_left (show j ≤ l.length by walk_at "om")]
theorem isLeft1 {lns : List Ln} {cs : List At} {j k : Nat} {o : Op} {a : At} {x : Tr} (hl : lns[j + 1]? = some (.p o)) (hm : o.many = 1) (h1 : lns[j]? = some (.c k)) (hk : cs[k]? = some a) (hn : (sixL.any fun x => x == o.name) = false) (hc : called o [.at a] = some x) : isLeft lns cs = true := by
  refine isLeft_of hl ?_
  obtain ⟨p1, p2⟩ := nmL o hn
  have hb : behind (lns.take (j + 1)) cs 1 = some [a] := by
    unfold behind
    rw [drop_last1 h1]
    show (cs[k]?).map _ = _
    rw [hk]; rfl
  unfold leftAt
  rw [hm, hb]
  simp only [Bool.and_eq_true, decide_eq_true_eq]
  refine ⟨by walk_at "om", ⟨p1, p2⟩, ?_⟩
  show (called o [.at a]).isSome = true
  rw [hc]; rfl
theorem isLeft2 {lns : List Ln} {cs : List At} {j k k' : Nat} {o : Op} {a b : At} {x : Tr} (hl : lns[j + 2]? = some (.p o)) (hm : o.many = 2) (h1 : lns[j]? = some (.c k)) (h2 : lns[j + 1]? = some (.c k')) (hk : cs[k]? = some a) (hk' : cs[k']? = some b) (hn : (sixL.any fun x => x == o.name) = false) (hc : called o [.at a, .at b] = some x) : isLeft lns cs = true := by
  refine isLeft_of hl ?_
  obtain ⟨p1, p2⟩ := nmL o hn
  have hb : behind (lns.take (j + 2)) cs 2 = some [a, b] := by
    unfold behind
    rw [drop_last2 h1 h2]
    show (cs[k]?).bind _ = _
    rw [hk]
    show (cs[k']?).map _ = _
    rw [hk']; rfl
  unfold leftAt
  rw [hm, hb]
  simp only [Bool.and_eq_true, decide_eq_true_eq]
  refine ⟨by walk_at "om", ⟨p1, p2⟩, ?_⟩
  show (called o [.at a, .at b]).isSome = true
  rw [hc]; rfl
section
variable {prog : Program} {w : World} {A : Around} {E : Value → Shared → Prop} {s : Shared} {l b : Addr} {Q : Value → Shared → Prop}
theorem eq_lens {items items2 : Array Value} (hl : s.heap.IsList l items) (hb : s.heap.IsList b items2) (hsz : (items.size != items2.size) = true) (hu : A.units < cLine) (h : Q (.bool false) s) : wpAny (model prog w) A (compareOp .Eq (.ref l) (.ref b)) Q E s :=
  SeqAt.RcAt.lists_lengths hl hb hsz hu prog w E Q h
theorem eq_nils (hl : s.heap.IsList l #[]) (hb : s.heap.IsList b #[]) (hu : A.units < cLine) (h : Q (.bool true) s) : wpAny (model prog w) A (compareOp .Eq (.ref l) (.ref b)) Q E s :=
  SeqAt.RcAt.lists (e := fun _ => true) hl hb rfl hu (fun j h1 => absurd h1 (by simp)) prog w E Q h
end
theorem ln_led {h₀ h : Heap} {fvs : List Value} {lns : List Ln} (H : All2 (LnZ h₀ h) fvs lns) : ∃ lnl : List (Addr × Obj), Led h₀ h lnl ∧ (∀ p ∈ lnl, p.2.cls = .type "tuple") ∧
    ∀ (i : Nat) (l : Ln), lns[i]? = some l → ∃ a t u d n sl, fvs[i]? = some (.ref a) ∧ (a, (⟨.type "tuple", d, .seq #[.str l.word t, .int l.opd u] n, sl⟩ : Obj)) ∈ lnl :=
  H.ind (fun fvs lns => ∃ lnl : List (Addr × Obj), Led h₀ h lnl ∧ (∀ p ∈ lnl, p.2.cls = .type "tuple") ∧
    ∀ (i : Nat) (l : Ln), lns[i]? = some l → ∃ a t u d n sl, fvs[i]? = some (.ref a) ∧ (a, (⟨.type "tuple", d, .seq #[.str l.word t, .int l.opd u] n, sl⟩ : Obj)) ∈ lnl) ⟨[], fun _ q => (nomatch q), fun _ q => (nomatch q), fun i l q => nil_get q⟩ (fun v vs x xs r _ ih => by
    obtain ⟨lnl, a1, a2, a3⟩ := ih
    obtain ⟨a, t, u, d, n, sl, e, ha⟩ := r.obj
    refine ⟨(a, ⟨.type "tuple", d, .seq #[.str x.word t, .int x.opd u] n, sl⟩) :: lnl, List.forall_mem_cons.2 ⟨ha, a1⟩, List.forall_mem_cons.2 ⟨rfl, a2⟩, fun i l q => ?_⟩
    cases i with
    | zero => exact Option.some.inj q ▸ ⟨a, t, u, d, n, sl, congrArg some e, .head _⟩
    | succ i =>
      obtain ⟨a', t', u', d', n', sl', e', hm⟩ := a3 i l q
      exact ⟨a', t', u', d', n', sl', e', .tail _ hm⟩)
theorem Ln.con_or (l : Ln) : (∃ k, l = .c k) ∨ (l.word != Str.ofString "const") = true := by
  cases l with
  | c k => exact .inl ⟨k, rfl⟩
  | v k => exact .inr (show (Str.ofString "varref" != Str.ofString "const") = true by decide +kernel)
  | p o => exact .inr (show (Str.ofString "plain" != Str.ofString "const") = true by decide +kernel)
def Holds (all : List (Addr × Obj)) (nw : List (Addr × Obj)) : Prop := ∀ p ∈ all, p ∈ nw
def PairsAt (its : Array Value) (xs : List ((Tok → Value) × Value)) (news : List (Addr × Obj)) : Prop :=
  xs.length = its.size ∧ ∀ (i : Nat) (v : Value), its[i]? = some v → ∃ t ot nt p, v = .ref t ∧ (t, ot) ∈ news ∧ ot.cls = .type "tuple" ∧ xs[i]? = some p ∧ ot.data = .seq #[p.1 0, p.2] nt
theorem pairs1 {a1 : Addr} {o1 : Obj} {v1 v2 : Value} {n1 : Nat} {news : List (Addr × Obj)} (hm : (a1, o1) ∈ news) (hc : o1.cls = .type "tuple") (hd : o1.data = .seq #[v1, v2] n1) : PairsAt #[.ref a1] [(fun _ => v1, v2)] news :=
  ⟨rfl, fun i v e => match i, e with
    | 0, e => ⟨a1, o1, n1, _, (Option.some.inj e).symm, hm, hc, rfl, hd⟩
    | i + 1, e => absurd e (by simp)⟩
theorem pairs2 {a1 a2 : Addr} {o1 o2 : Obj} {v1 v2 v3 v4 : Value} {n1 n2 : Nat} {news : List (Addr × Obj)} (hm : (a1, o1) ∈ news) (hc : o1.cls = .type "tuple") (hd : o1.data = .seq #[v1, v2] n1) (hm' : (a2, o2) ∈ news) (hc' : o2.cls = .type "tuple") (hd' : o2.data = .seq #[v3, v4] n2) :
    PairsAt #[.ref a1, .ref a2] [(fun _ => v1, v2), (fun _ => v3, v4)] news :=
  ⟨rfl, fun i v e => match i, e with
    | 0, e => ⟨a1, o1, n1, _, (Option.some.inj e).symm, hm, hc, rfl, hd⟩
    | 1, e => ⟨a2, o2, n2, _, (Option.some.inj e).symm, hm', hc', rfl, hd'⟩
    | i + 2, e => absurd e (by simp)⟩
section
variable {prog : Program} {w : World} {A : Around} {E : Value → Shared → Prop} {s : Shared} {h₀ : Heap} {L : Addr} {m : Str → Option Value} {env : Env}
theorem pt_block {elt iter c : PySem.Expr} {a b : Str} {pa pb tp : Pos} {kk : Nat} {scope : Scope} {cl : List (Str × Addr)} {pos : Pos} {ax : Addr} {its : Array Value} {k0 : Nat} {xs : List ((Tok → Value) × Value)} {news : List (Addr × Obj)}
    {Fin : List Value → List (Addr × Obj) → Prop} {RR : Value → Addr → Result → Shared → Prop}
    (hh : A.handled = none) (hsz : its.size ≤ sizeLine) (hP : PairsAt its xs news) (hm : (ax, (⟨.type "list", none, .seq its k0, #[]⟩ : Obj)) ∈ news)
    (hcell : ∀ y ∈ scope.names, y.2 ≠ .cell) (hkind : scope.kind = .function) (hxa : scope.names.lookup a = some .local) (hxb : scope.names.lookup b = some .local) (hab : ¬ a = b)
    (F0 : Fr h₀ L s.heap m) (N0 : News h₀ L s.heap news)
    (R : ∀ g, KctRest prog w A h₀ L m env c elt a b scope cl { s with heap := g } (Holds news) Fin xs [] news)
    (hRR : ∀ D C h tk m' ys news', Fr h₀ L h m → News h₀ L h ((D, LCg.lst ys) :: news') → LCg.Off1 D news' → h.Ns C m' → h₀.get? C = none → h₀.get? D = none → C ≠ L → D ≠ L → C ≠ D → (∀ p ∈ news', p.1 ≠ C) → Fin ys news' → RR (.ref D) C (.ok .next) { s with heap := h, toks := tk }) :
    wpAny (model prog w) A (pyIter (.ref ax)) (fun it s₂ => wpAny (model prog w) A (newList []) (fun acc s₃ => wpAny (model prog w) A (newFunctionEnv scope env.globals cl [] env.qual none .none (some env)) (fun cenv s₄ =>
      codeAny (model prog w) A (.compStart (.ListComp elt [⟨.Tuple [.Name a pa, .Name b pb] kk tp, iter, [c], 0⟩] scope pos) 0 it acc { cenv with scope := relabel scope env }) (RR acc cenv.locals) s₄) E s₃) E s₂) E s := by
  revert hh hsz hP hm hcell hkind hxa hxb hab F0 N0 R hRR
  revert prog w A E s h₀ L m env elt iter c a b pa pb tp kk scope cl pos ax its k0 xs news Fin RR
  walk_at "9c"
  intro prog w A E s h₀ L m env elt iter c a b pa pb
  clear_value prog w A E s h₀ L m env elt iter c a b pa pb
  walk_at "9i"
  intro tp kk scope cl pos ax its k0
  clear_value tp kk scope cl pos ax its k0
  walk_at "9f"
  intro xs news Fin RR
  clear_value xs news Fin RR
  walk_at "in"
  have hl0 : s.heap.IsList ax its := ⟨_, (N0 _ hm).1, rfl, k0, rfl⟩
  have hax : ax < s.heap.objs.size := Heap.lt_size (N0 _ hm).1
  refine wpAny_pyIter_list hl0 ?_
  have up0 : ∀ b o, s.heap.get? b = some o → (s.heap.push { cls := .type "list_iterator", data := .fields #[.ref ax, .int 0 0] }).get? b = some o := fun b o e => Heap.get?_push_of_some _ e
  have hit0 : (s.heap.push { cls := .type "list_iterator", data := .fields #[.ref ax, .int 0 0] }).IsListIter s.heap.objs.size ax 0 := ⟨_, Heap.get?_push_size _ rfl, rfl, rfl⟩
  have F : Fr h₀ L _ m := F0.keeps up0
  have N : News h₀ L _ news := N0.grown up0
  have hIL : L ≠ s.heap.objs.size := Nat.ne_of_lt F0.ns.lt
  have hI₀ := next_is_new F0
  have off : ∀ p ∈ news, p.1 ≠ s.heap.objs.size := fun p hp => Nat.ne_of_lt (Heap.lt_size (N0 p hp).1)
  have hIlt : s.heap.objs.size < (s.heap.push { cls := .type "list_iterator", data := .fields #[.ref ax, .int 0 0] }).objs.size := Heap.lt_size (Heap.get?_push_size _ rfl)
  revert hit0 F N hIlt up0
  generalize s.heap.push { cls := .type "list_iterator", data := .fields #[.ref ax, .int 0 0] } = g0
  intro up0 hit0 F N hIlt
  revert off hI₀ hIL hit0 hIlt hax
  generalize s.heap.objs.size = I
  intro hax hIL hI₀ off hit0 hIlt
  refine wpAny_newObj_type (wpAny_newFunctionEnv hcell (by intro y hy; simp at hy) (fun h₁ hns₁ hsb₁ => ?_) hkind)
  dsimp only at hns₁ hsb₁ ⊢
  generalize hH2 : g0.push { cls := .type "list", dict := none, data := .seq ([] : List Value).toArray } = H2 at hns₁ hsb₁ ⊢
  have hC : H2.objs.size = g0.objs.size + 1 := by rw [← hH2, Heap.size_push]
  have hDC : g0.objs.size ≠ H2.objs.size := by rw [hC]; exact Nat.ne_of_lt (Nat.lt_succ_self _)
  have below : ∀ b, b < g0.objs.size → b ≠ H2.objs.size ∧ b ≠ g0.objs.size := fun b hb => ⟨by rw [hC]; exact Nat.ne_of_lt (Nat.lt_succ_of_lt hb), Nat.ne_of_lt hb⟩
  have old : ∀ b o, g0.get? b = some o → h₁.get? b = some o := fun b o e => hsb₁.extBut b o (below b (Heap.lt_size e)).1 (Heap.get?_push_of_some _ (hH2 ▸ Heap.get?_push_of_some _ e))
  have hacc : h₁.get? g0.objs.size = some (LCg.lst []) := hsb₁.extBut _ _ hDC (Heap.get?_push_of_some _ (hH2 ▸ Heap.get?_push_size _ rfl))
  have hD₀ : h₀.get? g0.objs.size = none := next_is_new F
  have hC₀ : h₀.get? H2.objs.size = none := by
    cases e : h₀.get? H2.objs.size with
    | none => rfl
    | some o =>
      have := Heap.lt_size (F.keep _ o e)
      rw [hC] at this
      exact absurd this (Nat.not_lt.mpr (Nat.le_succ _))
  have hLlt : L < g0.objs.size := F.ns.lt
  have hDL : g0.objs.size ≠ L := Ne.symm (below L hLlt).2
  have hCL : H2.objs.size ≠ L := Ne.symm (below L hLlt).1
  have hCI : I ≠ H2.objs.size := (below I hIlt).1
  have hDI : I ≠ g0.objs.size := (below I hIlt).2
  have off₀ : LCg.Off3 I H2.objs.size g0.objs.size news := LCg.Off3.of fun p hp => ⟨off p hp, (below _ (Heap.lt_size (N p hp).1)).1, (below _ (Heap.lt_size (N p hp).1)).2⟩
  obtain ⟨hlen, hitem⟩ := hP
  have W := Walks.list (prog := prog) (w := w) hh I ax (Nat.ne_of_lt hax) its
  have hlist : ∀ {h : Heap} {nw : List (Addr × Obj)}, News h₀ L h nw → Holds news nw → h.IsList ax its := fun n k => ⟨_, (n _ (k _ hm)).1, rfl, k0, rfl⟩
  have loop : ∀ s₃ : Shared, s₃ = { s with heap := h₁, toks := s.toks + ([] : List (Str × Value)).length } →
      codeAny (model prog w) A (.compLoop (.ListComp elt [⟨.Tuple [.Name a pa, .Name b pb] kk tp, iter, [c], 0⟩] scope pos) 0 (.ref I) (.ref g0.objs.size) (compEnvC scope cl H2.objs.size env))
        (RR (.ref g0.objs.size) H2.objs.size) s₃ := by
    rintro s₃ rfl
    refine kct_loop
      (fun n s' => ∃ h' tk i ys m' nw, s' = { s with heap := h', toks := tk } ∧ i ≤ its.size ∧ n = its.size + 1 - i ∧ ys.length ≤ i ∧ h'.IsListIter I ax i ∧ Fr h₀ L h' m ∧ h'.Ns H2.objs.size m' ∧
        News h₀ L h' ((g0.objs.size, LCg.lst ys) :: nw) ∧ LCg.Off3 I H2.objs.size g0.objs.size nw ∧ Holds news nw ∧ KctRest prog w A h₀ L m env c elt a b scope cl { s with heap := g0 } (Holds news) Fin (xs.drop i) ys nw) ?_ (its.size + 1)
      ⟨h₁, _, 0, [], _, news, rfl, Nat.zero_le _, rfl, Nat.le_refl _, hit0.at fun o e => old _ o e, F.keeps old, hns₁, fun p hp => ?_, off₀, fun p hp => hp, by rw [List.drop_zero]; exact R g0⟩
    · rintro n s' ⟨h', tk, i, ys, m', nw, rfl, hi, rfl, hyl, hit, F', hn', N', off', hS', R'⟩
      have off3 := off'.mem
      have hl' : h'.IsList ax its := hlist (fun p hp => N' p (.tail _ hp)) hS'
      by_cases hlt : i < its.size
      · refine W.item i _ _ _ hlt ⟨hit, hl'⟩ fun v h₂ tk₂ hPv hst₂ hk₂ => ?_
        obtain ⟨t, ot, nt, p, rfl, hmt, hct, hp, hdt⟩ := hitem i v hPv
        have N₂ : News h₀ L h₂ ((g0.objs.size, LCg.lst ys) :: nw) := LCg.news_but N' hk₂ fun p hp => by
          walk_at "9x"
          · exact Ne.symm hDI
          · exact (off3 p hp).1
        have ht : h₂.IsTuple t #[p.1 0, p.2] := ⟨ot, (N₂ _ (.tail _ (hS' _ hmt))).1, hct, nt, hdt⟩
        refine wpAny_letOwnedTupleGo_listiter hst₂.1 ?_
        refine kcp_assign (env := compEnvC scope cl H2.objs.size env) hh ht (lookup_relabel_local hxa) (lookup_relabel_local hxb) (by simp [compEnvC, relabel, hkind]) (hn'.at' fun o e => hk₂ _ o (by simpa using Ne.symm hCI) e) fun h₄ tk₄ hn₄ hs₄ => ?_
        have hs₄ : ∀ c o, c ≠ H2.objs.size → h₂.get? c = some o → h₄.get? c = some o := hs₄
        have hI₄ : h₄.IsListIter I ax (i + 1) := hst₂.1.at fun o e => hs₄ I o hCI e
        obtain ⟨oI, heI, hoI⟩ : ∃ oI : Obj, h₄.get? I = some oI ∧ ∀ h : Heap, h.get? I = some oI → h.IsListIter I ax (i + 1) := by
          obtain ⟨o, e, r⟩ := hI₄
          exact ⟨o, e, fun _ e' => ⟨o, e', r⟩⟩
        obtain ⟨oC, heC, hoC⟩ := LCg.ns_obj hn₄
        have F₄ : Fr h₀ L h₄ m := by
          have F2 := LCg.fr_but F' hk₂ hIL hI₀
          exact ⟨F2.ns.at' fun o e => hs₄ _ o (Ne.symm hCL) e, fun q o e => hs₄ q o (fun z => by rw [z, hC₀] at e; cases e) (F2.keep q o e), F2.above⟩
        have N₄ : News h₀ L h₄ ((I, oI) :: (H2.objs.size, oC) :: (g0.objs.size, LCg.lst ys) :: nw) := fun q hq => by
          walk_at "9ae"
          · exact ⟨heI, Ne.symm hIL, hI₀⟩
          · walk_at "9ae"
            · exact ⟨heC, hCL, hC₀⟩
            · refine ⟨hs₄ _ _ ?_ (N₂ q hq).1, (N₂ q hq).2⟩
              walk_at "9ae"
              · exact hDC
              · exact (off3 q hq).2.1
        have hdrop : xs.drop i = p :: xs.drop (i + 1) := by
          have hlt' : i < xs.length := by rw [hlen]; exact hlt
          rw [List.drop_eq_getElem_cons hlt']
          congr 1
          exact Option.some.inj ((List.getElem?_eq_getElem hlt').symm.trans hp)
        rw [hdrop] at R'
        have fin : ∀ (ys' : List Value) (h₅ : Heap) (tk₅ : Nat) (nw₅ : List (Addr × Obj)), ys'.length ≤ i + 1 → Fr h₀ L h₅ m → News h₀ L h₅ ((I, oI) :: (H2.objs.size, oC) :: (g0.objs.size, LCg.lst ys') :: nw₅) → LCg.Off3 I H2.objs.size g0.objs.size nw₅ → Holds news nw₅ →
            KctRest prog w A h₀ L m env c elt a b scope cl { s with heap := g0 } (Holds news) Fin (xs.drop (i + 1)) ys' nw₅ →
            ∃ q', q' < its.size + 1 - i ∧ (∃ h' tk i ys m' nw, ({ s with heap := h₅, toks := tk₅ } : Shared) = { s with heap := h', toks := tk } ∧ i ≤ its.size ∧ q' = its.size + 1 - i ∧ ys.length ≤ i ∧ h'.IsListIter I ax i ∧ Fr h₀ L h' m ∧ h'.Ns H2.objs.size m' ∧
              News h₀ L h' ((g0.objs.size, LCg.lst ys) :: nw) ∧ LCg.Off3 I H2.objs.size g0.objs.size nw ∧ Holds news nw ∧ KctRest prog w A h₀ L m env c elt a b scope cl { s with heap := g0 } (Holds news) Fin (xs.drop i) ys nw) := by
          intro ys' h₅ tk₅ nw₅ hl F₅ N₅ off₅ hS₅ R₅
          have zI := (N₅ (I, oI) List.mem_cons_self).1
          have zC := (N₅ (H2.objs.size, oC) (List.mem_cons_of_mem _ List.mem_cons_self)).1
          exact ⟨its.size + 1 - (i + 1), by walk_at "om", h₅, tk₅, i + 1, ys', _, nw₅, rfl, hlt, rfl, hl, hoI h₅ zI, F₅, hoC.ns zC, fun q hq => N₅ q (List.mem_cons_of_mem _ (List.mem_cons_of_mem _ hq)), off₅, hS₅, R₅⟩
        refine wpAny_mono (R' 0 I oI H2.objs.size oC g0.objs.size _ h₄ _ _ hoC (by simp [hab]) (by simp) F₄ N₄ off' ⟨hCI, hDI, Ne.symm hDC⟩) (fun okb s₅ h₅ => ?_) fun _ _ e => e
        cases okb with
        | false =>
          simp only [Bool.false_eq_true, if_false] at h₅ ⊢
          obtain ⟨h₅, tk₅, nw₅, rfl, F₅, N₅, off₅, hS₅, R₅⟩ := h₅
          exact fin ys h₅ tk₅ nw₅ (Nat.le_succ_of_le hyl) F₅ N₅ off₅ hS₅ R₅
        | true =>
          simp only [if_true] at h₅ ⊢
          refine wpAny_mono h₅ (fun y s₆ h₆ => ?_) fun _ _ e => e
          obtain ⟨h₅, tk₅, nw₅, rfl, F₅, N₅, off₅, hS₅, R₅⟩ := h₆
          have off5 := off₅.mem
          have zI := (N₅ (I, oI) List.mem_cons_self).1
          have zC := (N₅ (H2.objs.size, oC) (List.mem_cons_of_mem _ List.mem_cons_self)).1
          have zD := (N₅ (g0.objs.size, LCg.lst ys) (List.mem_cons_of_mem _ (List.mem_cons_of_mem _ List.mem_cons_self))).1
          have N₅' : News h₀ L h₅ nw₅ := fun q hq => N₅ q (List.mem_cons_of_mem _ (List.mem_cons_of_mem _ (List.mem_cons_of_mem _ hq)))
          refine append_at (hsz := by show ys.toArray.size ≤ sizeLine; rw [List.size_toArray]; exact Nat.le_trans hyl (Nat.le_trans hi hsz)) zD fun h₆ hs₆ hD₆ => ?_
          refine fin (ys ++ [y]) h₆ _ nw₅ (by rw [List.length_append, List.length_singleton]; exact Nat.succ_le_succ hyl) (F₅.change hs₆ hDL hD₀) (fun q hq => ?_) off₅ hS₅ R₅
          walk_at "9ae"
          · exact ⟨hs₆.extBut I oI hDI zI, Ne.symm hIL, hI₀⟩
          walk_at "9ae"
          · exact ⟨hs₆.extBut _ oC (Ne.symm hDC) zC, hCL, hC₀⟩
          walk_at "9ae"
          · exact ⟨hD₆.trans (congrArg some (LCg.lst_snoc ys y)), hDL, hD₀⟩
          · exact ⟨hs₆.extBut _ _ (off5 q hq).2.2 (N₅' q hq).1, (N₅' q hq).2⟩
      · obtain rfl : i = its.size := Nat.le_antisymm hi (Nat.not_lt.mp hlt)
        rw [List.drop_eq_nil_of_le (Nat.le_of_eq hlen)] at R'
        refine W.done _ _ _ ⟨hit, hl'⟩ fun h₂ tk₂ hk₂ => ?_
        exact hRR _ _ h₂ tk₂ _ ys nw (LCg.fr_but F' hk₂ hIL hI₀) (LCg.news_but N' hk₂ fun p hp => by
          walk_at "9x"
          · exact Ne.symm hDI
          · exact (off3 p hp).1) off'.one (hn'.at' fun o e => hk₂ _ o (by simpa using Ne.symm hCI) e) hC₀ hD₀ hCL hDL (Ne.symm hDC) (fun p hp => (off3 p hp).2.1) R'
    · walk_at "9x"
      · exact ⟨hacc, hDL, hD₀⟩
      · exact ⟨old _ _ (N p hp).1, (N p hp).2⟩
  exact codeAny_compStart_list (loop _ rfl) (W.self 0 _ _ _ ⟨hit0.at fun o e => old _ o e, hlist (fun p hp => ⟨old _ _ (N p hp).1, (N p hp).2⟩) fun p hp => hp⟩ (loop _ rfl))
def SrcPT (prog : Program) (w : World) (A : Around) (h₀ : Heap) (L : Addr) (m : Str → Option Value) (env : Env) (c elt : PySem.Expr) (a b : Str) (scope : Scope) (cl : List (Str × Addr)) (Fin : Shared → List Value → List (Addr × Obj) → Prop) (xv : Value) (s₁ : Shared) : Prop :=
  ∃ (ax : Addr) (its : Array Value) (k0 : Nat) (xs : List ((Tok → Value) × Value)) (news : List (Addr × Obj)), xv = .ref ax ∧ A.handled = none ∧ Fr h₀ L s₁.heap m ∧ News h₀ L s₁.heap news ∧ its.size ≤ sizeLine ∧ PairsAt its xs news ∧ (ax, (⟨.type "list", none, .seq its k0, #[]⟩ : Obj)) ∈ news ∧
    (∀ g : Heap, KctRest prog w A h₀ L m env c elt a b scope cl { s₁ with heap := g } (Holds news) (Fin s₁) xs [] news)
theorem SrcPT.intro {c elt : PySem.Expr} {a b : Str} {scope : Scope} {cl : List (Str × Addr)} {Fin : Shared → List Value → List (Addr × Obj) → Prop} {ax : Addr} {its : Array Value} {k0 : Nat} {xs : List ((Tok → Value) × Value)} {news : List (Addr × Obj)} {s₁ : Shared}
    (hh : A.handled = none) (F : Fr h₀ L s₁.heap m) (N : News h₀ L s₁.heap news) (hm : (ax, listOf its k0) ∈ news) (hP : PairsAt its xs news) (hsz : its.size ≤ 900)
    (h : ∀ g : Heap, KctRest prog w A h₀ L m env c elt a b scope cl { s₁ with heap := g } (Holds news) (Fin s₁) xs [] news) : SrcPT prog w A h₀ L m env c elt a b scope cl Fin (.ref ax) s₁ :=
  ⟨ax, its, k0, xs, news, rfl, hh, F, N, by rw [sizeLine_eq]; walk_at "om", hP, hm, h⟩
theorem pt_comp {elt iter c : PySem.Expr} {a b : Str} {pa pb tp : Pos} {kk : Nat} {scope : Scope} {cl : List (Str × Addr)} {pos : Pos} {Q : Value → Shared → Prop} (_F₀ : Fr h₀ L s.heap m)
    (hclos : closureFor scope env = pure cl) (hcell : ∀ y ∈ scope.names, y.2 ≠ .cell) (hkind : scope.kind = .function)
    (hnames : ∀ y ∈ scope.names, y.2 = .local → scope.names.lookup y.1 = some .local) (hxa : scope.names.lookup a = some .local) (hxb : scope.names.lookup b = some .local) (hab : ¬ a = b)
    (h : wpAny (model prog w) A (eval iter env) (SrcPT prog w A h₀ L m env c elt a b scope cl (fun s₂ => LCg.FinE h₀ L m s₂ Q)) E s)
    (hs : ∀ x, foldedSetIterable iter env x = pure x := by intro _; rfl) :
    wpAny (model prog w) A (eval (.ListComp elt [⟨.Tuple [.Name a pa, .Name b pb] kk tp, iter, [c], 0⟩] scope pos) env) Q E s := by
  revert _F₀ hclos hcell hkind hnames hxa hxb hab h hs
  revert prog w A E s h₀ L m env elt iter c a b pa pb tp kk scope cl pos Q
  walk_at "9c"
  intro prog w A E s h₀ L m env elt iter c a b pa pb
  clear_value prog w A E s h₀ L m env elt iter c a b pa pb
  walk_at "9f"
  intro tp kk scope cl
  clear_value tp kk scope cl
  walk_at "9e"
  intro pos Q
  clear_value pos Q
  walk_at "in"
  rw [eval_ListComp]
  refine wpAny_comprehension_free (use := none) rfl hs hclos hkind hnames (wpAny_mono h (fun xv s₁ h₁ => ?_) fun _ _ e => e)
  obtain ⟨ax, its, k0, xs, news, rfl, hh, F, N, hsz, hP, hm, R⟩ := h₁
  refine pt_block hh hsz hP hm hcell hkind hxa hxb hab F N R ?_
  intro D C h tk m' ys news' F' N' o1 hn hC₀ hD₀ hCL hDL hCD offC fin
  refine ⟨m', hn, fun h'' hs'' => fin D h'' tk (F'.change hs'' hCL hC₀) (fun p hp => ?_) o1⟩
  refine ⟨hs''.extBut _ _ ?_ (N' p hp).1, (N' p hp).2⟩
  walk_at "9x"
  · exact Ne.symm hCD
  · exact offC p hp
end
def Small (d B : Nat) (x : Tr) : Prop := x.dep ≤ d ∧ ∀ i, x = .at (.int i) → Bits i B
theorem Small.mono {d B d' B' : Nat} {x : Tr} (h : Small d B x) (k : d ≤ d') (k' : B ≤ B') : Small d' B' x := ⟨Nat.le_trans h.1 k, fun i e => Nat.le_trans (h.2 i e) k'⟩
theorem small_at {d B : Nat} {a : At} (h : ∀ i, a = .int i → Bits i B) : Small d B (.at a) := ⟨Nat.zero_le _, fun i e => h i (by injection e)⟩
theorem small_f {d B : Nat} {x : Tr} (h : x.dep ≤ d) (n : ∀ i, x ≠ .at (.int i)) : Small d B x := ⟨h, fun i e => absurd e (n i)⟩
theorem told_small {o : Op} {as : List At} {y : Tr} {d B : Nat} (h : (told o as).map Tr.at = some y) (h1 : 1 ≤ B) (hb : Bd B as) : Small (d + 1) (2 * B) y := by
  obtain ⟨a, ha, rfl⟩ := Option.map_eq_some_iff.mp h
  exact small_at fun i e => by subst e; exact told_bits ha hb h1
theorem frn {o : Op} {x : Tr} {a : At} : Tr.f1 o x ≠ .at a := fun q => nomatch q
theorem fsn {o : Op} {x y : Tr} {a : At} : Tr.f2 o x y ≠ .at a := fun q => nomatch q
theorem called1_cases {o : Op} {x y : Tr} (h : called1 o x = some y) : (∃ o', y = .f1 o' x) ∨ (∃ a, y = .at a ∧ ∀ i, a ≠ .int i) ∨ (x.int?.bind fun i => (told1 o (.int i)).map Tr.at) = some y := by
  cases o with
  | consp => cases h; exact .inl ⟨_, rfl⟩
  | not => cases h; exact .inl ⟨_, rfl⟩
  | car => cases h; exact .inl ⟨_, rfl⟩
  | intp => cases h; exact .inr (.inl ⟨_, rfl, fun i q => by split at q <;> cases q⟩)
  | _ => exact .inr (.inr h)
theorem called2_kinds {o : Op} {x x' y : Tr} (h : called2 o x x' = some y) : (∃ o', y = .f2 o' x x') ∨ (∃ a, y = .at a ∧ ∀ i, a ≠ .int i) ∨ (x.int?.bind fun i => x'.int?.bind fun j => (told2 o i j).map Tr.at) = some y := by
  cases o with
  | eqv => cases h; exact .inl ⟨_, rfl⟩
  | cons => cases h; exact .inl ⟨_, rfl⟩
  | gt =>
    walk_at "9ar"
    obtain ⟨j, hj, h⟩ := Option.map_eq_some_iff.mp h
    exact .inr (.inl ⟨_, h.symm, fun i q => by split at q <;> cases q⟩)
  | _ => exact .inr (.inr h)
theorem small_a {d B : Nat} {y : Tr} (h : ∃ a, y = .at a ∧ ∀ i, a ≠ .int i) : Small d B y := by
  obtain ⟨a, rfl, n⟩ := h
  exact small_at fun i q => absurd q (n i)
theorem called1_small {o : Op} {x y : Tr} {d B : Nat} (h : called1 o x = some y) (h1 : 1 ≤ B) (hx : Small d B x) : Small (d + 1) (2 * B) y := by
  rcases called1_cases h with ⟨o', rfl⟩ | h | h
  · exact small_f (Nat.succ_le_succ hx.1) fun i => frn
  · exact small_a h
  · walk_at "9ar"
    refine told_small (as := [.int i]) h h1 fun k hk => hx.2 _ ?_
    rw [At.int.inj (List.mem_singleton.mp hk)]
    exact Tr.int_eq hi
theorem called2_small {o : Op} {x x' y : Tr} {d B : Nat} (h : called2 o x x' = some y) (h1 : 1 ≤ B) (hx : Small d B x) (hx' : Small d B x') : Small (d + 1) (2 * B) y := by
  rcases called2_kinds h with ⟨o', rfl⟩ | h | h
  · exact small_f (Nat.succ_le_succ (Nat.max_le.mpr ⟨hx.1, hx'.1⟩)) fun i => fsn
  · exact small_a h
  · walk_at "9ar"
    obtain ⟨j, hj, h⟩ := Option.bind_eq_some_iff.mp h
    refine told_small (as := [.int i, .int j]) h h1 fun k hk => ?_
    rcases List.mem_cons.mp hk with e | hk
    · rw [At.int.inj e]; exact hx.2 _ (Tr.int_eq hi)
    · rw [At.int.inj (List.mem_singleton.mp hk)]; exact hx'.2 _ (Tr.int_eq hj)
theorem called_small {o : Op} {args : List Tr} {y : Tr} {d B : Nat} (h : called o args = some y) (h1 : 1 ≤ B) (hs : ∀ x ∈ args, Small d B x) : Small (d + 1) (2 * B) y := by
  rcases args with _ | ⟨x, _ | ⟨x', _ | ⟨_, _⟩⟩⟩
  · exact noS h
  · exact called1_small h h1 (hs x (.head _))
  · exact called2_small h h1 (hs x (.head _)) (hs x' Z1)
  · exact noS h
theorem small_push {d B : Nat} {st st' : List Tr} {y : Tr} (up : ∀ x ∈ st, Small d B x) (hsub : ∀ x ∈ st', x ∈ st) (hy : Small d B y) : ∀ x ∈ st' ++ [y], Small d B x := fun x hx => by
  rcases List.mem_append.mp hx with hx | hx
  · exact up x (hsub x hx)
  · rw [List.mem_singleton.mp hx]; exact hy
theorem small_step {cs : List At} {l : Ln} {r : List Ln} {st : List Tr} {res : Res} {d B : Nat} (h : run (l :: r) cs st = some res) (h1 : 1 ≤ B) (hb : Bd (2 * B) cs) (hs : ∀ x ∈ st, Small d B x) (up : ∀ x ∈ st, Small (d + 1) (2 * B) x) :
    (∃ st', run r cs st' = some res ∧ ∀ x ∈ st', Small (d + 1) (2 * B) x) ∨ ∀ x ∈ res.trs, Small (d + 1) (2 * B) x := by
  cases l with
  | c k =>
    rw [run_zc] at h
    obtain ⟨a, ha, h⟩ := Option.bind_eq_some_iff.mp h
    exact .inl ⟨_, h, small_push up (fun _ q => q) (small_at fun i q => hb i (by rw [← q]; exact List.mem_of_getElem? ha))⟩
  | v n => exact .inl ⟨_, h, small_push up (fun _ q => q) (small_f (Nat.zero_le _) fun i q => nomatch q)⟩
  | p o =>
    by_cases hm : o.many ≤ st.length
    · cases e : called o (st.drop (st.length - o.many)) with
      | none =>
        rw [run_z1 hm e] at h
        cases h
        exact .inr fun y hy => up y (List.mem_of_mem_drop hy)
      | some x =>
        rw [run_z2 hm e] at h
        exact .inl ⟨_, h, small_push up (fun _ q => List.mem_of_mem_take q) (called_small e h1 fun y hy => hs y (List.mem_of_mem_drop hy))⟩
    · rw [run_z0 hm] at h; cases h
theorem run_small {cs : List At} {lns : List Ln} {st : List Tr} {res : Res} {d B : Nat} (h : run lns cs st = some res) (h1 : 1 ≤ B) (hb : Bd B cs) (hs : ∀ x ∈ st, Small d B x) : ∀ x ∈ res.trs, Small (d + lns.length) (2 ^ lns.length * B) x := by
  induction lns generalizing st d B with
  | nil =>
    cases h
    exact fun x hx => (hs x hx).mono (Nat.le_refl _) (Nat.le_mul_of_pos_left _ (Nat.two_pow_pos _))
  | cons l r ih =>
    rw [List.length_cons, Nat.pow_succ, Nat.mul_assoc, Nat.add_comm r.length 1, ← Nat.add_assoc]
    have hB : B ≤ 2 * B := Nat.le_mul_of_pos_left _ (by decide)
    rcases small_step h h1 (hb.mono hB) hs fun x hx => (hs x hx).mono (Nat.le_succ _) hB with ⟨st', h', z⟩ | z
    · exact ih h' (Nat.le_trans h1 hB) (hb.mono hB) z
    · exact fun y hy => (z y hy).mono (Nat.le_add_right _ _) (Nat.le_mul_of_pos_left _ (Nat.two_pow_pos _))
theorem step_shape (st : List Ln × List At) (l : Ln) : ∃ m y, (step st l).1 = st.1.take m ++ [y] ∧ Ext st.2 (step st l).2 := by
  have plain : ∀ l : Ln, ∃ m y, ((st.1 ++ [l], st.2) : List Ln × List At).1 = st.1.take m ++ [y] ∧ Ext st.2 ((st.1 ++ [l], st.2) : List Ln × List At).2 := fun l => ⟨st.1.length, l, by rw [List.take_length], Ext.refl⟩
  cases l with
  | c k => exact plain _
  | v n => exact plain _
  | p o =>
    unfold Mine.step
    dsimp only
    split
    · split
      · rename_i v hv
        exact ⟨_, _, rfl, (indexOf_spec _ _).1⟩
      · exact plain _
    · exact plain _
section
variable {cs : List At} {lns : List Ln}
theorem stAt_facts (ok : ∀ l ∈ lns, l.ok cs) (hb : Bd 3 cs) (hl : lns.length ≤ 12) (i : Nat) : Fold cs (lns.take i) (stAt lns cs i) 12288 := by
  have F := fold_facts (lns := lns.take i) (fun l h => ok l (List.mem_of_mem_take h)) hb (by decide)
  refine ⟨F.ext, F.ok, F.clean, F.len, F.same, F.bits.mono ?_⟩
  have h1 : (lns.take i).length ≤ 12 := by rw [List.length_take]; walk_at "om"
  have : 2 ^ (lns.take i).length ≤ 2 ^ 12 := Nat.pow_le_pow_right (by decide) h1
  walk_at "om"
theorem run_first (hb : Bd 3 cs) (hl : lns.length ≤ 12) (k : Nat) {st : List Tr} (h : run (lns.take k) cs [] = some (.leaves st)) : ∀ x ∈ st, Small 12 12288 x := fun x hx => by
  have h1 : (lns.take k).length ≤ 12 := by rw [List.length_take]; walk_at "om"
  have := run_small h (d := 0) (B := 3) (by decide) hb (fun x hx => nomatch hx) x hx
  refine this.mono (by walk_at "om") ?_
  have : 2 ^ (lns.take k).length ≤ 2 ^ 12 := Nat.pow_le_pow_right (by decide) h1
  walk_at "om"
theorem run_second (ok : ∀ l ∈ lns, l.ok cs) (hb : Bd 3 cs) (hl : lns.length ≤ 12) (i : Nat) (hi : i ≤ lns.length) (k : Nat) (st : List Tr) (h : run ((stAt lns cs i).1.take k) (stAt lns cs i).2 [] = some (.leaves st)) : ∀ x ∈ st, Small 12 12288 x := by
  induction i generalizing k with
  | zero =>
    have e : (stAt lns cs 0).1.take k = lns.take 0 := by show ([] : List Ln).take k = _; rw [List.take_nil, List.take_zero]
    rw [e] at h
    exact run_first hb hl 0 h
  | succ i ih =>
    obtain ⟨l, hli⟩ : ∃ l, lns[i]? = some l := ⟨_, List.getElem?_eq_getElem hi⟩
    obtain ⟨m, y, e, x⟩ := step_shape (stAt lns cs i) l
    have Fi := stAt_facts ok hb hl i
    have Fj := stAt_facts ok hb hl (i + 1)
    rw [← stAt_succ hli] at e x
    by_cases hk : k ≤ ((stAt lns cs i).1.take m).length
    · rw [e, List.take_append_of_le_length hk, List.take_take] at h
      rw [run_ext x fun l hl => Fi.ok l (List.mem_of_mem_take hl)] at h
      exact ih (Nat.le_of_succ_le hi) _ h
    · rw [List.take_of_length_le (by rw [e, List.length_append, List.length_singleton]; walk_at "om"), Fj.same] at h
      exact run_first hb hl _ h
theorem stAt_second (ok : ∀ l ∈ lns, l.ok cs) (hb : Bd 3 cs) (hl : lns.length ≤ 12) (i : Nat) : stAt (foldL lns cs).1 (foldL lns cs).2 i = ((foldL lns cs).1.take i, (foldL lns cs).2) := by
  have F := fold_facts ok hb (by decide)
  exact clean_fold (F.clean.take i) _ [] rfl
end
theorem res_dep {cs : List At} {lns : List Ln} {res : Res} (h : run lns cs [] = some res) (hl : lns.length ≤ 12) (hb : Bd 3 cs) : ∀ x ∈ res.trs, x.dep ≤ 12 := fun x hx => by
  have := (run_small h (d := 0) (B := 3) (by decide) hb (fun x hx => nomatch hx) x hx).1
  walk_at "om"
theorem Runs.some {lns : List Ln} {cs : List At} {n : Nat} (R : Runs lns cs n) : ∃ res, run lns cs [] = some res := by
  rcases R with ⟨o, as, e⟩ | ⟨st, e, -⟩
  · exact ⟨_, e⟩
  · exact ⟨_, e⟩
theorem off_base {g h : Heap} {L x : Addr} {m : Str → Option Value} (F : Fr g L h m) (e : h.get? x = none) : g.get? x = none ∧ x ≠ L := by
  refine ⟨?_, fun q => ?_⟩
  · cases q : g.get? x with
    | none => rfl
    | some o => rw [F.keep x o q] at e; cases e
  · obtain ⟨o, es, ep, e', _⟩ := F.ns
    rw [q, e'] at e; cases e
theorem ne_of_none {h : Heap} {a b : Addr} {o : Obj} (e : h.get? a = none) (e' : h.get? b = some o) : a ≠ b := fun q => by rw [q, e'] at e; cases e
theorem hz_up {h₀ h h' : Heap} {ex M : List Addr} {b : Addr} {o : Obj} (z : HZ h₀ h ex b o) (k : Kept M h h') (hM : ∀ y ∈ M, y ∈ ex) : HZ h₀ h' ex b o := ⟨k b o (fun q => z.2.2 (hM b q)) z.1, z.2⟩
theorem hz_ex {h₀ h : Heap} {ex : List Addr} {b x : Addr} {o : Obj} (z : HZ h₀ h ex b o) (e : h.get? x = none) : HZ h₀ h (x :: ex) b o := ⟨z.1, z.2.1, fun q => by
  rcases List.mem_cons.mp q with rfl | q
  · have h1 := z.1
    rw [e] at h1; cases h1
  · exact z.2.2 q⟩
section
variable {prog : Program} {w : World} {h₀ h h' : Heap} {ex M : List Addr} {W : WA} {D : WD} {N : Nat}
theorem WPd.up (z : WPd prog w (HZ h₀ h ex) W D N) (k : Kept M h h') (hM : ∀ y ∈ M, y ∈ ex) : WPd prog w (HZ h₀ h' ex) W D N := z.mono fun b x q => hz_up q k hM
theorem WPd.exc (z : WPd prog w (HZ h₀ h ex) W D N) {x : Addr} (e : h.get? x = none) : WPd prog w (HZ h₀ h (x :: ex)) W D N := z.mono fun b o q => hz_ex q e
theorem WPd.less {ex' : List Addr} (z : WPd prog w (HZ h₀ h ex) W D N) (hM : ∀ y ∈ ex', y ∈ ex) : WPd prog w (HZ h₀ h ex') W D N := z.mono fun b o q => ⟨q.1, q.2.1, fun r => q.2.2 (hM b r)⟩
theorem WPd.off (z : WPd prog w (HZ h₀ h ex) W D N) {y : Addr} (hy : y ∈ ex) : y ≠ W.nd ∧ y ≠ W.rl := ⟨fun q => z.nd.2.2 (q ▸ hy), fun q => z.rl.2.2 (q ▸ hy)⟩
end
section
variable {prog : Program} {w : World} {A : Around} {E : Value → Shared → Prop} {s : Shared} {Q : Value → Shared → Prop}
theorem all_true {n : Nat} : (List.range n).all (fun _ => true) = true := by rw [List.all_eq_true]; exact fun _ _ => rfl
theorem res_ne {v v' : Value} {r : Res} (z : ResV s.heap v r) (z' : ResV s.heap v' r) (hd : ∀ x ∈ r.trs, x.dep ≤ 12) (hu : A.units + 40 < cLine) (hq : Q (.bool false) s) : wpAny (model prog w) A (compareOp .NotEq v v') Q E s := by
  obtain ⟨a, a', vs, vs', rfl, rfl, t, t', hs, he⟩ := res_rc z z' hd hu
  refine SeqAt.RcNeAt.tuples (e := fun _ => true) t t' (by walk_at "om") he prog w E Q ?_
  rw [all_true, hs, beq_self_eq_true]
  exact hq
theorem lines_eq {h₀ : Heap} {ra rb : Addr} {xs ys : List Value} {f : List Ln} (hl : s.heap.IsList ra xs.toArray) (hl' : s.heap.IsList rb ys.toArray) (al : All2 (LnZ h₀ s.heap) xs f) (al' : All2 (LnZ h₀ s.heap) ys f) (hu : A.units + 10 < cLine) (hq : Q (.bool true) s) : wpAny (model prog w) A (compareOp .Eq (.ref ra) (.ref rb)) Q E s := by
  refine SeqAt.RcAt.lists (e := fun _ => true) hl hl' (by rw [List.size_toArray, List.size_toArray, al.length, al'.length]) (by walk_at "om") (fun j h1 h2 => ?_) prog w E Q (by rw [all_true]; exact hq)
  obtain ⟨x, e, z⟩ := al.at j (by simpa using h1)
  obtain ⟨x', e', z'⟩ := al'.at j (by simpa using h2)
  rw [e] at e'; cases e'
  rw [List.getElem_toArray, List.getElem_toArray]
  obtain ⟨a, t, u, ea, ta, -⟩ := z
  obtain ⟨b, t', u', eb, tb, -⟩ := z'
  rw [ea, eb]
  refine eq_alike ta tb (by show A.units + 1 < cLine; walk_at "om") rfl (eq_two (eq_str _ _ _) (eq_int _ _ _))
end
theorem kn_all {h h' : Heap} {M : List Addr} (k : Kept M h h') (m : ∀ b ∈ M, ∃ o, h.get? b = some o ∧ Mu o) : KN h h' := KN.of k m
theorem lnz_kn {h₀ h h' : Heap} {vs : List Value} {f : List Ln} (k : KN h h') (al : All2 (LnZ h₀ h) vs f) : All2 (LnZ h₀ h') vs f := al.mono fun _ _ z => z.kn k
theorem fa0 {α : Type} {P : α → Prop} : ∀ b ∈ ([] : List α), P b := fun _ h => nomatch h
theorem fa1 {α : Type} {P : α → Prop} {a : α} {l : List α} (h : P a) (t : ∀ b ∈ l, P b) : ∀ b ∈ a :: l, P b := fun b hb => by
  walk_at "9N"
  · exact h
  · exact t b hb
theorem turn_same {g h h' : Heap} {L : Addr} {m' : Str → Option Value} {X X' own : List (Addr × Obj)} (F : Fr g L h' m') (N : News g L h' (X' ++ own)) (e : ∀ p ∈ X, h.get? p.1 = some p.2) (a : ∀ b o, h.get? b = some o → b ≠ L → b ∉ X.map (·.1) → g.get? b = some o ∨ (b, o) ∈ own) (sub : ∀ p ∈ X, p ∈ X') : Kept [L] h h' := fun b o hb q => by
  have hL : b ≠ L := fun z => hb (z ▸ .head _)
  by_cases hx : b ∈ X.map (·.1)
  · obtain ⟨p, hp, rfl⟩ := List.mem_map.mp hx
    have e1 := e p hp
    rw [q] at e1
    have := (N p (List.mem_append_left _ (sub p hp))).1
    rw [this, ← e1]
  · rcases a b o q hL hx with z | z
    · exact F.keep b o z
    · exact (N _ (List.mem_append_right _ z)).1
theorem sk1 {α : Type} {a x : α} {l : List α} (h : x ∈ l) : x ∈ a :: l := .tail _ h
theorem sk2 {α : Type} {a b x : α} {l : List α} (h : x ∈ l) : x ∈ a :: b :: l := .tail _ (.tail _ h)
theorem sk3 {α : Type} {a b c x : α} {l : List α} (h : x ∈ l) : x ∈ a :: b :: c :: l := .tail _ (.tail _ (.tail _ h))
theorem sk4 {α : Type} {a b c d x : α} {l : List α} (h : x ∈ l) : x ∈ a :: b :: c :: d :: l := .tail _ (.tail _ (.tail _ (.tail _ h)))
theorem sk5 {α : Type} {a b c d e x : α} {l : List α} (h : x ∈ l) : x ∈ a :: b :: c :: d :: e :: l := .tail _ (.tail _ (.tail _ (.tail _ (.tail _ h))))
theorem na0 {α : Type} {a : α} : a ∉ ([] : List α) := fun h => nomatch h
theorem na1 {α : Type} {a b : α} {l : List α} (h : a ≠ b) (t : a ∉ l) : a ∉ b :: l := fun q => (List.mem_cons.mp q).elim h t
theorem loc1 {a : Str} {v : Option Value} {m : Str → Option Value} (h : m a = v) : ∃ u : Str → Option Value, m = fun z => if z = a then v else u z := ⟨m, funext fun z => by
  by_cases q : z = a
  · rw [if_pos q, q, h]
  · rw [if_neg q]⟩
theorem kept_base {s h h' : Heap} {L : Addr} (k : Kept [L] h h') (e : s.get? L = none) (kp : Kept [] s h) : Kept [] s h' := fun b o hb q => k b o (na1 (fun z => by rw [z, e] at q; cases q) na0) (kp b o hb q)
section
variable {M : Model} {A : Around} {E : Value → Shared → Prop} {s s₁ : Shared} {env : Env} {body : List Stmt} {Q : Flow → Shared → Prop} {g : Heap} {L : Addr} {ro : List Addr} {Inv : Heap → (Str → Option Value) → Nat → Prop} {α : Type} {t : Sem α}
theorem turn_cut (h : ∀ PQ : Flow → Shared → Prop, (∀ s₂, EndH g L ro Inv s₁ s₂ → PQ .next s₂) → (∀ v s₂, Q (.ret v) s₂ → PQ (.ret v) s₂) → wpAny M A t (fun _ s₃ => wpAny M A (execs body env) PQ E s₃) E s) : wpAny M A t (fun _ s₃ => wpAny M A (execs body env) (PostH g L ro Inv s₁ Q) E s₃) E s :=
  h _ (fun _ x => x) (fun _ _ x => x)
end
theorem io_list {C d : Addr} {vs : Array Value} {n : Nat} : instObj C d ≠ listOf vs n := fun q => by cases q
theorem do_list {es : List DictEntry} {k : Nat} {vs : Array Value} {n : Nat} : dictOf es k ≠ listOf vs n := fun q => by injection q with q; injection q with q; exact absurd q (by decide)
theorem ns_dict {h : Heap} {L : Addr} {m : Str → Option Value} (n : h.Ns L m) : ∃ o es ep, h.get? L = some o ∧ o.data = .dict es ep := by
  obtain ⟨o, es, ep, e, d, _⟩ := n; exact ⟨o, es, ep, e, d⟩
theorem mu_dict {prog : Program} {w : World} {K : Type} [DecidableEq K] {knd : KeyKind prog w K} {o : Obj} {kvs : List (K × Value)} (h : o.IsDictOf knd kvs) : Mu o := by
  obtain ⟨es, ep, _, d, _⟩ := h; exact .inl ⟨es, ep, d⟩
theorem kn_loc {h h' : Heap} {L : Addr} {m : Str → Option Value} (k : Kept [L] h h') (n : h.Ns L m) : KN h h' := KN.of k (fa1 (ns_mu n) fa0)
theorem ro_nil {h h' : Heap} (k : KN h h') : ∀ b o, h.get? b = some o → isIt o = true ∨ b ∈ ([] : List Addr) → h'.get? b = some o := fun b o e q => k b o e (it_nmu (q.resolve_right (fun z => nomatch z)))
noncomputable def LefI (s₀ : Heap) (ck : Addr) (oc : Obj) (v : Option Value) : HInv := fun i h m tk => m (Str.ofString "lines") = v ∧ h.get? ck = some oc ∧ Kept [] s₀ h
theorem LefI.up {s₀ hs : Heap} {ck : Addr} {oc : Obj} {v : Option Value} (hc : NF oc) (hk : ∀ b o, s₀.get? b = some o → ∃ o', hs.get? b = some o') : ∀ i h h' m tk tk', LefI s₀ ck oc v i h m tk → KI hs h h' → tk ≤ tk' → LefI s₀ ck oc v i h' m tk' :=
  fun i h h' m tk tk' ⟨hm, e2, kp⟩ k ht => ⟨hm, k.nf hc e2, kp.ki k hk⟩
theorem len1 {α : Type} {l : List α} (h : l.length = 1) : ∃ a, l = [a] := by
  cases l with
  | nil => cases h
  | cons a r => cases r with
    | nil => exact ⟨a, rfl⟩
    | cons b r => cases h
theorem len2 {α : Type} {l : List α} (h : l.length = 2) : ∃ a b, l = [a, b] := by
  cases l with
  | nil => cases h
  | cons a r =>
    obtain ⟨b, rfl⟩ := len1 (Nat.succ.inj h)
    exact ⟨a, b, rfl⟩
inductive RnX (s₀ : Heap) (ca sk ck : Addr) (oc : Obj) (lns : List Ln) (cs : List At) (i : Nat) (h : Heap) (m : Str → Option Value) (tk : Nat) : Prop
  | mk (tvs : List Value) (sn : Nat) (st : List Tr) (hm : m (Str.ofString "constants") = some (.ref ca)) (e : h.get? sk = some (listOf tvs.toArray sn)) (e2 : h.get? ck = some oc) (al : All2 (TrV h) tvs st) (hr : run (lns.take i) cs [] = some (.leaves st)) (hl : tvs.length ≤ i) (kp : Kept [] s₀ h) : RnX s₀ ca sk ck oc lns cs i h m tk
noncomputable def RnI (s₀ : Heap) (ca sk ck : Addr) (oc : Obj) (lns : List Ln) (cs : List At) : HInv := RnX s₀ ca sk ck oc lns cs
theorem RnI.up {s₀ hs : Heap} {ca sk ck : Addr} {oc : Obj} {lns : List Ln} {cs : List At} (hc : NF oc) (hk : ∀ b o, s₀.get? b = some o → ∃ o', hs.get? b = some o') : ∀ i h h' m tk tk', RnI s₀ ca sk ck oc lns cs i h m tk → KI hs h h' → tk ≤ tk' → RnI s₀ ca sk ck oc lns cs i h' m tk' := by
  intro i h h' m tk tk' z k ht
  obtain ⟨tvs, sn, st, hm, e, e2, al, hr, hl, kp⟩ := z
  exact ⟨tvs, sn, st, hm, k.nf list_nf e, k.nf hc e2, al.mono fun _ _ z => z.ki k, hr, hl, kp.ki k hk⟩
theorem rn_next {s₀ h h' : Heap} {L ca sk ck : Addr} {oc : Obj} {lns : List Ln} {cs : List At} {m' : Str → Option Value} {i tk' : Nat} {st' : List Tr} {tvs' : List Value} {v : Value} {x : Tr} {sn' : Nat} (kp : Kept [] s₀ h) (hL : s₀.get? L = none) (hs : s₀.get? sk = none) (k : Kept [L, sk] h h') (hck : h'.get? ck = some oc) (e : h'.get? sk = some (listOf (tvs'.toArray.push v) sn')) (al : All2 (TrV h') tvs' st') (z : TrV h' v x) (hr : run (lns.take (i + 1)) cs [] = some (.leaves (st' ++ [x]))) (hl : tvs'.length ≤ i)
    (hm : m' (Str.ofString "constants") = some (.ref ca)) : RnI s₀ ca sk ck oc lns cs (i + 1) h' m' tk' := by
  rw [List.push_toArray] at e
  refine ⟨tvs' ++ [v], sn', st' ++ [x], hm, e, hck, al.snoc z, hr, by rw [List.length_append]; exact Nat.succ_le_succ hl, fun b o hb q => k b o (na1 (fun z => ?_) (na1 (fun z => ?_) na0)) (kp b o hb q)⟩
  · rw [z, hL] at q; cases q
  · rw [z, hs] at q; cases q
theorem turn_but2 {g h h' : Heap} {L sk : Addr} {m' : Str → Option Value} {X X' own : List (Addr × Obj)} (F : Fr g L h' m') (N : News g L h' (X' ++ own)) (e : ∀ p ∈ X, h.get? p.1 = some p.2) (a : ∀ b o, h.get? b = some o → b ≠ L → b ∉ X.map (·.1) → g.get? b = some o ∨ (b, o) ∈ own) (sub : ∀ p ∈ X, p.1 = sk ∨ p ∈ X') : Kept [L, sk] h h' := fun b o hb q => by
  have hL : b ≠ L := fun z => hb (z ▸ .head _)
  have hS : b ≠ sk := fun z => hb (z ▸ .tail _ (.head _))
  by_cases hx : b ∈ X.map (·.1)
  · obtain ⟨p, hp, rfl⟩ := List.mem_map.mp hx
    have e1 := e p hp
    rw [q] at e1
    have := (N p (List.mem_append_left _ ((sub p hp).resolve_left hS))).1
    rw [this, ← e1]
  · rcases a b o q hL hx with z | z
    · exact F.keep b o z
    · exact (N _ (List.mem_append_right _ z)).1
theorem turn_butM {g h h' : Heap} {L : Addr} {M' : List Addr} {m' : Str → Option Value} {X X' own : List (Addr × Obj)} (F : Fr g L h' m') (N : News g L h' (X' ++ own)) (e : ∀ p ∈ X, h.get? p.1 = some p.2) (a : ∀ b o, h.get? b = some o → b ≠ L → b ∉ X.map (·.1) → g.get? b = some o ∨ (b, o) ∈ own) (hL : L ∈ M') (sub : ∀ p ∈ X, p.1 ∈ M' ∨ p ∈ X') : Kept M' h h' := fun b o hb q => by
  have nL : b ≠ L := fun z => hb (z ▸ hL)
  by_cases hx : b ∈ X.map (·.1)
  · obtain ⟨p, hp, rfl⟩ := List.mem_map.mp hx
    have e1 := e p hp
    rw [q] at e1
    have := (N p (List.mem_append_left _ ((sub p hp).resolve_left hb))).1
    rw [this, ← e1]
  · rcases a b o q nL hx with z | z
    · exact F.keep b o z
    · exact (N _ (List.mem_append_right _ z)).1
theorem turn_op {g h : Heap} {L : Addr} {m : Str → Option Value} (X : List (Addr × Obj)) (F : Fr g L h m) (hX : ∀ p ∈ X, h.get? p.1 = some p.2 ∧ p.1 ≠ L ∧ g.get? p.1 = none) :
    ∃ own, News g L h (X ++ own) ∧ OwnOff own (X.map (·.1)) ∧ (∀ p ∈ X, h.get? p.1 = some p.2) ∧ (∀ b o, h.get? b = some o → b ≠ L → b ∉ X.map (·.1) → g.get? b = some o ∨ (b, o) ∈ own) := by
  obtain ⟨own, a, b, -, c⟩ := turn_open X F hX
  exact ⟨own, a, b, fun p hp => (hX p hp).1, c⟩
theorem kn_two {h h' : Heap} {L sk : Addr} {m : Str → Option Value} {vs : Array Value} {n : Nat} (k : Kept [L, sk] h h') (hn : h.Ns L m) (hsk : h.get? sk = some (listOf vs n)) : KN h h' := KN.of k (fa1 (ns_mu hn) (fa1 ⟨_, hsk, mu_list⟩ fa0))
theorem ne_fresh {h : Heap} {y L : Addr} {o : Obj} (e : h.get? y = some o) (n : h.get? L = none) : y ≠ L := fun q => by rw [q, n] at e; cases e
theorem ne_do {h : Heap} {y cd : Addr} {es : List DictEntry} {k n : Nat} {vs : Array Value} (e : h.get? y = some (listOf vs n)) (e' : h.get? cd = some (dictOf es k)) : y ≠ cd := ne_obj e e' fun q => by injection q with q; injection q with q; exact absurd q (by decide)
theorem ne_io {h : Heap} {y ca : Addr} {C d : Addr} {n : Nat} {vs : Array Value} (e : h.get? y = some (listOf vs n)) (e' : h.get? ca = some (instObj C d)) : y ≠ ca := ne_obj e e' fun q => by cases q
theorem ne_tl {h : Heap} {a y : Addr} {d : Option Addr} {dt : Data} {sl : Array (Option Value)} {vs : Array Value} {n : Nat} (e : h.get? a = some ⟨.type "tuple", d, dt, sl⟩) (e' : h.get? y = some (listOf vs n)) : a ≠ y := ne_obj e e' fun q => by injection q with q; injection q with q; exact absurd q (by decide)
theorem ne_td {h : Heap} {a y : Addr} {d : Option Addr} {dt : Data} {sl : Array (Option Value)} {es : List DictEntry} {n : Nat} (e : h.get? a = some ⟨.type "tuple", d, dt, sl⟩) (e' : h.get? y = some (dictOf es n)) : a ≠ y := ne_obj e e' fun q => by injection q with q; injection q with q; exact absurd q (by decide)
theorem ne_ti {h : Heap} {a y : Addr} {d : Option Addr} {vs : Array Value} {n : Nat} {sl : Array (Option Value)} {C x : Addr} (e : h.get? a = some ⟨.type "tuple", d, .seq vs n, sl⟩) (e' : h.get? y = some (instObj C x)) : a ≠ y := ne_obj e e' fun q => by cases q
theorem kept_two {s h h' : Heap} {L sk : Addr} (k : Kept [L, sk] h h') (e : s.get? L = none) (e' : s.get? sk = none) (kp : Kept [] s h) : Kept [] s h' := fun b o hb q => k b o (na1 (fun z => by rw [z, e] at q; cases q) (na1 (fun z => by rw [z, e'] at q; cases q) na0)) (kp b o hb q)
theorem nI {C d : Addr} : (instObj C d).cls ≠ .type "list" := fun q => nomatch q
theorem nD {es : List DictEntry} {n : Nat} : (dictOf es n).cls ≠ .type "list" := fun q => by injection q with q; revert q; decide
theorem nT {d : Option Addr} {vs : Array Value} {n : Nat} {sl : Array (Option Value)} : (⟨.type "tuple", d, .seq vs n, sl⟩ : Obj).cls ≠ .type "list" := fun q => by injection q with q; revert q; decide
theorem ne_l {h : Heap} {a b : Addr} {vs : Array Value} {n : Nat} {o : Obj} (e : h.get? a = some (listOf vs n)) (e' : h.get? b = some o) (k : o.cls ≠ .type "list") : a ≠ b := ne_obj e e' fun q => k (congrArg Obj.cls q.symm)
set_option linter.unusedSimpArgs false
theorem zrr1 : True := by
  k_with "@ite" => (k_closed; first | (with_reducible refine' ite_pos ?ic_1 ?_; (case ic_1 => with_unfolding_all decide)) | (with_reducible refine' ite_neg ?ic_1 ?_; (case ic_1 => with_unfolding_all decide)))
  k_with "@m_room" => first | ((try dsimp only [depth_under_make, depth_under_kw, depth_in1, depth_deeper, depth_caller, At0]); first | (with_reducible assumption) | exact q0 (by with_reducible assumption) | exact q1 (by with_reducible assumption) (by first | with_reducible rfl | decide) | exact q2 (by with_reducible assumption) (by first | with_reducible rfl | decide) | exact q3 (by with_reducible assumption) (by first | with_reducible rfl | decide)) | ((try simp only [depth_under_make, depth_under_kw, depth_in1, depth_deeper, depth_caller]); (try dsimp only [At0]); (try simp only [recursionLimit] at *); walk_at "om")
  k_with "@m_rest" => ((case ho => k_is); (case hcd => k_is); (case hr => walk_at "m_room"); (case hb => exact BindsTo.of_eq rfl); (case hl => exact locs rfl); (case c1 => exact rfl); (case c2 => exact rfl); (case c3 => exact rfl); (case c4 => decide); intro g0 L0 h10 tk10 htk0 hsub0 F0 N0 X0 T0 kg kb; (try dsimp only [List.reverse, List.reverseAux]); (try k_fold))
  k_with "@m_restC" => ((case ho => k_is); (case hcd => k_is); (case hr => walk_at "m_room"); (case hb => exact BindsTo.of_eq rfl); (case hl => exact rfl); (case hnd => decide +kernel); (case c1 => exact rfl); (case c2 => exact rfl); (case c3 => exact rfl); intro g0 L0 h10 tk10 cells0 hsub0 F0 N0 Y0 X0 T0 l10; (try k_lt l10); k_cells Y0; (try simp only [List.cons_append, List.nil_append] at N0); intro kg kb; (try dsimp only); (try k_fold))
  k_with "@m_ne" => (refine neN ?_; (try dsimp only); first
    | (with_reducible assumption) | exact Ne.symm (by with_reducible assumption)
    | exact off_ne (by with_reducible assumption) (by k_mem) | exact Ne.symm (off_ne (by with_reducible assumption) (by k_mem))
    | walk_at "nj"
    | ((repeat (with_reducible rename (_ ≠ _) ∧ _ => hh9; clear hh9)); (repeat (with_reducible rename _ ≠ _ => hh9; clear hh9)); walk_at "om")
    | ((try simp only [LCg.Off3, LCg.Off1, and_true] at *); walk_at "om"))
  k_with "@spliced" => (k_here; (with_reducible show wpAny _ _ (spliced (backTo _ (starEach [] _))) _ _ _); first
    | refine args_nil ⟨Fr.keep (by assumption) _ _ (by assumption), ?_⟩
    | (refine args_nil ?_; (try dsimp only [List.cons_append, List.nil_append])))
  k_with "@CompRestP" => (with_unfolding_all first
    | (refine LCp.CompRestP.succ ?_; intro v9' hv9'; lcg_open hv9'; refine ⟨_, _, _, _, _, rfl, by k_mem, rfl, rfl, ?_⟩; intro I9' oI9' C9' oC9' D9' m9' h9' tk9' E9' hC9' hx9' hy9' F9' N9' off9' ne9')
    | refine LCp.CompRestP.zero ?_)
  k_with "@CompRest" => (with_unfolding_all first
    | (refine LCg.CompRest.succ ?_; intro v9' I9' oI9' C9' oC9' D9' m9' h9' tk9' E9' hv9' hC9' hx9' F9' N9' off9' ne9'; (first | lcg_open hv9' | (obtain ⟨t99', hv99'⟩ := hv9'; subst hv99')))
    | refine LCg.CompRest.zero ?_)
  k_with "@FinE" => ((unfold LCg.FinE); intro D9' h9' tk9' F9' N9' o19'; (try simp only [List.nil_append, List.cons_append] at N9'); (try dsimp only))
  k_with "@FinA" => ((unfold LCg.FinA); intro D9' h9' tk9' F9' N9' o19'; (try simp only [List.nil_append, List.cons_append] at N9'); (try dsimp only))
  k_with "@m_rx" => ((have hqk : ∀ v s', EnterEnd _ _ _ v s' → qk (Flow.ret v) s' := fun _ _ z => z); (have hek : ∀ e s', wpAny _ _ (leaving _ e) _ _ s' → ek e s' := fun _ _ z => z); (refine with_po (by passes_own) ?_); intro hpo; clear_value qk ek; revert g0 L0 h10 tk10 qk ek; (refine ix4 ⟨by walk_at "df"⟩ ?_); intro g0 L0 h10 tk10; clear_value g0 L0 h10 tk10; walk_at "in"; revert qk ek; (refine ix2 ⟨by walk_at "df"⟩ ?_); intro qk ek; clear_value qk ek; walk_at "in")
  k_with "@m_po" => (with_reducible assumption)
  k_with "@m_off" => (with_reducible assumption)
  k_with "@m_list" => first | exact led_list (by k_asm) (by k_mem) | exact Heap.IsList.at (by with_reducible assumption) (fun o e => Fr.keep (by k_asm) _ o e) | is_list
  k_with "@m_len" => (simp only [List.size_toArray, List.length_append, List.length_cons, List.length_nil, sizeLine_eq]; walk_at "om")
  k_with "@call builtin:len" => (k_here; (with_reducible show wpAny _ _ (call (Value.builtin "len") [Value.ref _]) _ _ _); (refine' len_list ?k1_16 ?k2_16 ?_; (case k1_16 => walk_at "m_list"); (case k2_16 => walk_at "m_len")); k_whole)
  k_with "@call builtin:list.append" => (k_here; (with_reducible show wpAny _ _ (call (Value.builtin "list.append") [Value.ref _, _]) _ _ _); (refine' app_upd ?k1_17 ?k2_17 ?k3_17 ?k4_17 ?_; (case k1_17 => k_asm); (case k2_17 => k_asm); (case k3_17 => k_updF); (case k4_17 => first | assumption | walk_at "om")); intro h9' F9' N9'; (try dsimp only at N9'); (try k_sweep))
  k_with "@m_end" => ((try refine hqk _ _ ?_); refine endM (by with_reducible assumption) (by k_asm) (by k_asm) ?_)
  k_with "@m_tok" => first | assumption | walk_at "om" | ((try dsimp only [List.length] at *); walk_at "om")
  k_with "@m_atom" => first | assumption | exact AtV.nil | exact AtV.t | exact AtV.int
  k_with "@m_after0" => ((with_reducible rename Fr _ _ _ _ => kF9); (with_reducible rename News _ _ _ _ => kN9); (with_reducible rename Kept _ _ _ => kC9); (obtain ⟨F9', N9'⟩ := after0 kF9 kN9 kC9); (try k_sweep))
  k_with "@execs cons" => (k_here; with_reducible refine toks_gen ?_; intro tk9 htk9'; (try dsimp only at htk9'))
  k_with "@execs nil" => (k_here; with_reducible refine toks_gen ?_; intro tk9 htk9'; (try dsimp only at htk9'))
  k_with "@m_ff" => (refine' FF.push (FF.kept ?a1_24 ?a2_24) ?a3_24 ?a4_24; (case a3_24 => k_asm); (case a1_24 => with_reducible assumption); (case a2_24 => with_reducible assumption); (case a4_24 => with_unfolding_all exact rfl))
  trivial
theorem reg0 : PySem.Challenge.rw_oj0029_01 = PySem.Challenge.rw_oj0029_01 ∧ K = K := by
  k_fill
  exact ⟨rfl, rfl⟩
theorem zrr2 : True := by
  k_with "@m_fits" => first | assumption | exact ft_id (by assumption) | exact ft_0 (by assumption) | exact ft_1 (by assumption) | exact ft_add (by assumption) (by assumption) | exact ft_sub (by assumption) (by assumption) | exact ft_mul (by assumption) (by assumption) | exact ft_inc (by assumption) | exact ft_dec (by assumption)
  k_with "@pyIter ref" => ((with_reducible show wpAny _ _ (pyIter (Value.ref _)) (fun it s₂ => LoopAtV _ _ _ _ _ _ _ _ _ it s₂) _ _); k_listUnr)
  trivial
section
variable {prog : Program} {w : World} {dp un : Nat} {fr : Option (List Env)} {gd : Option (List Code)} {s : Shared} {h₀ : Heap} {p : Program} {lo : List Str} {mean : ExcName → Option Value} {mg mb : Str → Option Value} {Q E : Value → Shared → Prop}
theorem c_is_whole {v : Value} {a : At} (G : Gd w p lo mean mg mb h₀ s) (hd : dp + 1 < recursionLimit) (ha : AtV v a)
   (h : ∀ h' tk', Kept [] s.heap h' → s.toks ≤ tk' → Q (.bool a.isInt) {s with heap := h', toks := tk'}) : wpAny (model prog w) (At0 dp un fr gd) (call (.ref 212) [v]) Q E s := by
  walk_at "9d"
  refine' enterM (binds := [(Str.ofString "datum", v)]) G Led.nil ?ho ?hcd ?hr ?hb ?hl ?_ ?c1 ?c2 ?c3 ?c4
  walk_at "m_rest"
  cases ha
  all_goals
  k_steps
  all_goals walk_at "m_end"
  walk_at "9am"
theorem c_is_whole_no {v : Value} {a : At} (G : Gd w p lo mean mg mb h₀ s) (hd : dp + 1 < recursionLimit) (ha : AtV v a) (hn : a.isInt = false)
   (h : ∀ h' tk', Kept [] s.heap h' → s.toks ≤ tk' → Q (.bool false) {s with heap := h', toks := tk'}) : wpAny (model prog w) (At0 dp un fr gd) (call (.ref 212) [v]) Q E s :=
  c_is_whole G hd ha (by rw [hn]; exact h)
end
theorem zrr3 : True := by
  k_with "@call ref" => ((fail_if_success have := zg_basic); ((with_reducible show wpAny _ _ (call (Value.ref 212) _) _ _ _); (first | (refine' c_is_whole_no ?k1_27 ?k2_27 ?k3_27 ?k4_27 ?_; (case k1_27 => exact (Gd.of (by k_asm) (by k_asm) (by k_asm))); (case k2_27 => walk_at "m_room"); (case k3_27 => with_reducible assumption); (case k4_27 => with_reducible assumption)) | refine c_is_whole (Gd.of (by k_asm) (by k_asm) (by k_asm)) (by walk_at "m_room") (by walk_at "m_atom") ?_); intro h9' tk9' kc9 tkc9; (try dsimp only at tkc9); (try dsimp only [At.isInt]); walk_at "m_after0"))
  trivial
section
variable {prog : Program} {w : World} {dp un : Nat} {fr : Option (List Env)} {gd : Option (List Code)} {s : Shared} {h₀ : Heap} {p : Program} {lo : List Str} {mean : ExcName → Option Value} {mg mb : Str → Option Value} {Q E : Value → Shared → Prop}
theorem c_is_atom {v : Value} {a : At} (G : Gd w p lo mean mg mb h₀ s) (hd : dp + 2 < recursionLimit) (ha : AtV v a)
   (h : ∀ h' tk', Kept [] s.heap h' → s.toks ≤ tk' → Q (.bool true) {s with heap := h', toks := tk'}) : wpAny (model prog w) (At0 dp un fr gd) (call (.ref 226) [v]) Q E s := by
  walk_at "9d"
  refine' enterM (binds := [(Str.ofString "value", v)]) G Led.nil ?ho ?hcd ?hr ?hb ?hl ?_ ?c1 ?c2 ?c3 ?c4
  walk_at "m_rest"
  cases ha
  all_goals
  k_steps
  all_goals walk_at "m_end"
  walk_at "9am"
theorem c_number_of_int {i : Int} {tk : Tok} (G : Gd w p lo mean mg mb h₀ s) (hd : dp + 2 < recursionLimit)
   (h : ∀ h' tk', Kept [] s.heap h' → s.toks ≤ tk' → Q (.int i tk) {s with heap := h', toks := tk'}) : wpAny (model prog w) (At0 dp un fr gd) (call (.ref 327) [.int i tk]) Q E s := by
  walk_at "9d"
  refine' enterM (binds := [(Str.ofString "value", .int i tk)]) G Led.nil ?ho ?hcd ?hr ?hb ?hl ?_ ?c1 ?c2 ?c3 ?c4
  walk_at "m_rest"
  k_steps
  all_goals walk_at "m_end"
  walk_at "9am"
theorem c_fitting {i : Int} {tk : Tok} (G : Gd w p lo mean mg mb h₀ s) (hd : dp + 1 < recursionLimit) (hi : Builtin.Int.intBits i ≤ 65536)
   (h : ∀ h' tk', Kept [] s.heap h' → s.toks ≤ tk' → Q (.int i tk) {s with heap := h', toks := tk'}) : wpAny (model prog w) (At0 dp un fr gd) (call (.ref 334) [.int i tk]) Q E s := by
  walk_at "9d"
  refine' enterM (binds := [(Str.ofString "number", .int i tk)]) G Led.nil ?ho ?hcd ?hr ?hb ?hl ?_ ?c1 ?c2 ?c3 ?c4
  walk_at "m_rest"
  k_steps
  all_goals walk_at "m_end"
  walk_at "9am"
theorem c_boolean {b : Bool} (G : Gd w p lo mean mg mb h₀ s) (hd : dp + 1 < recursionLimit)
   (h : ∀ h' tk', Kept [] s.heap h' → s.toks ≤ tk' → Q (.ref (if b then 127 else 124)) {s with heap := h', toks := tk'}) : wpAny (model prog w) (At0 dp un fr gd) (call (.ref 219) [.bool b]) Q E s := by
  walk_at "9d"
  refine' enterM (binds := [(Str.ofString "flag", .bool b)]) G Led.nil ?ho ?hcd ?hr ?hb ?hl ?_ ?c1 ?c2 ?c3 ?c4
  walk_at "m_rest"
  cases b
  all_goals
  k_steps
  all_goals walk_at "m_end"
  walk_at "9am"
theorem zg_basic : True := trivial
theorem zrr4 : True := by
  k_with "@call ref" => ((with_reducible show wpAny _ _ (call (Value.ref 212) _) _ _ _); (first | (refine' c_is_whole_no ?k1_28 ?k2_28 ?k3_28 ?k4_28 ?_; (case k1_28 => exact (Gd.of (by k_asm) (by k_asm) (by k_asm))); (case k2_28 => walk_at "m_room"); (case k3_28 => with_reducible assumption); (case k4_28 => with_reducible assumption)) | refine c_is_whole (Gd.of (by k_asm) (by k_asm) (by k_asm)) (by walk_at "m_room") (by walk_at "m_atom") ?_); intro h9' tk9' kc9 tkc9; (try dsimp only at tkc9); (try dsimp only [At.isInt]); walk_at "m_after0")
  k_with "@call ref" => ((with_reducible show wpAny _ _ (call (Value.ref 226) _) _ _ _); refine c_is_atom (Gd.of (by k_asm) (by k_asm) (by k_asm)) (by walk_at "m_room") (by walk_at "m_atom") ?_; intro h9' tk9' kc9 tkc9; (try dsimp only at tkc9); walk_at "m_after0")
  k_with "@call ref" => ((with_reducible show wpAny _ _ (call (Value.ref 327) [Value.int _ _]) _ _ _); refine c_number_of_int (Gd.of (by k_asm) (by k_asm) (by k_asm)) (by walk_at "m_room") ?_; intro h9' tk9' kc9 tkc9; (try dsimp only at tkc9); walk_at "m_after0")
  k_with "@call ref" => ((with_reducible show wpAny _ _ (call (Value.ref 334) [Value.int _ _]) _ _ _); refine c_fitting (Gd.of (by k_asm) (by k_asm) (by k_asm)) (by walk_at "m_room") (by walk_at "m_fits") ?_; intro h9' tk9' kc9 tkc9; (try dsimp only at tkc9); walk_at "m_after0")
  k_with "@call ref" => ((with_reducible show wpAny _ _ (call (Value.ref 219) [Value.bool _]) _ _ _); refine c_boolean (Gd.of (by k_asm) (by k_asm) (by k_asm)) (by walk_at "m_room") ?_; intro h9' tk9' kc9 tkc9; (try dsimp only at tkc9); walk_at "m_after0")
  trivial
theorem exc_no_data : typeLookup (.type "Exception") "data" = pure none := by rw [typeLookup_type, builtinLookup_eq_fast]; kernel_rfl
theorem ns97 {h : Heap} {P : Params} (e : h.get? 97 = some (o97 P)) : ∃ mN, h.Ns 97 mN ∧ mN "__init__" = some (.ref 95) ∧ mN "__setattr__" = none ∧ mN "data" = none := by
  refine ⟨_, ⟨_, _, _, e, rfl, ?_, fun _ => rfl⟩, by kernel_rfl, by kernel_rfl, by kernel_rfl⟩
  intro x hx
  simp only [List.mem_toArray, mem_cons, not_mem_nil, or_false] at hx
  rcases hx with rfl | rfl | rfl | rfl | rfl | rfl <;> exact ⟨_, _, rfl⟩
theorem cls98 {h : Heap} {P : Params} (X : (K P).In h) : ∃ nm qn N bs hdct sn sub ab col dd k0 k1 k2 k3 k5 newId mN, hdct = true ∧ h.get? 98 = some (excClassObj nm qn 98 N bs [.type "Exception", .type "BaseException", .type "object"] hdct sn sub ab col dd k0 k1 k2 k3 k5 newId) ∧ h.Ns N mN ∧ mN "__setattr__" = none ∧ mN "data" = none := by
  have hC : h.get? 98 = some (o98 P) := X _ _ (by kernel_rfl)
  obtain ⟨mN, h1, h2, h3, h4⟩ := ns97 (X 97 (o97 P) (by kernel_rfl))
  exact ⟨_, _, _, _, _, _, _, _, _, _, _, _, _, _, _, _, _, rfl, hC, h1, h3, h4⟩
theorem c_signal {v1 v2 : Value} (G : Gd w p lo mean mg mb h₀ s) (hd : dp + 4 < recursionLimit)
    (h : ∀ e t od h' tk', Kept [] s.heap h' → s.heap.get? e = none → h'.get? e = some ⟨.ref 98, od, .fields #[t, .none, .none, .none, .bool false, .none], #[]⟩ → s.toks ≤ tk' → Q (.ref e) {s with heap := h', toks := tk'}) :
    wpAny (model prog w) (At0 dp un fr gd) (call (.ref 98) [v1, v2]) Q E s := by
  have X0 := G.X.keeps G.st
  have hC : s.heap.get? 98 = some (o98 w.params) := X0 _ _ (by kernel_rfl)
  have hF : s.heap.get? 95 = some (o95 w.params) := X0 _ _ (by kernel_rfl)
  obtain ⟨mN, hNs, hi, -, -⟩ := ns97 (X0 97 (o97 w.params) (by kernel_rfl))
  refine wpAny_with_toks (Nat.le_refl s.toks) ?_
  obtain ⟨hp, gg, dr, tk, os⟩ := s
  refine wpAny_call_exc_init (fI := 95) PySem.F.excBase_Exception hC hNs hi hF rfl (fun h' e hm => ?_)
  have G' : Gd w p lo mean mg mb h₀ ⟨h', gg, dr, tk, os⟩ := ⟨fun b o q => hm.keeps b o (G.st b o q), G.X, G.T⟩
  obtain ⟨t, he, -, -⟩ := hm.there
  have hne : h₀.get? e = none := by
    cases q : h₀.get? e with
    | none => rfl
    | some o => have := G.st e o q; rw [hm.new] at this; cases this
  have LL : Led h₀ h' [(e, ⟨.ref 98, none, .fields #[.ref t, .none, .none, .none, .bool false, .none], #[]⟩)] := fun p hp => by
    walk_at "9ak"
    exact ⟨he, hne⟩
  refine wpAny_call ?_
  refine' enterM (binds := [(Str.ofString "self", .ref e), (Str.ofString "symbol", v1), (Str.ofString "data", v2)]) G' LL ?ho ?hcd ?hr ?hb ?hl ?_ ?c1 ?c2 ?c3 ?c4
  walk_at "m_rest"
  k_steps
  refine' exc_store0N ?k1 ?k2 ?k3 ?k4 ?k5 ?k6 ?_
  (case k1 => k_asm)
  (case k2 => k_asm)
  (case k3 => k_asm)
  (case k4 => k_is)
  (case k5 => exact ⟨_, rfl, rfl, rfl⟩)
  (case k6 => k_is)
  intro h' tk' d' F' N' hd' hdg' hdL' hdx'
  (try k_sweep)
  k_steps
  refine' exc_store1N ?k1 ?k2 ?k3 hd' hdg' hdL' hdx' ?k4 exc_no_data ?_
  (case k1 => k_asm)
  (case k2 => k_asm)
  (case k3 => k_asm)
  (case k4 => exact cls98 (by k_in))
  intro h'' tk'' F' N'
  (try k_sweep)
  k_steps
  all_goals walk_at "m_end"
  intro kk ll
  walk_at "93"
  obtain ⟨l1, -⟩ := ll _ (.head _)
  refine h e _ _ _ _ (fun b o hb eb => kk b o (fun q => ?_) (hm.keeps b o eb)) hm.new l1 ht
  obtain rfl := List.mem_singleton.mp q
  exact nomatch (hm.new.symm.trans eb)
theorem zg_signal : True := trivial
theorem zrr5 : True := by
  k_with "@call ref" => ((with_reducible show wpAny _ _ (call (Value.ref 98) [_, _]) _ _ _); refine c_signal (Gd.of (by k_asm) (by k_asm) (by k_asm)) (by walk_at "m_room") ?_; intro e9' t9' od9' h9' tk9' kc9 hn9' he9' tkc9)
  k_with "@exec Raise some none" => ((with_reducible show wpAny _ _ (exec (Stmt.Raise (some (Expr.Call (Expr.Name ("LispSignal" : Str) _) _ [] _)) none _) _) _ _ _); refine raise_exp rfl (by kernel_rfl) ?_)
  k_with "@m_fly" => (refine Flew.step (by with_reducible assumption) (by k_asm) (fun b o q n => ?_) ?_ ?_ ?_; all_goals skip)
  trivial
theorem c_number_of_no {v : Value} {a : At} {outer : List Env} (G : Gd w p lo mean mg mb h₀ s) (hd : dp + 6 < recursionLimit) (ha : AtV v a) (hi : a.isInt = false) (hF : FF s.heap outer)
   (h : ∀ e h' tk', Flew s.heap outer e h' → s.toks ≤ tk' → E (.ref e) {s with heap := h', toks := tk'}) : wpAny (model prog w) (At0 dp un (some outer) gd) (call (.ref 327) [v]) Q E s := by
  walk_at "9d"
  refine' enterM (binds := [(Str.ofString "value", v)]) G Led.nil ?ho ?hcd ?hr ?hb ?hl ?_ ?c1 ?c2 ?c3 ?c4
  walk_at "m_rest"
  walk_at "9w"
  cases ha
  · cases hi
  all_goals k_steps
  all_goals ((with_reducible rename Fr _ _ _ _ => F'); refine ⟨_, _, _, _, rfl, (show (K w.params).In _ from by k_in).keeps (fun b o q => kc9.get q), he9', ?_⟩)
  all_goals exact leave_made rfl F' (hF.kept kg') (fun b o q _ => kg'.get q) (Heap.UpToSlots.of_keeps (fun b o q => F'.keep b o (kg'.get q))) kc9 hn9' he9' rfl rfl rfl rfl (fun h' fl ht => h _ _ _ fl ht)
theorem zg_numno : True := trivial
theorem zrr6 : True := by
  k_with "@call ref" => ((with_reducible show wpAny _ _ (call (Value.ref 327) [_]) _ _ _); refine c_number_of_no (Gd.of (by k_asm) (by k_asm) (by k_asm)) (by walk_at "m_room") (by with_reducible assumption) (by with_reducible assumption) (FF.push (FF.kept (by with_reducible assumption) (by with_reducible assumption)) (by k_asm)) ?_; intro e9' h9' tk9' fl9' tkc9)
  trivial
theorem zrr7 : True := by
  k_with "@exec For Tuple Call cons nil" => (k_here; (with_reducible rename Fr _ _ _ _ => lF9'); (with_unfolding_all refine' For_turns lF9' ?_; k_whole))
  trivial
noncomputable abbrev numScope : Scope := { kind := ScopeKind.function, names := [(Str.ofString ".0", NameKind.local), (Str.ofString "value", NameKind.local), (Str.ofString "number_of", NameKind.globalImplicit)], isGenerator := false, isCoroutine := false }
noncomputable abbrev numElt (p1 p2 p3 : Pos) : Expr := .Call (.Name (Str.ofString "number_of") p1) [.Name (Str.ofString "value") p2] [] p3
theorem num_elt {outer : List Env} {name : Str} {scope₀ : Scope} {L a C : Addr} {cd : Value} {p1 p2 p3 : Pos} {v : Value} {av : At} {h g : Heap} {tk : Nat} {m m₂ : Str → Option Value} {oC : Obj} {i k₀ : Nat}
   (X : (K w.params).In g) (T : Top p lo mean mg mb g) (hd : dp + 8 < recursionLimit) (hF : FF h (envOf name scope₀ L a cd :: outer)) (F : Fr g L h m) (N : News g L h [(C, oC)]) (hC : LCg.NsObj oC m₂) (hm : m₂ (Str.ofString "value") = some v) (hv : AtV v av)
   (hik : av.isInt = true → i < k₀) (hE : ∀ e h' tk', Flew h (envOf name scope₀ L a cd :: outer) e h' → E (.ref e) { s with heap := h', toks := tk' }) :
   wpAny (model prog w) ((At0 dp un (some outer) gd).deeper (envOf name scope₀ L a cd)) (eval (numElt p1 p2 p3) (compEnvC numScope [] C (envOf name scope₀ L a cd))) (fun y s₃ => i < k₀ ∧ ∃ h' tk', s₃ = { s with heap := h', toks := tk' } ∧ Kept [] h h') E { s with heap := h, toks := tk } := by
  rcases hv.split with ⟨j, tj, rfl, rfl⟩ | hn
  · have hik' := hik rfl
    k_steps
    assumption
  · k_steps
    refine c_number_of_no (Gd.of F X T) (by walk_at "m_room") hv hn hF ?_
    intro e h' tk' fl ht
    exact hE e h' tk' fl
theorem comp_num {outer : List Env} {name : Str} {scope₀ : Scope} {L a l : Addr} {cd : Value} {p1 p2 p3 px pi pos pos' : Pos} {v1 v2 : Value} {a1 a2 : At} {g : Heap} {m : Str → Option Value} {use : Option (Value → Sem Unit)}
   (X : (K w.params).In g) (T : Top p lo mean mg mb g) (hd : dp + 8 < recursionLimit) (hF : FF s.heap (envOf name scope₀ L a cd :: outer)) (F : Fr g L s.heap m) (hl : g.IsList l #[v1, v2]) (hm : m (Str.ofString "args") = some (.ref l)) (h1 : AtV v1 a1) (h2 : AtV v2 a2) (hn : (a1.isInt && a2.isInt) = false)
   (hk : (envOf name scope₀ L a cd).kindOf (Str.ofString "args") = some .local) (hk' : scope₀.kind = .function)
   (hE : ∀ e h' tk', FlewA s.heap (envOf name scope₀ L a cd :: outer) e h' → E (.ref e) { s with heap := h', toks := tk' }) :
   wpAny (model prog w) ((At0 dp un (some outer) gd).deeper (envOf name scope₀ L a cd)) (comprehension (.ListComp (numElt p1 p2 p3) [⟨.Name (Str.ofString "value") px, .Name (Str.ofString "args") pi, [], 0⟩] numScope pos) numScope (envOf name scope₀ L a cd) pos' (newList []) false (eval (.Name (Str.ofString "args") pi) (envOf name scope₀ L a cd)) use) Q E s := by
  refine comp_flies (prog := prog) (w := w) (cl := []) (l := l) (items := #[v1, v2]) (if a1.isInt then 1 else 0) rfl hF F (by rfl) (by decide) rfl (by decide) (by decide) hl (by show _ < 2; split <;> walk_at "om") (by show 2 ≤ sizeLine; rw [sizeLine_eq]; walk_at "om") ?_ ?_ hE
  · exact wpAny_Name (wpAny_loadName_local hk' hk F.ns hm ⟨rfl, _, _, rfl, Kept.refl⟩) (by decide)
  · intro i v C oC h tk m₂ E' hi hv kk F' N' hC hm₂ hE'
    have hF' : FF h (envOf name scope₀ L a cd :: outer) := hF.kept kk
    match i, hv with
    | 0, hv =>
      obtain rfl : v1 = v := by simpa using hv
      refine num_elt X T hd hF' F' N' hC hm₂ h1 (fun q => ?_) hE'
      rw [if_pos q]; decide
    | 1, hv =>
      obtain rfl : v2 = v := by simpa using hv
      refine num_elt X T hd hF' F' N' hC hm₂ h2 (fun q => ?_) hE'
      rw [q, Bool.and_true] at hn
      rw [hn] at hi
      simp at hi
theorem zg_compno : True := trivial
theorem assign_num {outer : List Env} {name : Str} {scope₀ : Scope} {L a l : Addr} {cd : Value} {p1 p2 p3 px pi pos py spos : Pos} {y : Str} {v1 v2 : Value} {a1 a2 : At} {g : Heap} {m : Str → Option Value} {Q : Flow → Shared → Prop}
   (F : Fr g L s.heap m) (X : (K w.params).In g) (T : Top p lo mean mg mb g) (hd : dp + 8 < recursionLimit) (hF : FF s.heap (envOf name scope₀ L a cd :: outer)) (hl : g.IsList l #[v1, v2]) (hm : m (Str.ofString "args") = some (.ref l)) (h1 : AtV v1 a1) (h2 : AtV v2 a2) (hn : (a1.isInt && a2.isInt) = false)
   (hk : (envOf name scope₀ L a cd).kindOf (Str.ofString "args") = some .local) (hk' : scope₀.kind = .function)
   (hsw : swapsWith (.ListComp (numElt p1 p2 p3) [⟨.Name (Str.ofString "value") px, .Name (Str.ofString "args") pi, [], 0⟩] numScope pos) (some (.Name y py)) spos.line (envOf name scope₀ L a cd) = pure true)
   (hE : ∀ e h' tk', FlewA s.heap (envOf name scope₀ L a cd :: outer) e h' → E (.ref e) { s with heap := h', toks := tk' }) :
   wpAny (model prog w) ((At0 dp un (some outer) gd).deeper (envOf name scope₀ L a cd)) (exec (.Assign [.Name y py] (.ListComp (numElt p1 p2 p3) [⟨.Name (Str.ofString "value") px, .Name (Str.ofString "args") pi, [], 0⟩] numScope pos) spos) (envOf name scope₀ L a cd)) Q E s := by
  rw [exec_Assign_Name_used _ _ _ _ hsw]
  refine wpAny_bind (wpAny_standAt (wpAny_bind ?_))
  refine wpAny_bind ?_
  show wpAny _ _ (comprehension (.ListComp (numElt p1 p2 p3) [⟨.Name (Str.ofString "value") px, .Name (Str.ofString "args") pi, [], 0⟩] numScope pos) numScope (envOf name scope₀ L a cd) _ (newList []) false (eval (.Name (Str.ofString "args") pi) (envOf name scope₀ L a cd)) _) _ _ _
  exact comp_num X T hd hF F hl hm h1 h2 hn hk hk' hE
theorem eval_num {outer : List Env} {name : Str} {scope₀ : Scope} {L a l : Addr} {cd : Value} {p1 p2 p3 px pi pos : Pos} {v1 v2 : Value} {a1 a2 : At} {g : Heap} {m : Str → Option Value}
   (F : Fr g L s.heap m) (X : (K w.params).In g) (T : Top p lo mean mg mb g) (hd : dp + 8 < recursionLimit) (hF : FF s.heap (envOf name scope₀ L a cd :: outer)) (hl : g.IsList l #[v1, v2]) (hm : m (Str.ofString "args") = some (.ref l)) (h1 : AtV v1 a1) (h2 : AtV v2 a2) (hn : (a1.isInt && a2.isInt) = false)
   (hk : (envOf name scope₀ L a cd).kindOf (Str.ofString "args") = some .local) (hk' : scope₀.kind = .function)
   (hE : ∀ e h' tk', FlewA s.heap (envOf name scope₀ L a cd :: outer) e h' → E (.ref e) { s with heap := h', toks := tk' }) :
   wpAny (model prog w) ((At0 dp un (some outer) gd).deeper (envOf name scope₀ L a cd)) (eval (.ListComp (numElt p1 p2 p3) [⟨.Name (Str.ofString "value") px, .Name (Str.ofString "args") pi, [], 0⟩] numScope pos) (envOf name scope₀ L a cd)) Q E s := by
  rw [eval_ListComp]
  show wpAny _ _ (comprehension (.ListComp (numElt p1 p2 p3) [⟨.Name (Str.ofString "value") px, .Name (Str.ofString "args") pi, [], 0⟩] numScope pos) numScope (envOf name scope₀ L a cd) _ (newList []) false (eval (.Name (Str.ofString "args") pi) (envOf name scope₀ L a cd)) _) _ _ _
  exact comp_num X T hd hF F hl hm h1 h2 hn hk hk' hE
theorem zg_chain : True := trivial
theorem zrr8 : True := by
  k_with "@exec For Name Name cons nil" => ((fail_if_success have := zg_deeds); (k_here; (with_reducible rename Fr _ _ _ _ => kF9); (with_unfolding_all refine' For_unr kF9 ?k1_38 ?_; (case k1_38 => exact rfl); k_whole)))
  k_with "@exec For Name Subscript cons nil" => ((fail_if_success have := zg_deeds); (k_here; (with_reducible rename Fr _ _ _ _ => kF9); (with_unfolding_all refine' For_unr kF9 ?k1_39 ?_; (case k1_39 => exact rfl); k_whole)))
  k_with "@pyIter ref" => ((fail_if_success have := zg_deeds); ((with_reducible show wpAny _ _ (pyIter (Value.ref _)) (fun it s₂ => LoopU _ _ _ _ _ _ _ _ _ it s₂) _ _); refine' unr_start ?k1_40 ?k2_40 ?k3_40 ?_; (case k1_40 => k_asm); (case k2_40 => k_asm); (case k3_40 => is_list); intro I9' h9' oi9 tk9' tkc9 oic9 F9' N9'; (try k_sweep)))
  k_with "@m_noiter" => ((fail_if_success have := zg_deeds); ((repeat (refine List.forall_mem_cons.mpr ⟨by first | exact typ_ne (by decide) | (intro q9; cases q9; done), ?_⟩)); exact List.forall_mem_nil _))
  k_with "@m_list" => ((fail_if_success have := zg_deeds); first | is_list | exact led_list (by k_asm) (by k_mem) | exact Heap.IsList.at (by with_reducible assumption) (fun o e => Fr.keep (by k_asm) _ o e))
  k_with "@m_turn" => ((fail_if_success have := zg_deeds); ((show Box _); refine' unr_turn ?k1_43 ?k2_43 ?k3_43 ?k4_43 ?_; (case k1_43 => k_asm); (case k2_43 => k_asm); (case k3_43 => walk_at "m_noiter"); (case k4_43 => walk_at "m_list"); first
    | (intro h9' oi9 tk9' tkc9 oic9 F9' N9'; (try k_sweep); (with_reducible show wpAny _ _ _ _ _ _))
    | (intro h9' tk9' tkc9 F9' N9'; (try k_sweep))))
  k_with "@subscriptTail Name Constant ref int" => ((fail_if_success have := zg_deeds); (k_here; (with_reducible show wpAny _ _ (subscriptTail _ _ (Value.ref _) (Value.int _ _)) _ _ _); (with_unfolding_all refine' item_nth ?k1_44 ?k2_44 ?k3_44 ?k4_44 ?_ ?k5_44; (case k1_44 => walk_at "m_list"); (case k2_44 => decide); (case k3_44 => decide); (case k4_44 => exact rfl); (case k5_44 => with_unfolding_all rfl))))
  k_with "@call builtin:len" => ((fail_if_success have := zg_deeds); (k_here; (with_reducible show wpAny _ _ (call (Value.builtin "len") [Value.ref _]) _ _ _); (refine' kun_lenL ?k1_45 ?k2_45 ?k3_45 ?_; (case k1_45 => exact Heap.IsList.at (by with_reducible assumption) (fun o e => Fr.keep (by k_asm) _ o e)); (case k2_45 => kun_count); (case k3_45 => decide); k_whole)))
  k_with "@binaryOp Mult int int" => ((fail_if_success have := zg_deeds); (k_here; (with_reducible show wpAny _ _ (binaryOp Operator.Mult (Value.int _ _) (Value.int _ _)) _ _ _); refine PySem.P.mul_int ?_ (IntMulOk.of_le (m := 65536) (n := 65536) (by walk_at "m_fits") (by walk_at "m_fits") (by decide))))
  trivial
theorem c_plus {wv v1 v2 : Value} {a1 a2 : At} {al : Addr} {n : Nat} {outer : List Env} (G : Gd w p lo mean mg mb h₀ s) (hd : dp + 9 < recursionLimit) (hF : FF s.heap outer) (hal : s.heap.get? al = some (listOf #[v1, v2] n)) (ha1 : AtV v1 a1) (ha2 : AtV v2 a2) (hb1 : ∀ i, a1 = .int i → Bits i 30000) (hb2 : ∀ i, a2 = .int i → Bits i 30000)
   (hQ : ∀ i j k tk h' tk', a1 = .int i → a2 = .int j → k = i + j → s.toks ≤ tk → tk < tk' → Kept [] s.heap h' → Q (.int k tk) {s with heap := h', toks := tk'})
   (hE : ∀ e h' tk', (a1.isInt && a2.isInt) = false → Flew s.heap outer e h' → s.toks ≤ tk' → E (.ref e) {s with heap := h', toks := tk'}) : wpAny (model prog w) (At0 dp un (some outer) gd) (call (.ref 341) [wv, .ref al]) Q E s := by
  walk_at "9aR"
  walk_at "9V"
  walk_at "9c"
  walk_at "94"
  clear_value prog w dp un gd s h₀ p lo mean mg mb Q E wv al
  walk_at "9e"
  intro n outer
  clear_value n outer
  walk_at "in"
  walk_at "9d"
  walk_at "9k"
  walk_at "m_rest"
  walk_at "9w"
  have hal0 := kg'.get hal
  walk_at "9G"
  clear hal hal0
  walk_at "9H"
  walk_at "9I"
  walk_at "9aJ"
  intro hpo
  walk_at "9z"
  · have hb1' := hb1 _ rfl
    walk_at "9J"
    · have hb2' := hb2 _ rfl
      clear_value qk ek
      walk_at "9Z"
      walk_at "9aB"
      intro g0 h10 L0 tk10 qk ek i j ti tj
      clear_value g0 h10 L0 tk10 qk ek i j ti tj
      walk_at "in"
      k_steps
      walk_at "9U"
      all_goals (try k_steps)
      walk_at "9U"
      all_goals (try k_steps)
      walk_at "m_end"
      intro kk _ ht
      exact hQ i j _ _ _ _ rfl rfl (by rw [Int.zero_add]) (by walk_at "m_tok") (by walk_at "m_tok") kk
    · skip
      clear_value qk ek
      walk_at "90"
      walk_at "9aw"
      intro v2 a2 g0 h10 L0 tk10 qk ek i ti
      clear_value v2 a2 g0 h10 L0 tk10 qk ek i ti
      walk_at "in"
      k_steps
      walk_at "9U"
      all_goals (try k_steps)
      walk_at "9U"
      all_goals (try k_steps)
      refine hek _ _ ?_
      walk_at "9j"
  · skip
    clear_value qk ek
    walk_at "95"
    walk_at "9au"
    intro v1 v2 a1 a2 g0 h10 L0 tk10 qk ek
    clear_value v1 v2 a1 a2 g0 h10 L0 tk10 qk ek
    walk_at "in"
    k_steps
    refine hek _ _ ?_
    walk_at "9j"
theorem c_minus {wv v1 v2 : Value} {a1 a2 : At} {al : Addr} {n : Nat} {outer : List Env} (G : Gd w p lo mean mg mb h₀ s) (hd : dp + 9 < recursionLimit) (hF : FF s.heap outer) (hal : s.heap.get? al = some (listOf #[v1, v2] n)) (ha1 : AtV v1 a1) (ha2 : AtV v2 a2) (hb1 : ∀ i, a1 = .int i → Bits i 30000) (hb2 : ∀ i, a2 = .int i → Bits i 30000)
   (hQ : ∀ i j k tk h' tk', a1 = .int i → a2 = .int j → k = i - j → s.toks ≤ tk → tk < tk' → Kept [] s.heap h' → Q (.int k tk) {s with heap := h', toks := tk'})
   (hE : ∀ e h' tk', (a1.isInt && a2.isInt) = false → Flew s.heap outer e h' → s.toks ≤ tk' → E (.ref e) {s with heap := h', toks := tk'}) : wpAny (model prog w) (At0 dp un (some outer) gd) (call (.ref 348) [wv, .ref al]) Q E s := by
  walk_at "9aR"
  walk_at "9V"
  walk_at "9c"
  walk_at "94"
  clear_value prog w dp un gd s h₀ p lo mean mg mb Q E wv al
  walk_at "9e"
  intro n outer
  clear_value n outer
  walk_at "in"
  walk_at "9d"
  walk_at "9k"
  walk_at "m_rest"
  walk_at "9w"
  have hal0 := kg'.get hal
  walk_at "9G"
  clear hal hal0
  walk_at "9H"
  walk_at "9I"
  walk_at "9aJ"
  intro hpo
  walk_at "9z"
  · have hb1' := hb1 _ rfl
    walk_at "9J"
    · have hb2' := hb2 _ rfl
      clear_value qk ek
      walk_at "9Z"
      walk_at "9aB"
      intro g0 h10 L0 tk10 qk ek i j ti tj
      clear_value g0 h10 L0 tk10 qk ek i j ti tj
      walk_at "in"
      k_steps
      walk_at "9U"
      all_goals (try k_steps)
      walk_at "m_end"
      intro kk _ ht
      exact hQ i j _ _ _ _ rfl rfl (by rfl) (by walk_at "m_tok") (by walk_at "m_tok") kk
    · skip
      clear_value qk ek
      walk_at "90"
      walk_at "9aw"
      intro v2 a2 g0 h10 L0 tk10 qk ek i ti
      clear_value v2 a2 g0 h10 L0 tk10 qk ek i ti
      walk_at "in"
      k_steps
      walk_at "9U"
      all_goals (try k_steps)
      refine hek _ _ ?_
      walk_at "9j"
  · skip
    clear_value qk ek
    walk_at "95"
    walk_at "9au"
    intro v1 v2 a1 a2 g0 h10 L0 tk10 qk ek
    clear_value v1 v2 a1 a2 g0 h10 L0 tk10 qk ek
    walk_at "in"
    k_steps
    refine hek _ _ ?_
    walk_at "9j"
theorem c_times {wv v1 v2 : Value} {a1 a2 : At} {al : Addr} {n : Nat} {outer : List Env} (G : Gd w p lo mean mg mb h₀ s) (hd : dp + 9 < recursionLimit) (hF : FF s.heap outer) (hal : s.heap.get? al = some (listOf #[v1, v2] n)) (ha1 : AtV v1 a1) (ha2 : AtV v2 a2) (hb1 : ∀ i, a1 = .int i → Bits i 30000) (hb2 : ∀ i, a2 = .int i → Bits i 30000)
   (hQ : ∀ i j k tk h' tk', a1 = .int i → a2 = .int j → k = i * j → s.toks ≤ tk → tk < tk' → Kept [] s.heap h' → Q (.int k tk) {s with heap := h', toks := tk'})
   (hE : ∀ e h' tk', (a1.isInt && a2.isInt) = false → Flew s.heap outer e h' → s.toks ≤ tk' → E (.ref e) {s with heap := h', toks := tk'}) : wpAny (model prog w) (At0 dp un (some outer) gd) (call (.ref 355) [wv, .ref al]) Q E s := by
  walk_at "9aR"
  walk_at "9V"
  walk_at "9c"
  walk_at "94"
  clear_value prog w dp un gd s h₀ p lo mean mg mb Q E wv al
  walk_at "9e"
  intro n outer
  clear_value n outer
  walk_at "in"
  walk_at "9d"
  walk_at "9k"
  walk_at "m_rest"
  walk_at "9w"
  have hal0 := kg'.get hal
  walk_at "9G"
  clear hal hal0
  walk_at "9H"
  walk_at "9I"
  walk_at "9aJ"
  intro hpo
  walk_at "9z"
  · have hb1' := hb1 _ rfl
    walk_at "9J"
    · have hb2' := hb2 _ rfl
      clear_value qk ek
      walk_at "9Z"
      walk_at "9aB"
      intro g0 h10 L0 tk10 qk ek i j ti tj
      clear_value g0 h10 L0 tk10 qk ek i j ti tj
      walk_at "in"
      k_steps
      walk_at "9U"
      all_goals (try k_steps)
      walk_at "9U"
      all_goals (try k_steps)
      walk_at "m_end"
      intro kk _ ht
      exact hQ i j _ _ _ _ rfl rfl (by rw [Int.one_mul]) (by walk_at "m_tok") (by walk_at "m_tok") kk
    · skip
      clear_value qk ek
      walk_at "90"
      walk_at "9aw"
      intro v2 a2 g0 h10 L0 tk10 qk ek i ti
      clear_value v2 a2 g0 h10 L0 tk10 qk ek i ti
      walk_at "in"
      k_steps
      walk_at "9U"
      all_goals (try k_steps)
      walk_at "9U"
      all_goals (try k_steps)
      refine hek _ _ ?_
      walk_at "9j"
  · skip
    clear_value qk ek
    walk_at "95"
    walk_at "9au"
    intro v1 v2 a1 a2 g0 h10 L0 tk10 qk ek
    clear_value v1 v2 a1 a2 g0 h10 L0 tk10 qk ek
    walk_at "in"
    k_steps
    refine hek _ _ ?_
    walk_at "9j"
theorem c_one_more {wv v1 : Value} {a1 : At} {al : Addr} {n : Nat} {outer : List Env} (G : Gd w p lo mean mg mb h₀ s) (hd : dp + 9 < recursionLimit) (hF : FF s.heap outer) (hal : s.heap.get? al = some (listOf #[v1] n)) (ha1 : AtV v1 a1) (hb1 : ∀ i, a1 = .int i → Bits i 30000)
   (hQ : ∀ i k tk h' tk', a1 = .int i → k = i + 1 → s.toks ≤ tk → tk < tk' → Kept [] s.heap h' → Q (.int k tk) {s with heap := h', toks := tk'})
   (hE : ∀ e h' tk', a1.isInt = false → Flew s.heap outer e h' → s.toks ≤ tk' → E (.ref e) {s with heap := h', toks := tk'}) : wpAny (model prog w) (At0 dp un (some outer) gd) (call (.ref 362) [wv, .ref al]) Q E s := by
  revert v1 a1 G hd hF hal ha1 hb1 hQ hE
  walk_at "9V"
  walk_at "9c"
  walk_at "94"
  clear_value prog w dp un gd s h₀ p lo mean mg mb Q E wv al
  walk_at "9e"
  intro n outer
  clear_value n outer
  walk_at "in"
  walk_at "9d"
  walk_at "9k"
  walk_at "m_rest"
  walk_at "9w"
  have hal0 := kg'.get hal
  walk_at "9ax"
  clear hal hal0
  walk_at "9H"
  walk_at "9I"
  walk_at "9aJ"
  intro hpo
  walk_at "9z"
  · have hb1' := hb1 _ rfl
    clear_value qk ek
    revert G hd hF htk0 hsub0 F0 N0 X0 T0 kg kb kg' hqk hek hpo hal' hb1 hQ hE ha1 hb1'
    apply iy8 g0 h10 L0 tk10 qk ek i ti ⟨by walk_at "df"⟩
    intro g0 h10 L0 tk10 qk ek i ti
    clear_value g0 h10 L0 tk10 qk ek i ti
    walk_at "in"
    k_steps
    walk_at "m_end"
    intro kk _ ht
    exact hQ i _ _ _ _ rfl (by rfl) (by walk_at "m_tok") (by walk_at "m_tok") kk
  · skip
    clear_value qk ek
    revert G hd hF ha1 hb1 hQ hE htk0 hsub0 F0 N0 X0 T0 kg kb kg' hqk hek hpo hal' hn1
    apply iy8 v1 a1 g0 h10 L0 tk10 qk ek ⟨by walk_at "df"⟩
    intro v1 a1 g0 h10 L0 tk10 qk ek
    clear_value v1 a1 g0 h10 L0 tk10 qk ek
    walk_at "in"
    k_steps
    refine hek _ _ ?_
    (refine leave_flew rfl (by k_asm) (fun b o q _ => kg'.get q) (Heap.UpToSlots.of_keeps fun b o q => Fr.keep (by k_asm) b o (kg'.get q)) (by with_reducible assumption) ?_; intro h' fl' ht; exact hE _ _ _ hn1 fl' ht)
theorem c_one_less {wv v1 : Value} {a1 : At} {al : Addr} {n : Nat} {outer : List Env} (G : Gd w p lo mean mg mb h₀ s) (hd : dp + 9 < recursionLimit) (hF : FF s.heap outer) (hal : s.heap.get? al = some (listOf #[v1] n)) (ha1 : AtV v1 a1) (hb1 : ∀ i, a1 = .int i → Bits i 30000)
   (hQ : ∀ i k tk h' tk', a1 = .int i → k = i - 1 → s.toks ≤ tk → tk < tk' → Kept [] s.heap h' → Q (.int k tk) {s with heap := h', toks := tk'})
   (hE : ∀ e h' tk', a1.isInt = false → Flew s.heap outer e h' → s.toks ≤ tk' → E (.ref e) {s with heap := h', toks := tk'}) : wpAny (model prog w) (At0 dp un (some outer) gd) (call (.ref 369) [wv, .ref al]) Q E s := by
  revert v1 a1 G hd hF hal ha1 hb1 hQ hE
  walk_at "9V"
  walk_at "9c"
  walk_at "94"
  clear_value prog w dp un gd s h₀ p lo mean mg mb Q E wv al
  walk_at "9e"
  intro n outer
  clear_value n outer
  walk_at "in"
  walk_at "9d"
  walk_at "9k"
  walk_at "m_rest"
  walk_at "9w"
  have hal0 := kg'.get hal
  walk_at "9ax"
  clear hal hal0
  walk_at "9H"
  walk_at "9I"
  walk_at "9aJ"
  intro hpo
  walk_at "9z"
  · have hb1' := hb1 _ rfl
    clear_value qk ek
    revert G hd hF htk0 hsub0 F0 N0 X0 T0 kg kb kg' hqk hek hpo hal' hb1 hQ hE ha1 hb1'
    apply iy8 g0 h10 L0 tk10 qk ek i ti ⟨by walk_at "df"⟩
    intro g0 h10 L0 tk10 qk ek i ti
    clear_value g0 h10 L0 tk10 qk ek i ti
    walk_at "in"
    k_steps
    walk_at "m_end"
    intro kk _ ht
    exact hQ i _ _ _ _ rfl (by rfl) (by walk_at "m_tok") (by walk_at "m_tok") kk
  · skip
    clear_value qk ek
    revert G hd hF ha1 hb1 hQ hE htk0 hsub0 F0 N0 X0 T0 kg kb kg' hqk hek hpo hal' hn1
    apply iy8 v1 a1 g0 h10 L0 tk10 qk ek ⟨by walk_at "df"⟩
    intro v1 a1 g0 h10 L0 tk10 qk ek
    clear_value v1 a1 g0 h10 L0 tk10 qk ek
    walk_at "in"
    k_steps
    refine hek _ _ ?_
    (refine leave_flew rfl (by k_asm) (fun b o q _ => kg'.get q) (Heap.UpToSlots.of_keeps fun b o q => Fr.keep (by k_asm) b o (kg'.get q)) (by with_reducible assumption) ?_; intro h' fl' ht; exact hE _ _ _ hn1 fl' ht)
theorem zg_deeds : True := trivial
theorem zrr9 : True := by
  k_with "@exec Assign cons ListComp" => ((fail_if_success have := zg_ord); (refine' assign_num ?k1_47 ?k2_47 ?k3_47 ?k4_47 ?k5_47 ?k6_47 ?k7_47 ?k8_47 ?k9_47 ?k10_47 ?k11_47 ?k12_47 ?k13_47 ?_; (case k1_47 => k_asm); (case k2_47 => k_asm); (case k3_47 => k_asm); (case k4_47 => walk_at "m_room"); (case k5_47 => walk_at "m_ff"); (case k6_47 => with_reducible assumption); (case k7_47 => with_unfolding_all exact rfl); (case k8_47 => with_reducible assumption); (case k9_47 => with_reducible assumption); (case k10_47 => with_reducible assumption); (case k11_47 => with_unfolding_all exact rfl); (case k12_47 => with_unfolding_all exact rfl); (case k13_47 => with_unfolding_all rfl); intro e9' h9' tk9' fl9'))
  trivial
theorem c_chained_no {v1 v2 tv : Value} {a1 a2 : At} {al : Addr} {n : Nat} {outer : List Env} (G : Gd w p lo mean mg mb h₀ s) (hd : dp + 10 < recursionLimit) (hF : FF s.heap outer) (hal : s.heap.get? al = some (listOf #[v1, v2] n)) (ha1 : AtV v1 a1) (ha2 : AtV v2 a2) (hn : (a1.isInt && a2.isInt) = false)
   (hE : ∀ e h' tk', Flew s.heap outer e h' → s.toks ≤ tk' → E (.ref e) {s with heap := h', toks := tk'}) : wpAny (model prog w) (At0 dp un (some outer) gd) (call (.ref 374) [.ref al, tv]) Q E s := by
  walk_at "9d"
  refine' enterM (binds := [(Str.ofString "args", .ref al), (Str.ofString "wanted", tv)]) G Led.nil ?ho ?hcd ?hr ?hb ?hl ?_ ?c1 ?c2 ?c3 ?c4
  walk_at "m_rest"
  walk_at "9w"
  have hal0 := kg'.get hal
  walk_at "9G"
  clear hal hal0
  k_steps
  (refine leave_flewA rfl (by k_asm) (fun b o q _ => kg'.get q) (Heap.UpToSlots.of_keeps fun b o q => Fr.keep (by k_asm) b o (kg'.get q)) (by with_reducible assumption) ?_; intro h' fl' ht; exact hE _ _ _ fl' ht)
theorem c_chained_less {i j : Int} {ti tj t0 : Tok} {al tl : Addr} {n : Nat} (G : Gd w p lo mean mg mb h₀ s) (hd : dp + 10 < recursionLimit) (hal : s.heap.get? al = some (listOf #[.int i ti, .int j tj] n)) (htl : IsTup s.heap tl #[.int (-1) t0])
   (hQ : ∀ r h' tk', r = (if ([-1] : List Int).any (fun x => x == b2i (decide (j < i)) - b2i (decide (i < j))) then 127 else 124) → Kept [] s.heap h' → Q (.ref r) {s with heap := h', toks := tk'}) : wpAny (model prog w) (At0 dp un fr gd) (call (.ref 374) [.ref al, .ref tl]) Q E s := by
  walk_at "9d"
  walk_at "9E"
  walk_at "m_rest"
  walk_at "9w"
  have hal0 := kg'.get hal
  walk_at "9ab"
  have htl0 : IsTup _ tl #[.int (-1) t0] := let ⟨o, ho, r⟩ := htl; ⟨o, kg'.get ho, r⟩
  clear hal hal0
  k_steps
  all_goals walk_at "m_end"
  walk_at "9aE"
theorem c_chained_at_most {i j : Int} {ti tj t0 t1 : Tok} {al tl : Addr} {n : Nat} (G : Gd w p lo mean mg mb h₀ s) (hd : dp + 10 < recursionLimit) (hal : s.heap.get? al = some (listOf #[.int i ti, .int j tj] n)) (htl : IsTup s.heap tl #[.int (-1) t0, .int 0 t1])
   (hQ : ∀ r h' tk', r = (if ([-1, 0] : List Int).any (fun x => x == b2i (decide (j < i)) - b2i (decide (i < j))) then 127 else 124) → Kept [] s.heap h' → Q (.ref r) {s with heap := h', toks := tk'}) : wpAny (model prog w) (At0 dp un fr gd) (call (.ref 374) [.ref al, .ref tl]) Q E s := by
  walk_at "9d"
  walk_at "9E"
  walk_at "m_rest"
  walk_at "9w"
  have hal0 := kg'.get hal
  walk_at "9ab"
  have htl0 : IsTup _ tl #[.int (-1) t0, .int 0 t1] := let ⟨o, ho, r⟩ := htl; ⟨o, kg'.get ho, r⟩
  clear hal hal0
  k_steps
  all_goals walk_at "m_end"
  walk_at "9aE"
theorem c_chained_alike {i j : Int} {ti tj t0 : Tok} {al tl : Addr} {n : Nat} (G : Gd w p lo mean mg mb h₀ s) (hd : dp + 10 < recursionLimit) (hal : s.heap.get? al = some (listOf #[.int i ti, .int j tj] n)) (htl : IsTup s.heap tl #[.int 0 t0])
   (hQ : ∀ r h' tk', r = (if ([0] : List Int).any (fun x => x == b2i (decide (j < i)) - b2i (decide (i < j))) then 127 else 124) → Kept [] s.heap h' → Q (.ref r) {s with heap := h', toks := tk'}) : wpAny (model prog w) (At0 dp un fr gd) (call (.ref 374) [.ref al, .ref tl]) Q E s := by
  walk_at "9d"
  walk_at "9E"
  walk_at "m_rest"
  walk_at "9w"
  have hal0 := kg'.get hal
  walk_at "9ab"
  have htl0 : IsTup _ tl #[.int 0 t0] := let ⟨o, ho, r⟩ := htl; ⟨o, kg'.get ho, r⟩
  clear hal hal0
  k_steps
  all_goals walk_at "m_end"
  walk_at "9aE"
theorem ch_less (i j : Int) : (if ([-1] : List Int).any (fun x => x == b2i (decide (j < i)) - b2i (decide (i < j))) then (127 : Addr) else 124) = if i < j then 127 else 124 := by
  rcases Int.lt_trichotomy i j with h | h | h
  · rw [if_pos h, decide_eq_true h, decide_eq_false (by walk_at "om" : ¬ j < i)]; rfl
  · subst h; rw [if_neg (Int.lt_irrefl _), decide_eq_false (Int.lt_irrefl _)]; rfl
  · rw [if_neg (by walk_at "om" : ¬ i < j), decide_eq_true h, decide_eq_false (by walk_at "om" : ¬ i < j)]; rfl
theorem ch_at_most (i j : Int) : (if ([-1, 0] : List Int).any (fun x => x == b2i (decide (j < i)) - b2i (decide (i < j))) then (127 : Addr) else 124) = if i ≤ j then 127 else 124 := by
  rcases Int.lt_trichotomy i j with h | h | h
  · rw [if_pos (Int.le_of_lt h), decide_eq_true h, decide_eq_false (by walk_at "om" : ¬ j < i)]; rfl
  · subst h; rw [if_pos (Int.le_refl _), decide_eq_false (Int.lt_irrefl _)]; rfl
  · rw [if_neg (by walk_at "om" : ¬ i ≤ j), decide_eq_true h, decide_eq_false (by walk_at "om" : ¬ i < j)]; rfl
theorem ch_alike (i j : Int) : (if ([0] : List Int).any (fun x => x == b2i (decide (j < i)) - b2i (decide (i < j))) then (127 : Addr) else 124) = if i = j then 127 else 124 := by
  rcases Int.lt_trichotomy i j with h | h | h
  · rw [if_neg (by walk_at "om" : ¬ i = j), decide_eq_true h, decide_eq_false (by walk_at "om" : ¬ j < i)]; rfl
  · subst h; rw [if_pos rfl, decide_eq_false (Int.lt_irrefl _)]; rfl
  · rw [if_neg (by walk_at "om" : ¬ i = j), decide_eq_true h, decide_eq_false (by walk_at "om" : ¬ i < j)]; rfl
theorem zrr10 : True := by
  k_with "@call ref" => ((fail_if_success have := zg_ord); ((with_reducible show wpAny _ _ (call (Value.ref 374) _) _ _ _); first
    | (refine' c_chained_less ?k1_48 ?k2_48 ?k3_48 ?k4_48 ?_; (case k1_48 => exact (Gd.of (by k_asm) (by k_asm) (by k_asm))); (case k2_48 => walk_at "m_room"); (case k3_48 => exact Fr.keep (by k_asm) _ _ (by with_reducible assumption)); (case k4_48 => exact News.isTup (by k_asm) (by k_mem)); intro r9' h9' tk9' hr9' kc9; walk_at "m_after0")
    | (refine' c_chained_at_most ?k1_48 ?k2_48 ?k3_48 ?k4_48 ?_; (case k1_48 => exact (Gd.of (by k_asm) (by k_asm) (by k_asm))); (case k2_48 => walk_at "m_room"); (case k3_48 => exact Fr.keep (by k_asm) _ _ (by with_reducible assumption)); (case k4_48 => exact News.isTup (by k_asm) (by k_mem)); intro r9' h9' tk9' hr9' kc9; walk_at "m_after0")
    | (refine' c_chained_alike ?k1_48 ?k2_48 ?k3_48 ?k4_48 ?_; (case k1_48 => exact (Gd.of (by k_asm) (by k_asm) (by k_asm))); (case k2_48 => walk_at "m_room"); (case k3_48 => exact Fr.keep (by k_asm) _ _ (by with_reducible assumption)); (case k4_48 => exact News.isTup (by k_asm) (by k_mem)); intro r9' h9' tk9' hr9' kc9; walk_at "m_after0")
    | (refine' c_chained_no ?k1_48 ?k2_48 ?k3_48 ?k4_48 ?k5_48 ?k6_48 ?k7_48 ?_; (case k1_48 => exact (Gd.of (by k_asm) (by k_asm) (by k_asm))); (case k2_48 => walk_at "m_room"); (case k3_48 => walk_at "m_ff"); (case k4_48 => exact Fr.keep (by k_asm) _ _ (by with_reducible assumption)); (case k5_48 => with_reducible assumption); (case k6_48 => with_reducible assumption); (case k7_48 => with_reducible assumption); intro e9' h9' tk9' fl9' tkc9)))
  trivial
theorem c_less {wv v1 v2 : Value} {a1 a2 : At} {al : Addr} {n : Nat} {outer : List Env} (G : Gd w p lo mean mg mb h₀ s) (hd : dp + 12 < recursionLimit) (hF : FF s.heap outer) (hal : s.heap.get? al = some (listOf #[v1, v2] n)) (ha1 : AtV v1 a1) (ha2 : AtV v2 a2)
   (hQ : ∀ i j r h' tk', a1 = .int i → a2 = .int j → r = (if i < j then 127 else 124) → Kept [] s.heap h' → Q (.ref r) {s with heap := h', toks := tk'})
   (hE : ∀ e h' tk', (a1.isInt && a2.isInt) = false → Flew s.heap outer e h' → s.toks ≤ tk' → E (.ref e) {s with heap := h', toks := tk'}) : wpAny (model prog w) (At0 dp un (some outer) gd) (call (.ref 381) [wv, .ref al]) Q E s := by
  walk_at "9d"
  walk_at "9k"
  walk_at "m_rest"
  walk_at "9w"
  have hal' := kg'.get hal
  clear hal
  by_cases hn : (a1.isInt && a2.isInt) = false
  · k_steps
    walk_at "9t"
  · walk_at "9z"
    · walk_at "9J"
      · k_steps
        walk_at "m_end"
        intro kk _ ht
        exact hQ i j _ _ _ rfl rfl ((by with_reducible assumption : _ = _).trans (ch_less i j)) kk
      · walk_at "96"
    · walk_at "97"
theorem c_at_most {wv v1 v2 : Value} {a1 a2 : At} {al : Addr} {n : Nat} {outer : List Env} (G : Gd w p lo mean mg mb h₀ s) (hd : dp + 12 < recursionLimit) (hF : FF s.heap outer) (hal : s.heap.get? al = some (listOf #[v1, v2] n)) (ha1 : AtV v1 a1) (ha2 : AtV v2 a2)
   (hQ : ∀ i j r h' tk', a1 = .int i → a2 = .int j → r = (if i ≤ j then 127 else 124) → Kept [] s.heap h' → Q (.ref r) {s with heap := h', toks := tk'})
   (hE : ∀ e h' tk', (a1.isInt && a2.isInt) = false → Flew s.heap outer e h' → s.toks ≤ tk' → E (.ref e) {s with heap := h', toks := tk'}) : wpAny (model prog w) (At0 dp un (some outer) gd) (call (.ref 388) [wv, .ref al]) Q E s := by
  walk_at "9d"
  walk_at "9k"
  walk_at "m_rest"
  walk_at "9w"
  have hal' := kg'.get hal
  clear hal
  by_cases hn : (a1.isInt && a2.isInt) = false
  · k_steps
    walk_at "9t"
  · walk_at "9z"
    · walk_at "9J"
      · k_steps
        walk_at "m_end"
        intro kk _ ht
        exact hQ i j _ _ _ rfl rfl ((by with_reducible assumption : _ = _).trans (ch_at_most i j)) kk
      · walk_at "96"
    · walk_at "97"
theorem c_alike {wv v1 v2 : Value} {a1 a2 : At} {al : Addr} {n : Nat} {outer : List Env} (G : Gd w p lo mean mg mb h₀ s) (hd : dp + 12 < recursionLimit) (hF : FF s.heap outer) (hal : s.heap.get? al = some (listOf #[v1, v2] n)) (ha1 : AtV v1 a1) (ha2 : AtV v2 a2)
   (hQ : ∀ i j r h' tk', a1 = .int i → a2 = .int j → r = (if i = j then 127 else 124) → Kept [] s.heap h' → Q (.ref r) {s with heap := h', toks := tk'})
   (hE : ∀ e h' tk', (a1.isInt && a2.isInt) = false → Flew s.heap outer e h' → s.toks ≤ tk' → E (.ref e) {s with heap := h', toks := tk'}) : wpAny (model prog w) (At0 dp un (some outer) gd) (call (.ref 395) [wv, .ref al]) Q E s := by
  walk_at "9d"
  walk_at "9k"
  walk_at "m_rest"
  walk_at "9w"
  have hal' := kg'.get hal
  clear hal
  by_cases hn : (a1.isInt && a2.isInt) = false
  · k_steps
    walk_at "9t"
  · walk_at "9z"
    · walk_at "9J"
      · k_steps
        walk_at "m_end"
        intro kk _ ht
        exact hQ i j _ _ _ rfl rfl ((by with_reducible assumption : _ = _).trans (ch_alike i j)) kk
      · walk_at "96"
    · walk_at "97"
theorem zg_ord : True := trivial
theorem zrr11 : True := by
  k_with "@call builtin:max" => ((fail_if_success have := zg_minmax); (k_here; (with_reducible show wpAny _ _ (call (Value.builtin _) [Value.ref _]) _ _ _); (with_unfolding_all refine' max2 ?k1_49 ?k2_49 ?k3_49 ?k4_49 ?_; (case k1_49 => exact rfl); (case k2_49 => k_asm); (case k3_49 => k_asm); (case k4_49 => kso_list)); intro h9' tk9' F9' N9'; (try k_sweep)))
  k_with "@call builtin:min" => ((fail_if_success have := zg_minmax); (k_here; (with_reducible show wpAny _ _ (call (Value.builtin _) [Value.ref _]) _ _ _); (with_unfolding_all refine' min2 ?k1_50 ?k2_50 ?k3_50 ?k4_50 ?_; (case k1_50 => exact rfl); (case k2_50 => k_asm); (case k3_50 => k_asm); (case k4_50 => kso_list)); intro h9' tk9' F9' N9'; (try k_sweep)))
  k_with "@eval ListComp" => ((fail_if_success have := zg_minmax); (refine' eval_num ?k1_51 ?k2_51 ?k3_51 ?k4_51 ?k5_51 ?k6_51 ?k7_51 ?k8_51 ?k9_51 ?k10_51 ?k11_51 ?k12_51 ?_; (case k1_51 => k_asm); (case k2_51 => k_asm); (case k3_51 => k_asm); (case k4_51 => walk_at "m_room"); (case k5_51 => walk_at "m_ff"); (case k6_51 => with_reducible assumption); (case k7_51 => with_unfolding_all exact rfl); (case k8_51 => with_reducible assumption); (case k9_51 => with_reducible assumption); (case k10_51 => with_reducible assumption); (case k11_51 => with_unfolding_all exact rfl); (case k12_51 => with_unfolding_all exact rfl); intro e9' h9' tk9' fl9'))
  trivial
theorem c_greatest {wv v1 v2 : Value} {a1 a2 : At} {al : Addr} {n : Nat} {outer : List Env} (G : Gd w p lo mean mg mb h₀ s) (hd : dp + 12 < recursionLimit) (hF : FF s.heap outer) (hal : s.heap.get? al = some (listOf #[v1, v2] n)) (ha1 : AtV v1 a1) (ha2 : AtV v2 a2)
   (hQ : ∀ i j v h' tk', a1 = .int i → a2 = .int j → v = (if j > i then v2 else v1) → Kept [] s.heap h' → Q v {s with heap := h', toks := tk'})
   (hE : ∀ e h' tk', (a1.isInt && a2.isInt) = false → Flew s.heap outer e h' → s.toks ≤ tk' → E (.ref e) {s with heap := h', toks := tk'}) : wpAny (model prog w) (At0 dp un (some outer) gd) (call (.ref 400) [wv, .ref al]) Q E s := by
  walk_at "9d"
  walk_at "9k"
  walk_at "m_rest"
  walk_at "9w"
  have hal0 := kg'.get hal
  walk_at "9G"
  clear hal hal0
  by_cases hn : (a1.isInt && a2.isInt) = false
  · k_steps
    (refine leave_flewA rfl (by k_asm) (fun b o q _ => kg'.get q) (Heap.UpToSlots.of_keeps fun b o q => Fr.keep (by k_asm) b o (kg'.get q)) (by with_reducible assumption) ?_; intro h' fl' ht; exact hE _ _ _ hn fl' ht)
  · walk_at "9z"
    · walk_at "9J"
      · k_steps
        walk_at "m_end"
        intro kk _ ht
        exact hQ i j _ _ _ rfl rfl rfl kk
      · walk_at "96"
    · walk_at "97"
theorem c_least {wv v1 v2 : Value} {a1 a2 : At} {al : Addr} {n : Nat} {outer : List Env} (G : Gd w p lo mean mg mb h₀ s) (hd : dp + 12 < recursionLimit) (hF : FF s.heap outer) (hal : s.heap.get? al = some (listOf #[v1, v2] n)) (ha1 : AtV v1 a1) (ha2 : AtV v2 a2)
   (hQ : ∀ i j v h' tk', a1 = .int i → a2 = .int j → v = (if j < i then v2 else v1) → Kept [] s.heap h' → Q v {s with heap := h', toks := tk'})
   (hE : ∀ e h' tk', (a1.isInt && a2.isInt) = false → Flew s.heap outer e h' → s.toks ≤ tk' → E (.ref e) {s with heap := h', toks := tk'}) : wpAny (model prog w) (At0 dp un (some outer) gd) (call (.ref 405) [wv, .ref al]) Q E s := by
  walk_at "9d"
  walk_at "9k"
  walk_at "m_rest"
  walk_at "9w"
  have hal0 := kg'.get hal
  walk_at "9G"
  clear hal hal0
  by_cases hn : (a1.isInt && a2.isInt) = false
  · k_steps
    (refine leave_flewA rfl (by k_asm) (fun b o q _ => kg'.get q) (Heap.UpToSlots.of_keeps fun b o q => Fr.keep (by k_asm) b o (kg'.get q)) (by with_reducible assumption) ?_; intro h' fl' ht; exact hE _ _ _ hn fl' ht)
  · walk_at "9z"
    · walk_at "9J"
      · k_steps
        walk_at "m_end"
        intro kk _ ht
        exact hQ i j _ _ _ rfl rfl rfl kk
      · walk_at "96"
    · walk_at "97"
theorem c_is_number {wv v1 : Value} {a1 : At} {al : Addr} {n : Nat} (G : Gd w p lo mean mg mb h₀ s) (hd : dp + 4 < recursionLimit) (hal : s.heap.get? al = some (listOf #[v1] n)) (ha1 : AtV v1 a1)
   (hQ : ∀ h' tk', Kept [] s.heap h' → Q (.ref (if a1.isInt then 127 else 124)) {s with heap := h', toks := tk'}) : wpAny (model prog w) (At0 dp un fr gd) (call (.ref 412) [wv, .ref al]) Q E s := by
  walk_at "9d"
  walk_at "9k"
  walk_at "m_rest"
  walk_at "9w"
  have hal0 := kg'.get hal
  walk_at "9ax"
  clear hal hal0
  k_steps
  walk_at "m_end"
  intro kk _ ht
  exact hQ _ _ kk
theorem zg_minmax : True := trivial
theorem zrr12 : True := by
  k_with "@call type:enumerate" => ((fail_if_success have := zg_idx); ((with_reducible show wpAny _ _ _ (fun xv s₁ => wpAny _ _ (pyIter xv) (fun it s₂ => TurnsMy _ _ _ _ _ _ _ _ _ it s₂) _ s₁) _ _); refine' my_enum (by assumption) ?k1_52 ?k2_52 ?k3_52 ?k4_52 ?k5_52; (case k1_52 => with_unfolding_all exact rfl); (case k2_52 => k_asm); (case k3_52 => k_asm); (case k4_52 => with_reducible assumption)))
  k_with "@exec For Tuple Call cons nil" => ((fail_if_success have := zg_idx); (k_here; (with_reducible rename Fr _ _ _ _ => lF9'); (with_unfolding_all refine' For_my lF9' ?_; k_whole)))
  k_with "@compareOp Is" => ((fail_if_success have := zg_idx); ((with_reducible show wpAny _ _ (compareOp CmpOp.Is (Value.int _ _) (Value.int _ _)) _ _ _); refine' is_int ?k1_54 ?k2_54 ?k3_54 ?k4_54 ?_; (case k1_54 => k_in); (case k2_54 => with_reducible assumption); (case k3_54 => with_reducible assumption); (case k4_54 => with_reducible assumption); intro b9' hb9'; cases b9'))
  k_with "@compareOp Is" => ((fail_if_success have := zg_idx); ((with_reducible show wpAny _ _ (compareOp CmpOp.Is _ _) _ _ _); refine' is_atom ?k1_55 ?k2_55 ?k3_55 ?k4_55 ?_; (case k1_55 => k_in); (case k2_55 => with_reducible assumption); (case k3_55 => with_reducible assumption); (case k4_55 => with_reducible assumption)))
  trivial
def c_index_of.zS (ca cd vl : Addr) (vals : List Value) (cs : List At) (t0 : Tok) (n : Nat) : Prop := ∀ {v : Value} {y : At} (G : Gd w p lo mean mg mb h₀ s) (hd : dp + 6 < recursionLimit) (hca : s.heap.get? ca = some (instObj 276 cd)) (hcd : s.heap.get? cd = some (consD w.params t0 vl)) (hvl : s.heap.get? vl = some (listOf vals.toArray n)) (h0 : h₀.get? ca = none ∧ h₀.get? cd = none ∧ h₀.get? vl = none) (hvs : AtsV vals cs) (hT : TokOK vals) (hv : AtV v y) (hvt : TokFor vals v) (hlen : vals.length ≤ 1000) (hQ1 : ∀ k t h' tk', posOf y cs = some k → Kept [] s.heap h' → Q (.int k t) {s with heap := h', toks := tk'}) (hQ2 : ∀ t n' h' tk', posOf y cs = none → Kept [vl] s.heap h' → h'.get? vl = some (listOf (vals ++ [v]).toArray n') → Q (.int vals.length t) {s with heap := h', toks := tk'}), wpAny (model prog w) (At0 dp un fr gd) (call (.ref 266) [.ref ca, v]) Q E s
end
noncomputable section
namespace c_index_of
def zP (c : Program × World × Nat × Nat × (Option (List Env)) × (Option (List Code)) × Shared × Heap × Program × (List Str) × (ExcName → Option Value) × (Str → Option Value) × (Str → Option Value) × (Value → Shared → Prop) × (Value → Shared → Prop) × Addr × Addr × Addr × (List Value) × (List At) × Tok × Nat) : Prop := @zS c.1 c.2.1 c.2.2.1 c.2.2.2.1 (d4 c).1 (d4 c).2.1 (d4 c).2.2.1 (d4 c).2.2.2.1 (d4 (d4 c)).1 (d4 (d4 c)).2.1 (d4 (d4 c)).2.2.1 (d4 (d4 c)).2.2.2.1 (d4 (d4 (d4 c))).1 (d4 (d4 (d4 c))).2.1 (d4 (d4 (d4 c))).2.2.1 (d4 (d4 (d4 c))).2.2.2.1 (d16 c).1 (d16 c).2.1 (d16 c).2.2.1 (d16 c).2.2.2.1 (d4 (d16 c)).1 (d4 (d16 c)).2
@[irreducible] def zk := Classical.choice (ep_ne (by walk_at "df") zP)
@[irreducible] def prog := zk.1.1
@[irreducible] def w := zk.1.2.1
@[irreducible] def dp := zk.1.2.2.1
@[irreducible] def un := zk.1.2.2.2.1
@[irreducible] def fr := (d4 zk.1).1
@[irreducible] def gd := (d4 zk.1).2.1
@[irreducible] def s := (d4 zk.1).2.2.1
@[irreducible] def h₀ := (d4 zk.1).2.2.2.1
@[irreducible] def p := (d4 (d4 zk.1)).1
@[irreducible] def lo := (d4 (d4 zk.1)).2.1
@[irreducible] def mean := (d4 (d4 zk.1)).2.2.1
@[irreducible] def mg := (d4 (d4 zk.1)).2.2.2.1
@[irreducible] def mb := (d4 (d4 (d4 zk.1))).1
@[irreducible] def Q := (d4 (d4 (d4 zk.1))).2.1
@[irreducible] def E := (d4 (d4 (d4 zk.1))).2.2.1
@[irreducible] def ca := (d4 (d4 (d4 zk.1))).2.2.2.1
@[irreducible] def cd := (d16 zk.1).1
@[irreducible] def vl := (d16 zk.1).2.1
@[irreducible] def vals := (d16 zk.1).2.2.1
@[irreducible] def cs := (d16 zk.1).2.2.2.1
@[irreducible] def t0 := (d4 (d16 zk.1)).1
@[irreducible] def n := (d4 (d16 zk.1)).2
theorem zt0 : @zS prog w dp un fr gd s h₀ p lo mean mg mb Q E ca cd vl vals cs t0 n := by
  unfold zS
  intro v y G hd hca hcd hvl h0 hvs hT hv hvt hlen hQ1 hQ2
  refine wpAny_call ?_
  have LL : Led h₀ s.heap [(ca, instObj 276 cd), (cd, consD w.params t0 vl)] := fun p hp => by
    walk_at "9x"
    · exact ⟨hca, h0.1⟩
    · walk_at "9ak"
      exact ⟨hcd, h0.2.1⟩
  refine' enterM2 (M := [ca, cd, vl]) (binds := [(Str.ofString "self", .ref ca), (Str.ofString "value", v)]) ?hM G LL ?ho ?hcd ?hr ?hb ?hl ?_ ?c1 ?c2 ?c3 ?c4
  (case hM => intro p hp; rcases List.mem_cons.mp hp with rfl | hp; exact .head _; (obtain rfl := List.mem_singleton.mp hp); exact .tail _ (.head _))
  walk_at "m_rest"
  have n1 : vl ≠ ca := ne_obj hvl hca (fun q => by cases q)
  have n2 : vl ≠ cd := ne_obj hvl hcd (fun q => by injection q with q; injection q with q; exact absurd q (by decide))
  have hvl0 := kb vl _ (by simp [n1, n2]) hvl
  walk_at "91"
  let J : LoopInv := fun i m news tk => (∀ z, z ≠ (Str.ofString "index") → z ≠ (Str.ofString "own") → m z = List.lookup z [(Str.ofString "self", Value.ref ca), (Str.ofString "value", v)].reverse) ∧ news = [(ca, instObj 276 cd), (cd, consD w.params t0 vl)] ∧ ∀ j, j < i → cs[j]? ≠ some y
  k_steps
  refine ⟨⟨fun _ _ _ => rfl, rfl, fun j hj => absurd hj (Nat.not_lt_zero _)⟩, ?_, fun _ _ _ _ _ h _ => h, ?_, ?_⟩
  · exact List.forall_mem_cons.mpr ⟨rfl, List.forall_mem_cons.mpr ⟨rfl, List.forall_mem_nil _⟩⟩
  · rintro i _ m₁ news₁ h₁ tk₁ own hi ⟨T, _, rfl, ⟨t, x, hx, rfl⟩, hT'⟩ ⟨hm, rfl, hno⟩ hle hoff hit F' N'
    obtain ⟨u, rfl⟩ := locs2 hm
    have hx' : vals[i]? = some x := by simpa using hx
    obtain ⟨a, ha, hxa⟩ := AtsV.get hvs hx'
    clear hm
    have ret : ∀ t' h' tk', Kept [] s.heap h' → a = y → Q (.int i t') {s with heap := h', toks := tk'} := fun t' h' tk' kk e => hQ1 i t' h' tk' (posOf_some (by rw [ha, e]) hno) kk
    have nxt : a ≠ y → ∀ j, j < i + 1 → cs[j]? ≠ some y := fun ne j hj => by
      rcases Nat.lt_succ_iff_lt_or_eq.mp hj with h | rfl
      · exact hno j h
      · rw [ha]; exact fun q => ne (Option.some.inj q)
    have turn : ∀ (own' : List (Addr × Obj)), ∀ p ∈ [(ca, instObj 276 cd), (cd, consD w.params t0 vl)], isIter p.2 = false := fun _ => List.forall_mem_cons.mpr ⟨rfl, List.forall_mem_cons.mpr ⟨rfl, List.forall_mem_nil _⟩⟩
    by_cases hn : (a.isInt && y.isInt) = false
    · rcases hxa.split with ⟨p, tp, rfl, rfl⟩ | hn1
      · rcases hv.split with ⟨q, tq, rfl, rfl⟩ | hn2
        · cases hn
        · k_steps
          · walk_at "m_end"
            intro kk ll
            refine ret _ _ _ ?_ (by assumption)
            walk_at "9o"
          · show TurnEnd _ _ _ _ _ _
            refine TurnEnd.mk (J := J (i + 1)) (news' := [(ca, instObj 276 cd), (cd, consD w.params t0 vl)]) (by k_asm) (by k_asm) (turn []) ⟨?_, rfl, nxt (by assumption)⟩
            · intro z z1 z2
              walk_at "9aM"
      · k_steps
        · walk_at "m_end"
          intro kk ll
          refine ret _ _ _ ?_ (by assumption)
          walk_at "9o"
        · show TurnEnd _ _ _ _ _ _
          refine TurnEnd.mk (J := J (i + 1)) (news' := [(ca, instObj 276 cd), (cd, consD w.params t0 vl)]) (by k_asm) (by k_asm) (turn []) ⟨?_, rfl, nxt ?_⟩
          · intro z z1 z2
            walk_at "9aM"
          · assumption
    · rcases hxa.split with ⟨p, tp, rfl, rfl⟩ | hn1
      · rcases hv.split with ⟨q, tq, rfl, rfl⟩ | hn2
        · obtain ⟨htq, hco⟩ := hvt _ _ rfl
          have htp := hT.1 _ _ (List.mem_of_getElem? hx')
          have hpq : tp = tq → p = q := fun e => (hco p (e ▸ List.mem_of_getElem? hx')).symm
          k_steps
          · walk_at "m_end"
            intro kk ll
            refine ret _ _ _ ?_ (congrArg At.int (by assumption))
            walk_at "9o"
          · show TurnEnd _ _ _ _ _ _
            refine TurnEnd.mk (J := J (i + 1)) (news' := [(ca, instObj 276 cd), (cd, consD w.params t0 vl)]) (by k_asm) (by k_asm) (turn []) ⟨?_, rfl, nxt (fun e => absurd (At.int.inj e) (by assumption))⟩
            · intro z z1 z2
              walk_at "9aM"
          · walk_at "m_end"
            intro kk ll
            refine ret _ _ _ ?_ (congrArg At.int ((by assumption : true = true → _ = _) rfl))
            walk_at "9o"
        · walk_at "96"
      · walk_at "97"
  · rintro h' tk m' news' hle F' N' hit' ⟨hm, rfl, hno⟩
    obtain ⟨u, rfl⟩ := locs2 hm
    clear hm
    obtain ⟨Fs, Ns⟩ := fr_hide F' N' hvl0
    have hs2 := Sub.hide hsub0 (a := vl) Z2
    obtain ⟨X2, T2⟩ := G.sub hs2 (by intro b hb; simp only [mem_cons, not_mem_nil, or_false] at hb; rcases hb with rfl | rfl | rfl; (exact h0.1); (exact h0.2.1); exact h0.2.2)
    clear F' N' X0 T0 hsub0
    k_steps
    walk_at "9h"
    intro kk ll
    have e : (((vals ++ [v]).toArray.size : Nat) : Int) - 1 = (vals.length : Int) := by simp
    rw [e]
    refine hQ2 _ _ _ _ (posOf_none.mpr fun j hj => ?_) (Kept.of_left kk ll LL (fun p hp => .tail _ hp) (fa1 (.inr (by dsimp only [List.map]; k_mem)) (fa1 (.inr (by dsimp only [List.map]; k_mem)) (fa1 (.inl (by k_mem)) fa0)))) (ll _ (.head _)).1
    have hj' : j < vals.length := by
      rw [hvs.length]
      exact (List.getElem?_eq_some_iff.mp hj).1
    exact hno j (by simpa using hj') hj
end c_index_of
end
section
variable {prog : Program} {w : World} {dp un : Nat} {fr : Option (List Env)} {gd : Option (List Code)} {s : Shared} {h₀ : Heap} {p : Program} {lo : List Str} {mean : ExcName → Option Value} {mg mb : Str → Option Value} {Q E : Value → Shared → Prop}
theorem c_index_of {ca cd vl : Addr} {vals : List Value} {cs : List At} {t0 : Tok} {n : Nat} : @c_index_of.zS prog w dp un fr gd s h₀ p lo mean mg mb Q E ca cd vl vals cs t0 n := by with_unfolding_all exact @ep_get _ _ c_index_of.zk (@c_index_of.zt0) (prog, w, dp, un, fr, gd, s, h₀, p, lo, mean, mg, mb, Q, E, ca, cd, vl, vals, cs, t0, n)
theorem zg_idx : True := trivial
theorem zrr13 : True := by
  k_with "@call type:enumerate" => ((fail_if_success have := zg_pidx); ((with_reducible show wpAny _ _ _ (fun xv s₁ => wpAny _ _ (pyIter xv) (fun it s₂ => FindMy _ _ _ _ _ _ _ _ _ it s₂) _ s₁) _ _); refine' find_start (by assumption) ?k1_56 ?k2_56 ?k3_56 ?k4_56 ?k5_56; (case k1_56 => k_asm); (case k2_56 => k_asm); (case k3_56 => with_reducible assumption); (case k4_56 => with_reducible assumption)))
  k_with "@exec For Tuple Call cons nil" => ((fail_if_success have := zg_pidx); (k_here; (with_reducible rename Fr _ _ _ _ => lF9'); (with_unfolding_all refine' For_find lF9' ?_; k_whole)))
  k_with "@compareOp Eq ref ref" => ((fail_if_success have := zg_pidx); ((with_reducible show wpAny _ _ (compareOp CmpOp.Eq (Value.ref _) (Value.ref _)) _ _ _); refine' eq_tup ?k1_58 ?k2_58 ?k3_58 ?k4_58 ?k5_58 ?_; (case k1_58 => exact Heap.IsTuple.at (by with_reducible assumption) (fun o e => Fr.keep (by k_asm) _ o e)); (case k2_58 => exact News.isTup (by k_asm) (by k_mem)); (case k3_58 => walk_at "m_units"); (case k4_58 => with_reducible assumption); (case k5_58 => with_reducible assumption)))
  k_with "@m_units" => ((fail_if_success have := zg_pidx); ((try simp only [units_in1, units_deeper, Around.mark_units, units_caller]); (try dsimp only [At0]); (try simp only [cLine] at *); walk_at "om"))
  trivial
theorem c_plain_index {nm : Str} {k : Int} {tn tk : Tok} {i₀ : Nat} (G : Gd w p lo mean mg mb h₀ s) (hd : dp + 4 < recursionLimit) (hu : un + 70 < cLine) (hs : PyData.strOk nm = true) (hi₀ : plainRows[i₀]? = some (nm, k)) (hf : ∀ j, j < i₀ → plainRows[j]? ≠ some (nm, k)) (hok : ∀ r ∈ plainRows, PyData.strOk r.1 = true)
   (hQ : ∀ t h' tk', Kept [] s.heap h' → Q (.int i₀ t) {s with heap := h', toks := tk'}) : wpAny (model prog w) (At0 dp un fr gd) (call (.ref 74) [.str nm tn, .int k tk]) Q E s := by
  revert G hd hu hs hi₀ hf hok hQ
  revert prog w dp un fr gd s h₀ p lo mean mg mb Q E nm k tn tk i₀
  walk_at "9c"
  intro prog w dp un fr gd s h₀ p lo mean mg mb Q E nm
  clear_value prog w dp un fr gd s h₀ p lo mean mg mb Q E nm
  walk_at "9f"
  intro k tn tk i₀
  clear_value k tn tk i₀
  walk_at "in"
  refine wpAny_call ?_
  refine' enterM (binds := [(Str.ofString "name", .str nm tn), (Str.ofString "many", .int k tk)]) G Led.nil ?ho ?hcd ?hr ?hb ?hl ?_ ?c1 ?c2 ?c3 ?c4
  walk_at "m_rest"
  have hpl := plain_tup X0
  have hk : i₀ < (refsFrom 22 45).toArray.size := by
    have := (List.getElem?_eq_some_iff.mp hi₀).1
    exact this
  let J : LoopInv := fun i m news tk' => (∀ z, z ≠ (Str.ofString "index") → z ≠ (Str.ofString "row") → m z = List.lookup z [(Str.ofString "name", Value.str nm tn), (Str.ofString "many", Value.int k tk)].reverse) ∧ news = []
  k_steps
  refine ⟨⟨fun _ _ _ => rfl, rfl⟩, List.forall_mem_nil _, ?_, fun _ _ _ _ _ h _ => h⟩
  rintro i x t T m₁ news₁ h₁ tk₁ own hi hx hT' ⟨hm, rfl⟩ hle hoff hit F' N'
  obtain ⟨u, rfl⟩ := locs2 hm
  clear hm
  obtain rfl := refsFrom_get 45 22 i x (by simpa using hx)
  obtain ⟨r, hr⟩ : ∃ r, plainRows[i]? = some r := ⟨_, List.getElem?_eq_getElem (Nat.lt_of_le_of_lt hi (List.getElem?_eq_some_iff.mp hi₀).1)⟩
  obtain ⟨t1, t2, hrow⟩ := (plain_rows X0).get hr
  have hrs := hok r (List.mem_of_getElem? hr)
  k_steps
  · walk_at "m_end"
    intro kk ll
    have he : r = (nm, k) := by
      obtain ⟨e1, e2⟩ := (by assumption : r.1 = nm ∧ r.2 = k)
      exact Prod.ext e1 e2
    have hii : i = i₀ := by
      rcases Nat.lt_or_eq_of_le hi with q | q
      · exact absurd (he ▸ hr) (hf i q)
      · exact q
    subst hii
    exact hQ _ _ _ kk
  · have hne : ¬ (r.1 = nm ∧ r.2 = k) := by assumption
    have hlt : i < i₀ := by
      rcases Nat.lt_or_eq_of_le hi with q | q
      · exact q
      · subst q
        rw [hi₀] at hr
        exact absurd (by rw [← Option.some.inj hr]; exact ⟨rfl, rfl⟩) hne
    show i < i₀ ∧ TurnEnd _ _ _ _ _ _
    refine ⟨hlt, ?_⟩
    refine TurnEnd.mk (J := J (i + 1)) (news' := []) (by k_asm) (news_less (by k_asm) (fun p hp => .tail _ hp)) (List.forall_mem_nil _) ⟨?_, rfl⟩
    intro z z1 z2
    walk_at "9aM"
theorem zg_pidx : True := trivial
theorem zrr14 : True := by
  k_with "@ite" => ((fail_if_success have := zg_cbeh); ((with_reducible refine' ite_neg ?ic_60 ?_); (case ic_60 => (simp only [List.size_toArray]; walk_at "om"))))
  k_with "@subscriptTail" => ((fail_if_success have := zg_cbeh); (k_here; (fail_if_success (with_reducible show wpAny _ _ (subscriptTail (PySem.Expr.Name _ _) _ _ _) _ _ _)); k_dflt (refine kba_turn (value' := PySem.Expr.Name (PySem.Str.ofString "_") ⟨0, 0, 0, 0⟩) (fun _ => rfl) ?_)))
  k_with "@call builtin:all" => ((fail_if_success have := zg_cbeh); (k_here; (with_reducible show wpAny _ _ (call (Value.builtin "all") [Value.ref _]) _ _ _); k_dflt (refine LSm.all_bools (by k_asm) (by k_asm) (by rfl) (by lsm_list) (by lsm_bools) ?_); intro h9' tk9' F9' N9'; (try simp only [List.all_map, List.all_cons, List.all_nil, Function.comp_def, id_eq, Bool.and_true]); (first | ((with_reducible rename (_ == Str.ofString "const" && _ == Str.ofString "const") = false => hw9); (simp only [hw9])) | ((with_reducible rename (_ == Str.ofString "const") = false => hw9); (simp only [hw9, Bool.and_false, Bool.false_and])) | skip)))
  k_with "@call builtin:len" => ((fail_if_success have := zg_cbeh); (k_here; (with_reducible show wpAny _ _ (call (Value.builtin "len") [Value.ref _]) _ _ _); (refine' len_list ?k1_63 ?k2_63 ?_; (case k1_63 => exact Heap.IsList.at (by with_reducible assumption) (fun o e => Fr.keep (by k_asm) _ o e)); (case k2_63 => simp only [List.size_toArray]; walk_at "om")); k_whole))
  k_with "@subscriptTail Name Slice ref ref" => ((fail_if_success have := zg_cbeh); (k_here; (with_reducible show wpAny _ _ (subscriptTail _ (PySem.Expr.Slice _ _ none _) (Value.ref _) (Value.ref _)) _ _ _); k_dflt (refine' kmk_slice_lit ?F ?N ?l_64 ?p_64 ?q_64 ?e_64 ?_ ?s_64 ?t_64 ?z_64; (case F => k_asm); (case N => k_asm); (case l_64 => exact Heap.IsList.at (by with_reducible assumption) (fun o e => Fr.keep (by k_asm) _ o e)); (case p_64 => kmk_part); (case q_64 => kmk_part); (case e_64 => with_reducible assumption); (case s_64 => with_unfolding_all rfl); (case t_64 => kmk_pure); (case z_64 => (simp only [List.size_toArray, sizeLine_eq]; walk_at "om"))); intro D9' h9' F9' N9' l19; (try k_lt l19); (try k_sweep)))
  k_with "@subscriptTail Name Name ref int" => ((fail_if_success have := zg_cbeh); (k_here; (with_reducible show wpAny _ _ (subscriptTail _ _ (Value.ref _) (Value.int _ _)) _ _ _); (with_unfolding_all refine' item_base ?k1_65 ?k2_65 ?k3_65 ?k4_65 ?_ ?k5_65; (case k1_65 => exact Heap.IsList.at (by with_reducible assumption) (fun o e => Fr.keep (by k_asm) _ o e)); (case k2_65 => with_reducible assumption); (case k3_65 => with_reducible assumption); (case k4_65 => with_unfolding_all rfl); (case k5_65 => intro _; with_unfolding_all rfl))))
  trivial
theorem c_behind1 {la ca cd vl a1 : Addr} {vs vals : List Value} {t1 u1 : Tok} {d1 : Option Addr} {n1 : Nat} {sl1 : Array (Option Value)} {k1 : Nat} {wd1 : Str} {x1 : Value} {b1 : At} {tm t0 : Tok} {n n' : Nat} (G : Gd w p lo mean mg mb h₀ s) (hd : dp + 6 < recursionLimit)
   (hla : s.heap.get? la = some (listOf vs.toArray n))
   (hca : s.heap.get? ca = some (instObj 276 cd)) (hcd : s.heap.get? cd = some (consD w.params t0 vl)) (hvl : s.heap.get? vl = some (listOf vals.toArray n')) (h0 : h₀.get? ca = none ∧ h₀.get? cd = none ∧ h₀.get? vl = none)
   (hlen : vals.length ≤ 1000) (hlen' : vs.length ≤ 1000)
   (hws : vs.drop (vs.length - 1) = [.ref a1]) (hl1 : 1 ≤ vs.length) (ha1 : s.heap.get? a1 = some ⟨.type "tuple", d1, .seq #[.str wd1 t1, .int (k1 : Nat) u1] n1, sl1⟩) (hna1 : h₀.get? a1 = none) (hk1 : (wd1 == Str.ofString "const") = true → vals[k1]? = some x1) (hx1 : (wd1 == Str.ofString "const") = true → AtV x1 b1)
   (hN : (wd1 == Str.ofString "const") = false → ∀ h' tk', Kept [] s.heap h' → Q .none {s with heap := h', toks := tk'})
   (hQ : (wd1 == Str.ofString "const") = true → ∀ ra h' tk' n2, Kept [] s.heap h' → s.heap.get? ra = none → h'.get? ra = some (listOf #[x1] n2) → Q (.ref ra) {s with heap := h', toks := tk'}) : wpAny (model prog w) (At0 dp un fr gd) (call (.ref 231) [.ref la, .ref ca, .int (1 : Nat) tm]) Q E s := by
  revert G hd hla hca hcd hvl h0 hlen hlen' hws hl1 ha1 hna1 hk1 hx1 hN hQ
  revert prog w dp un fr gd s h₀ p lo mean mg mb Q E la ca cd vl a1 vs vals t1 u1 d1 n1 sl1 k1 wd1 x1 b1 tm t0 n n'
  walk_at "9c"
  intro prog w dp un fr gd s h₀ p lo mean mg mb Q E la
  clear_value prog w dp un fr gd s h₀ p lo mean mg mb Q E la
  walk_at "9c"
  intro ca cd vl a1 vs vals t1 u1 d1 n1 sl1 k1 wd1 x1 b1 tm
  clear_value ca cd vl a1 vs vals t1 u1 d1 n1 sl1 k1 wd1 x1 b1 tm
  walk_at "9e"
  intro t0 n
  clear_value t0 n
  walk_at "9g"
  intro n'
  clear_value n'
  walk_at "in"
  refine wpAny_call ?_
  have LL : Led h₀ s.heap [(ca, instObj 276 cd), (cd, consD w.params t0 vl), (a1, ⟨.type "tuple", d1, .seq #[.str wd1 t1, .int (k1 : Nat) u1] n1, sl1⟩)] := (fa1 ⟨hca, h0.1⟩ (fa1 ⟨hcd, h0.2.1⟩ (fa1 ⟨ha1, hna1⟩ fa0)))
  refine' enterC (M := [ca, cd, a1]) (binds := [(Str.ofString "lines", .ref la), (Str.ofString "constants", .ref ca), (Str.ofString "many", .int (1 : Nat) tm)]) ?hM G LL ?ho ?hcd ?hr ?hb ?hl ?hnd ?_ ?c1 ?c2 ?c3
  walk_at "9m"
  walk_at "m_restC"
  have hvl0 := kb vl _ (na1 (ne_l hvl hca nI) (na1 (ne_l hvl hcd nD) (na1 (ne_l hvl ha1 nT) na0))) hvl
  walk_at "91"
  have hla0 := kb la _ (na1 (ne_l hla hca nI) (na1 (ne_l hla hcd nD) (na1 (ne_l hla ha1 nT) na0))) hla
  walk_at "9at"
  have hsl : (slicePick vs.toArray (some (((vs.toArray.size : Nat) : Int) - ((1 : Nat) : Int))) none none).toList = [.ref a1] := by
    have e : ((vs.toArray.size : Nat) : Int) - ((1 : Nat) : Int) = ((vs.length - 1 : Nat) : Int) := by simp only [List.size_toArray]; walk_at "om"
    rw [e, slicePick_from']; simpa using hws
  rename_i o0 od
  walk_at "9ad"
  clear_value qk ek
  revert G hd hla hca hcd hvl h0 hlen hlen' hws hl1 ha1 hna1 hk1 hx1 hN hQ LL hsub0 F0 X0 T0 l10 od N0 kg kb hqk hvl0 hvl' hla0 hla' hsl
  apply iy8 g0 h10 L0 tk10 o0 qk ek mb ⟨by walk_at "df"⟩
  intro g0 h10 L0 tk10 o0 qk ek mb
  clear_value g0 h10 L0 tk10 o0 qk ek mb
  walk_at "in"
  k_steps
  · have hk1 := hk1 (by assumption)
    have hx1 := hx1 (by assumption)
    k_steps
    refine hqk _ _ ?_
    walk_at "9h"
    intro kk ll
    have kz : Kept [] s.heap _ := Kept.of_left kk ll LL (fa1 (by k_mem) (fa1 (by k_mem) (fa1 (by k_mem) fa0))) (fun a ha => .inr ha)
    refine hQ (by assumption) _ _ _ _ kz ?_ (ll _ Z1).1
    exact fresh_left ll Z1 (fa1 ⟨_, (by k_mem : (ca, instObj 276 cd) ∈ _), nI⟩ (fa1 ⟨_, (by k_mem : (cd, consD w.params t0 vl) ∈ _), nD⟩ (fa1 ⟨_, (by k_mem : (a1, ⟨.type "tuple", d1, .seq #[.str wd1 t1, .int (k1 : Nat) u1] n1, sl1⟩) ∈ _), nT⟩ fa0)))
  · refine hqk _ _ ?_
    walk_at "9h"
    intro kk ll
    have kz : Kept [] s.heap _ := Kept.of_left kk ll LL (fa1 (by k_mem) (fa1 (by k_mem) (fa1 (by k_mem) fa0))) (fun a ha => .inr ha)
    exact hN (by assumption) _ _ kz
theorem c_behind2 {la ca cd vl a1 a2 : Addr} {vs vals : List Value} {t1 u1 : Tok} {d1 : Option Addr} {n1 : Nat} {sl1 : Array (Option Value)} {t2 u2 : Tok} {d2 : Option Addr} {n2 : Nat} {sl2 : Array (Option Value)} {k1 : Nat} {wd1 wd2 : Str} {x1 : Value} {b1 : At} {k2 : Nat} {x2 : Value} {b2 : At} {tm t0 : Tok} {n n' : Nat} (G : Gd w p lo mean mg mb h₀ s) (hd : dp + 6 < recursionLimit)
   (hla : s.heap.get? la = some (listOf vs.toArray n))
   (hca : s.heap.get? ca = some (instObj 276 cd)) (hcd : s.heap.get? cd = some (consD w.params t0 vl)) (hvl : s.heap.get? vl = some (listOf vals.toArray n')) (h0 : h₀.get? ca = none ∧ h₀.get? cd = none ∧ h₀.get? vl = none)
   (hlen : vals.length ≤ 1000) (hlen' : vs.length ≤ 1000)
   (hws : vs.drop (vs.length - 2) = [.ref a1, .ref a2]) (hl1 : 2 ≤ vs.length) (ha1 : s.heap.get? a1 = some ⟨.type "tuple", d1, .seq #[.str wd1 t1, .int (k1 : Nat) u1] n1, sl1⟩) (hna1 : h₀.get? a1 = none) (hk1 : (wd1 == Str.ofString "const" && wd2 == Str.ofString "const") = true → vals[k1]? = some x1) (hx1 : (wd1 == Str.ofString "const" && wd2 == Str.ofString "const") = true → AtV x1 b1) (ha2 : s.heap.get? a2 = some ⟨.type "tuple", d2, .seq #[.str wd2 t2, .int (k2 : Nat) u2] n2, sl2⟩) (hna2 : h₀.get? a2 = none) (hk2 : (wd1 == Str.ofString "const" && wd2 == Str.ofString "const") = true → vals[k2]? = some x2) (hx2 : (wd1 == Str.ofString "const" && wd2 == Str.ofString "const") = true → AtV x2 b2)
   (hN : (wd1 == Str.ofString "const" && wd2 == Str.ofString "const") = false → ∀ h' tk', Kept [] s.heap h' → Q .none {s with heap := h', toks := tk'})
   (hQ : (wd1 == Str.ofString "const" && wd2 == Str.ofString "const") = true → ∀ ra h' tk' n2, Kept [] s.heap h' → s.heap.get? ra = none → h'.get? ra = some (listOf #[x1, x2] n2) → Q (.ref ra) {s with heap := h', toks := tk'}) : wpAny (model prog w) (At0 dp un fr gd) (call (.ref 231) [.ref la, .ref ca, .int (2 : Nat) tm]) Q E s := by
  revert G hd hla hca hcd hvl h0 hlen hlen' hws hl1 ha1 hna1 hk1 hx1 ha2 hna2 hk2 hx2 hN hQ
  revert prog w dp un fr gd s h₀ p lo mean mg mb Q E la ca cd vl a1 a2 vs vals t1 u1 d1 n1 sl1 t2 u2 d2 n2 sl2 k1 wd1 wd2 x1 b1 k2 x2 b2 tm t0 n n'
  walk_at "9c"
  intro prog w dp un fr gd s h₀ p lo mean mg mb Q E la
  clear_value prog w dp un fr gd s h₀ p lo mean mg mb Q E la
  walk_at "9c"
  intro ca cd vl a1 a2 vs vals t1 u1 d1 n1 sl1 t2 u2 d2 n2
  clear_value ca cd vl a1 a2 vs vals t1 u1 d1 n1 sl1 t2 u2 d2 n2
  walk_at "9i"
  intro sl2 k1 wd1 wd2 x1 b1 k2 x2
  clear_value sl2 k1 wd1 wd2 x1 b1 k2 x2
  walk_at "9f"
  intro b2 tm t0 n
  clear_value b2 tm t0 n
  walk_at "9g"
  intro n'
  clear_value n'
  walk_at "in"
  refine wpAny_call ?_
  have LL : Led h₀ s.heap [(ca, instObj 276 cd), (cd, consD w.params t0 vl), (a1, ⟨.type "tuple", d1, .seq #[.str wd1 t1, .int (k1 : Nat) u1] n1, sl1⟩), (a2, ⟨.type "tuple", d2, .seq #[.str wd2 t2, .int (k2 : Nat) u2] n2, sl2⟩)] := (fa1 ⟨hca, h0.1⟩ (fa1 ⟨hcd, h0.2.1⟩ (fa1 ⟨ha1, hna1⟩ (fa1 ⟨ha2, hna2⟩ fa0))))
  refine' enterC (M := [ca, cd, a1, a2]) (binds := [(Str.ofString "lines", .ref la), (Str.ofString "constants", .ref ca), (Str.ofString "many", .int (2 : Nat) tm)]) ?hM G LL ?ho ?hcd ?hr ?hb ?hl ?hnd ?_ ?c1 ?c2 ?c3
  walk_at "9m"
  walk_at "m_restC"
  have hvl0 := kb vl _ (na1 (ne_l hvl hca nI) (na1 (ne_l hvl hcd nD) (na1 (ne_l hvl ha1 nT) (na1 (ne_l hvl ha2 nT) na0)))) hvl
  walk_at "91"
  have hla0 := kb la _ (na1 (ne_l hla hca nI) (na1 (ne_l hla hcd nD) (na1 (ne_l hla ha1 nT) (na1 (ne_l hla ha2 nT) na0)))) hla
  walk_at "9at"
  have hsl : (slicePick vs.toArray (some (((vs.toArray.size : Nat) : Int) - ((2 : Nat) : Int))) none none).toList = [.ref a1, .ref a2] := by
    have e : ((vs.toArray.size : Nat) : Int) - ((2 : Nat) : Int) = ((vs.length - 2 : Nat) : Int) := by simp only [List.size_toArray]; walk_at "om"
    rw [e, slicePick_from']; simpa using hws
  rename_i o0 od
  walk_at "9ad"
  clear_value qk ek
  revert G hd hla hca hcd hvl h0 hlen hlen' hws hl1 ha1 hna1 hk1 hx1 ha2 hna2 hk2 hx2 hN hQ LL hsub0 F0 X0 T0 l10 od N0 kg kb hqk hvl0 hvl' hla0 hla' hsl
  apply iy8 g0 h10 L0 tk10 o0 qk ek mb ⟨by walk_at "df"⟩
  intro g0 h10 L0 tk10 o0 qk ek mb
  clear_value g0 h10 L0 tk10 o0 qk ek mb
  walk_at "in"
  k_steps
  · have hk1 := hk1 (by assumption)
    have hk2 := hk2 (by assumption)
    have hx1 := hx1 (by assumption)
    have hx2 := hx2 (by assumption)
    k_steps
    refine hqk _ _ ?_
    walk_at "9h"
    intro kk ll
    have kz : Kept [] s.heap _ := Kept.of_left kk ll LL (fa1 (by k_mem) (fa1 (by k_mem) (fa1 (by k_mem) (fa1 (by k_mem) fa0)))) (fun a ha => .inr ha)
    refine hQ (by assumption) _ _ _ _ kz ?_ (ll _ Z1).1
    exact fresh_left ll Z1 (fa1 ⟨_, (by k_mem : (ca, instObj 276 cd) ∈ _), nI⟩ (fa1 ⟨_, (by k_mem : (cd, consD w.params t0 vl) ∈ _), nD⟩ (fa1 ⟨_, (by k_mem : (a1, ⟨.type "tuple", d1, .seq #[.str wd1 t1, .int (k1 : Nat) u1] n1, sl1⟩) ∈ _), nT⟩ (fa1 ⟨_, (by k_mem : (a2, ⟨.type "tuple", d2, .seq #[.str wd2 t2, .int (k2 : Nat) u2] n2, sl2⟩) ∈ _), nT⟩ fa0))))
  · refine hqk _ _ ?_
    walk_at "9h"
    intro kk ll
    have kz : Kept [] s.heap _ := Kept.of_left kk ll LL (fa1 (by k_mem) (fa1 (by k_mem) (fa1 (by k_mem) (fa1 (by k_mem) fa0)))) (fun a ha => .inr ha)
    exact hN (by assumption) _ _ kz
theorem c_behind_few {la ca cd vl : Addr} {vs vals : List Value} {many : Nat} {tm t0 : Tok} {n n' : Nat} (G : Gd w p lo mean mg mb h₀ s) (hd : dp + 6 < recursionLimit)
   (hla : s.heap.get? la = some (listOf vs.toArray n))
   (hca : s.heap.get? ca = some (instObj 276 cd)) (hcd : s.heap.get? cd = some (consD w.params t0 vl)) (hvl : s.heap.get? vl = some (listOf vals.toArray n')) (h0 : h₀.get? ca = none ∧ h₀.get? cd = none ∧ h₀.get? vl = none)
   (hlen : vals.length ≤ 1000) (hlen' : vs.length ≤ 1000)
   (hl1 : vs.length < many)
   (hQ : ∀ h' tk', Kept [] s.heap h' → Q .none {s with heap := h', toks := tk'}) : wpAny (model prog w) (At0 dp un fr gd) (call (.ref 231) [.ref la, .ref ca, .int (many : Nat) tm]) Q E s := by
  refine wpAny_call ?_
  have LL : Led h₀ s.heap [(ca, instObj 276 cd), (cd, consD w.params t0 vl)] := (fa1 ⟨hca, h0.1⟩ (fa1 ⟨hcd, h0.2.1⟩ fa0))
  refine' enterC (M := [ca, cd]) (binds := [(Str.ofString "lines", .ref la), (Str.ofString "constants", .ref ca), (Str.ofString "many", .int (many : Nat) tm)]) ?hM G LL ?ho ?hcd ?hr ?hb ?hl ?hnd ?_ ?c1 ?c2 ?c3
  walk_at "9m"
  walk_at "m_restC"
  have hvl0 := kb vl _ (na1 (ne_l hvl hca nI) (na1 (ne_l hvl hcd nD) na0)) hvl
  walk_at "91"
  have hla0 := kb la _ (na1 (ne_l hla hca nI) (na1 (ne_l hla hcd nD) na0)) hla
  walk_at "9at"
  have hl2 : vs.toArray.size < many := by simpa using hl1
  k_steps
  walk_at "9h"
  intro kk ll
  have kz : Kept [] s.heap _ := Kept.of_left kk ll LL (fa1 (by k_mem) (fa1 (by k_mem) fa0)) (fun a ha => .inr ha)
  exact hQ _ _ kz
theorem zg_cbeh : True := trivial
theorem nw_G {h1 : Heap} (G : Gd w p lo mean mg mb h₀ s) (k1 : Kept [] s.heap h1) : Gd w p lo mean mg mb h₀ { s with heap := h1 } := ⟨fun b o e => k1.get (G.st b o e), G.X, G.T⟩
theorem nw_n0 (G : Gd w p lo mean mg mb h₀ s) {b : Addr} (e : s.heap.get? b = none) : h₀.get? b = none := by
  cases q : h₀.get? b with
  | none => rfl
  | some o => have := G.st b o q; rw [e] at this; cases this
theorem nw_LL {h1 : Heap} {x d : Addr} {a b : Obj} (G : Gd w p lo mean mg mb h₀ s) (hx : h1.get? x = some a) (hd : h1.get? d = some b) (nx : s.heap.get? x = none) (nd : s.heap.get? d = none) : Led h₀ h1 [(x, a), (d, b)] := fa1 ⟨hx, nw_n0 G nx⟩ (fa1 ⟨hd, nw_n0 G nd⟩ fa0)
theorem nw_kz {s h1 h' : Heap} {x d : Addr} {a b : Obj} (kk : Kept (List.map (·.1) [(x, a), (d, b)]) h1 h') (k1 : Kept [] s h1) (nx : s.get? x = none) (nd : s.get? d = none) : Kept [] s h' := fun y o _ e =>
  kk y o (na1 (fun q => by rw [q, nx] at e; cases e) (na1 (fun q => by rw [q, nd] at e; cases e) na0)) (k1.get e)
theorem nw_fr {s h1 h' : Heap} {x d : Addr} {a b : Obj} {nw : List (Addr × Obj)} (ll : Left (List.map (·.1) [(x, a), (d, b)]) h1 h' nw) (k1 : Kept [] s h1) (nx : s.get? x = none) (nd : s.get? d = none) : ∀ p ∈ nw, s.get? p.1 = none := fun p hp => by
  rcases (ll p hp).2 with q | q
  · walk_at "99"
    · exact (show p.1 = x from q) ▸ nx
    · exact (show p.1 = d from List.mem_singleton.mp q) ▸ nd
  · cases z : s.get? p.1 with
    | none => rfl
    | some o => rw [k1.get z] at q; cases q
theorem c_new_symbol {num : Int} {nm : Str} {tn ts : Tok} (G : Gd w p lo mean mg mb h₀ s) (hd : dp + 4 < recursionLimit)
   (h : ∀ x d t1 t2 h' tk', Kept [] s.heap h' → s.heap.get? x = none → s.heap.get? d = none → h'.get? x = some (instObj 118 d) → h'.get? d = some (symD w.params t1 t2 tn ts num nm) → s.toks ≤ tk' → Q (.ref x) {s with heap := h', toks := tk'}) : wpAny (model prog w) (At0 dp un fr gd) (call (.ref 118) [.int num tn, .str nm ts]) Q E s := by
  revert G hd h
  revert prog w dp un fr gd s h₀ p lo mean mg mb Q E num nm tn ts
  walk_at "9c"
  intro prog w dp un fr gd s h₀ p lo mean mg mb Q E num
  clear_value prog w dp un fr gd s h₀ p lo mean mg mb Q E num
  walk_at "9e"
  intro nm tn
  clear_value nm tn
  walk_at "9g"
  intro ts
  clear_value ts
  walk_at "in"
  walk_at "9r"
  walk_at "9al"
  have G' := nw_G G k1
  have LL : Led h₀ h1 [(x, instObj 118 d), (d, dictOf [] 0)] := nw_LL G hx hxd nx nd
  replace ndx := ltN ndx
  refine' enterM (binds := [(Str.ofString "self", .ref x), (Str.ofString "number", .int num tn), (Str.ofString "name", .str nm ts)]) G' LL ?ho ?hcd ?hr ?hb ?hl ?_ ?c1 ?c2 ?c3 ?c4
  walk_at "m_rest"
  k_steps
  walk_at "9h"
  intro kk ll
  walk_at "93"
  have kz := nw_kz kk k1 nx nd
  exact h x d _ _ _ _ kz nx nd (ll _ (.head _)).1 (ll _ Z1).1 ht
theorem c_new_subr {num : Int} {nm : Str} {tn ts tl tm : Tok} {dd : Addr} (G : Gd w p lo mean mg mb h₀ s) (hd : dp + 4 < recursionLimit)
   (h : ∀ x d t1 t2 t3 t4 t5 h' tk', Kept [] s.heap h' → s.heap.get? x = none → s.heap.get? d = none → h'.get? x = some (instObj 166 d) → h'.get? d = some (subrD w.params t1 t2 t3 t4 t5 tn ts tl tm num nm dd) → s.toks ≤ tk' → Q (.ref x) {s with heap := h', toks := tk'}) : wpAny (model prog w) (At0 dp un fr gd) (call (.ref 166) [.int num tn, .str nm ts, .int 0 tl, .int (-1) tm, .ref dd]) Q E s := by
  revert G hd h
  revert prog w dp un fr gd s h₀ p lo mean mg mb Q E num nm tn ts tl tm dd
  walk_at "9c"
  intro prog w dp un fr gd s h₀ p lo mean mg mb Q E num
  clear_value prog w dp un fr gd s h₀ p lo mean mg mb Q E num
  walk_at "9f"
  intro nm tn ts tl
  clear_value nm tn ts tl
  walk_at "9e"
  intro tm dd
  clear_value tm dd
  walk_at "in"
  walk_at "9r"
  walk_at "9al"
  have G' := nw_G G k1
  have LL : Led h₀ h1 [(x, instObj 166 d), (d, dictOf [] 0)] := nw_LL G hx hxd nx nd
  replace ndx := ltN ndx
  refine' enterM (binds := [(Str.ofString "self", .ref x), (Str.ofString "number", .int num tn), (Str.ofString "name", .str nm ts), (Str.ofString "least", .int 0 tl), (Str.ofString "most", .int (-1) tm), (Str.ofString "deed", .ref dd)]) G' LL ?ho ?hcd ?hr ?hb ?hl ?_ ?c1 ?c2 ?c3 ?c4
  walk_at "m_rest"
  k_steps
  walk_at "9h"
  intro kk ll
  walk_at "93"
  have kz := nw_kz kk k1 nx nd
  exact h x d _ _ _ _ _ _ _ kz nx nd (ll _ (.head _)).1 (ll _ Z1).1 ht
theorem c_new_constants  (G : Gd w p lo mean mg mb h₀ s) (hd : dp + 4 < recursionLimit)
   (h : ∀ x d vl t1 h' tk', Kept [] s.heap h' → s.heap.get? x = none → s.heap.get? d = none → s.heap.get? vl = none → h'.get? x = some (instObj 276 d) → h'.get? d = some (consD w.params t1 vl) → h'.get? vl = some (listOf #[] 0) → s.toks ≤ tk' → Q (.ref x) {s with heap := h', toks := tk'}) : wpAny (model prog w) (At0 dp un fr gd) (call (.ref 276) []) Q E s := by
  revert G hd h
  walk_at "9M"
  walk_at "9i"
  walk_at "9an"
  clear_value prog w dp un fr gd s h₀
  walk_at "9f"
  intro p lo mean mg
  clear_value p lo mean mg
  walk_at "9e"
  intro mb Q
  clear_value mb Q
  walk_at "9g"
  intro E
  clear_value E
  walk_at "in"
  walk_at "9r"
  walk_at "9al"
  have G' := nw_G G k1
  have LL : Led h₀ h1 [(x, instObj 276 d), (d, dictOf [] 0)] := nw_LL G hx hxd nx nd
  replace ndx := ltN ndx
  walk_at "9u"
  walk_at "m_rest"
  k_steps
  walk_at "9h"
  intro kk ll
  walk_at "93"
  have kz := nw_kz kk k1 nx nd
  have frs := nw_fr ll k1 nx nd
  exact h x d _ _ _ _ kz nx nd (frs _ (.head _)) (ll _ Z1).1 (ll _ Z2).1 (ll _ (.head _)).1 ht
theorem c_new_cells  (G : Gd w p lo mean mg mb h₀ s) (hd : dp + 4 < recursionLimit)
   (h : ∀ x d fd pd t1 t2 fo h' tk', Kept [] s.heap h' → s.heap.get? x = none → s.heap.get? d = none → s.heap.get? fd = none → h'.get? x = some (instObj 492 d) → h'.get? d = some (cellsD w.params t1 t2 fd pd) → h'.get? fd = some fo → (fd == sysModules) = false → fo.IsDictOf (PySem.intKind prog w) [] → s.toks ≤ tk' → Q (.ref x) {s with heap := h', toks := tk'}) : wpAny (model prog w) (At0 dp un fr gd) (call (.ref 492) []) Q E s := by
  revert G hd h
  walk_at "9M"
  walk_at "9i"
  walk_at "9an"
  clear_value prog w dp un fr gd s h₀
  walk_at "9f"
  intro p lo mean mg
  clear_value p lo mean mg
  walk_at "9e"
  intro mb Q
  clear_value mb Q
  walk_at "9g"
  intro E
  clear_value E
  walk_at "in"
  walk_at "9r"
  walk_at "9al"
  have G' := nw_G G k1
  have LL : Led h₀ h1 [(x, instObj 492 d), (d, dictOf [] 0)] := nw_LL G hx hxd nx nd
  replace ndx := ltN ndx
  walk_at "9u"
  walk_at "m_rest"
  k_steps
  walk_at "9h"
  intro kk ll
  walk_at "93"
  have kz := nw_kz kk k1 nx nd
  have frs := nw_fr ll k1 nx nd
  exact h x d _ _ _ _ _ _ _ kz nx nd (frs _ Z1) (ll _ Z2).1 (ll _ Z3).1 (ll _ Z1).1 (by assumption) (by assumption) ht
theorem c_new_obarray  (G : Gd w p lo mean mg mb h₀ s) (hd : dp + 4 < recursionLimit)
   (h : ∀ x d rl nd t1 t2 no n h' tk', Kept [] s.heap h' → s.heap.get? x = none → s.heap.get? d = none → s.heap.get? rl = none → s.heap.get? nd = none → h'.get? x = some (instObj 569 d) → h'.get? d = some (obD w.params t1 t2 rl nd) → h'.get? rl = some (listOf #[.ref 124, .ref 127] n) → h'.get? nd = some no → no.IsDictOf (PySem.strKind prog w) [(Str.ofString "nil", .ref 124), (Str.ofString "t", .ref 127)] → (nd == sysModules) = false → s.toks ≤ tk' → Q (.ref x) {s with heap := h', toks := tk'}) : wpAny (model prog w) (At0 dp un fr gd) (call (.ref 569) []) Q E s := by
  revert G hd h
  walk_at "9M"
  walk_at "9i"
  walk_at "9an"
  clear_value prog w dp un fr gd s h₀
  walk_at "9f"
  intro p lo mean mg
  clear_value p lo mean mg
  walk_at "9e"
  intro mb Q
  clear_value mb Q
  walk_at "9g"
  intro E
  clear_value E
  walk_at "in"
  walk_at "9r"
  walk_at "9al"
  have G' := nw_G G k1
  have LL : Led h₀ h1 [(x, instObj 569 d), (d, dictOf [] 0)] := nw_LL G hx hxd nx nd
  replace ndx := ltN ndx
  walk_at "9u"
  walk_at "m_rest"
  k_steps
  walk_at "9h"
  intro kk ll
  walk_at "93"
  have kz := nw_kz kk k1 nx nd
  have frs := nw_fr ll k1 nx nd
  exact h x d _ _ _ _ _ _ _ _ kz nx nd (frs _ Z1) (frs _ (.head _)) (ll _ Z2).1 (ll _ Z3).1 (ll _ Z1).1 (ll _ (.head _)).1 (by assumption) (by assumption) ht
theorem c_new_variables  (G : Gd w p lo mean mg mb h₀ s) (hd : dp + 4 < recursionLimit)
   (h : ∀ x h' tk', Kept [] s.heap h' → s.heap.get? x = none → (∃ o, h'.get? x = some o) → s.toks ≤ tk' → Q (.ref x) {s with heap := h', toks := tk'}) : wpAny (model prog w) (At0 dp un fr gd) (call (.ref 632) []) Q E s := by
  revert G hd h
  walk_at "9M"
  walk_at "9i"
  walk_at "9an"
  clear_value prog w dp un fr gd s h₀
  walk_at "9f"
  intro p lo mean mg
  clear_value p lo mean mg
  walk_at "9e"
  intro mb Q
  clear_value mb Q
  walk_at "9g"
  intro E
  clear_value E
  walk_at "in"
  walk_at "9r"
  walk_at "9al"
  have G' := nw_G G k1
  have LL : Led h₀ h1 [(x, instObj 632 d), (d, dictOf [] 0)] := nw_LL G hx hxd nx nd
  replace ndx := ltN ndx
  walk_at "9u"
  walk_at "m_rest"
  k_steps
  walk_at "9h"
  intro kk ll
  walk_at "93"
  have kz := nw_kz kk k1 nx nd
  exact h x _ _ kz nx ⟨_, (ll _ Z3).1⟩ ht
theorem c_new_locals  (G : Gd w p lo mean mg mb h₀ s) (hd : dp + 4 < recursionLimit)
   (h : ∀ x h' tk', Kept [] s.heap h' → s.heap.get? x = none → (∃ o, h'.get? x = some o) → s.toks ≤ tk' → Q (.ref x) {s with heap := h', toks := tk'}) : wpAny (model prog w) (At0 dp un fr gd) (call (.ref 688) []) Q E s := by
  revert G hd h
  walk_at "9M"
  walk_at "9i"
  walk_at "9an"
  clear_value prog w dp un fr gd s h₀
  walk_at "9f"
  intro p lo mean mg
  clear_value p lo mean mg
  walk_at "9e"
  intro mb Q
  clear_value mb Q
  walk_at "9g"
  intro E
  clear_value E
  walk_at "in"
  walk_at "9r"
  walk_at "9al"
  have G' := nw_G G k1
  have LL : Led h₀ h1 [(x, instObj 688 d), (d, dictOf [] 0)] := nw_LL G hx hxd nx nd
  replace ndx := ltN ndx
  walk_at "9u"
  walk_at "m_rest"
  k_steps
  walk_at "9h"
  intro kk ll
  walk_at "93"
  have kz := nw_kz kk k1 nx nd
  exact h x _ _ kz nx ⟨_, (ll _ Z1).1⟩ ht
theorem zg_news : True := trivial
theorem zrr15 : True := by
  k_with "@m_new2" => ((with_reducible rename Fr _ _ _ _ => kF9); (with_reducible rename News _ _ _ _ => kN9); (with_reducible rename Kept _ _ _ => kC9); (with_reducible rename Heap.get? _ _ = none => kd9); (with_reducible rename Heap.get? _ _ = none => kx9))
  trivial
theorem zrr16 : True := by
  k_with "@call builtin:dict.get" => ((fail_if_success have := zgg_meth); (k_here; (with_reducible show wpAny _ _ (call (Value.builtin "dict.get") [Value.ref _, Value.str _ _, _]) _ _ _); (refine' kdg_get2 (knd := PySem.strKind _ _) ?k1_67 ?k2_67 ?k3_67 ?k4_67 (strKind_is _ _ _ _) _ ?k5_67 ?_; (case k1_67 => k_asm); (case k2_67 => k_mem); (case k3_67 => k_asm); (case k4_67 => k_asm); (case k5_67 => with_reducible assumption)); (try dsimp only [Option.getD])))
  k_with "@call builtin:dict.get" => ((fail_if_success have := zgg_meth); (k_here; (with_reducible show wpAny _ _ (call (Value.builtin "dict.get") [Value.ref _, Value.int _ _, _]) _ _ _); (refine' kdg_get2 (knd := PySem.intKind _ _) ?k1_68 ?k2_68 ?k3_68 ?k4_68 (intKind_is _ _ _ _) _ ?k5_68 ?_; (case k1_68 => k_asm); (case k2_68 => k_mem); (case k3_68 => k_asm); (case k4_68 => k_asm); (case k5_68 => with_reducible assumption)); (try dsimp only [Option.getD])))
  k_with "@setItem ref str" => ((fail_if_success have := zgg_meth); (k_here; (with_reducible show wpAny _ _ (setItem (Value.ref _) (Value.str _ _) _) _ _ _); (refine' kda_set (knd := PySem.strKind _ _) ?k1_69 ?k2_69 ?k3_69 ?k4_69 (strKind_is _ _ _ _) ?k5_69 ?_; (case k1_69 => k_asm); (case k2_69 => k_asm); (case k3_69 => k_updF); (case k4_69 => k_asm); (case k5_69 => with_reducible assumption)); intro h9' o9' F9' N9' hd9'; (try dsimp only at N9'); (try k_sweep)))
  k_with "@setItem ref int" => ((fail_if_success have := zgg_meth); (k_here; (with_reducible show wpAny _ _ (setItem (Value.ref _) (Value.int _ _) _) _ _ _); (refine' kda_set (knd := PySem.intKind _ _) ?k1_70 ?k2_70 ?k3_70 ?k4_70 (intKind_is _ _ _ _) ?k5_70 ?_; (case k1_70 => k_asm); (case k2_70 => k_asm); (case k3_70 => k_updF); (case k4_70 => k_asm); (case k5_70 => with_reducible assumption)); intro h9' o9' F9' N9' hd9'; (try dsimp only at N9'); (try k_sweep)))
  trivial
theorem zrr17 : True := by
  k_with "@call ref" => ((fail_if_success have := zg_meth); ((with_reducible show wpAny _ _ (call (Value.ref 118) [Value.int _ _, Value.str _ _]) _ _ _); (with_reducible rename Fr _ _ _ _ => kF9); (with_reducible rename News _ _ _ _ => kN9); refine c_new_symbol (Gd.of (by k_asm) (by k_asm) (by k_asm)) (by walk_at "m_room") ?_; intro x9' d9' t19' t29' h9' tk9' kc9 nx nd9 hx9 hd9' tkc9; obtain ⟨F9', N09⟩ := after0 kF9 kN9 kc9; have N9' := news_new kF9 nx (news_new kF9 nd9 N09 hd9') hx9; clear N09; have o19 := off_new kN9 nx; have o29 := off_new kN9 nd9; (try k_sweep)))
  trivial
theorem c_fresh {ob od rl nd : Addr} {nm : Str} {t1 t2 ts : Tok} {rows : List Value} {n : Nat} (G : Gd w p lo mean mg mb h₀ s) (hd : dp + 6 < recursionLimit)
   (LL : Led h₀ s.heap [(ob, instObj 569 od), (od, obD w.params t1 t2 rl nd), (rl, listOf rows.toArray n)])
   (hlen : rows.length ≤ 1000)
   (hQ : ∀ x d t1 t2 tn n' h' tk', Kept [rl] s.heap h' → s.heap.get? x = none → s.heap.get? d = none → h'.get? rl = some (listOf (rows ++ [Value.ref x]).toArray n') → h'.get? x = some (instObj 118 d) → h'.get? d = some (symD w.params t1 t2 tn ts rows.length nm) → s.toks ≤ tk' → Q (.ref x) {s with heap := h', toks := tk'}) : wpAny (model prog w) (At0 dp un fr gd) (call (.ref 531) [.ref ob, .str nm ts]) Q E s := by
  revert G hd LL hlen hQ
  revert prog w dp un fr gd s h₀ p lo mean mg mb Q E ob od rl nd nm t1 t2 ts rows n
  walk_at "9c"
  walk_at "9aK"
  clear_value prog w dp un fr gd s h₀ p lo mean mg mb Q E ob
  walk_at "9i"
  intro od rl nd nm t1 t2 ts rows
  clear_value od rl nd nm t1 t2 ts rows
  walk_at "9g"
  intro n
  clear_value n
  walk_at "in"
  walk_at "9d"
  refine' enterM2 (M := [ob, od, rl]) (binds := [(Str.ofString "self", .ref ob), (Str.ofString "name", .str nm ts)]) ?hM G LL ?ho ?hcd ?hr ?hb ?hl ?_ ?c1 ?c2 ?c3 ?c4
  walk_at "9m"
  walk_at "m_rest"
  walk_at "m_rx"
  have ne0 : rl ≠ ob := ne_obj (LL _ Z2).1 (LL _ (.head _)).1 (by simp [W.listOf, instObj, dictOf])
  have ne1 : rl ≠ od := ne_obj (LL _ Z2).1 (LL _ Z1).1 (by simp [W.listOf, instObj, dictOf])
  k_steps
  walk_at "m_end"
  intro kk ll ht
  have LU : Led h₀ s.heap [(ob, instObj 569 od), (od, obD w.params t1 t2 rl nd)] := (fa1 (LL _ (by k_mem)) (fa1 (LL _ (by k_mem)) fa0))
  have kz : Kept [rl] s.heap _ := Kept.of_left kk ll LU (fa1 (by k_mem) (fa1 (by k_mem) fa0)) (fa1 (by first | exact .inl (by k_mem) | exact .inr (by dsimp only [List.map]; k_mem)) (fa1 (by first | exact .inl (by k_mem) | exact .inr (by dsimp only [List.map]; k_mem)) (fa1 (by first | exact .inl (by k_mem) | exact .inr (by dsimp only [List.map]; k_mem)) fa0)))
  have frx := (ll _ (.head _)).2.resolve_left (na1 (by k_ne) (na1 (by k_ne) (na1 (by k_ne) na0)))
  have frd := (ll _ Z1).2.resolve_left (na1 (by k_ne) (na1 (by k_ne) (na1 (by k_ne) na0)))
  exact hQ _ _ _ _ _ _ _ _ kz frx frd (ll _ Z4).1 (ll _ (.head _)).1 (ll _ Z1).1 ht
end
theorem zrr18 : True := by
  k_with "@call ref" => ((fail_if_success have := zg_meth); ((with_reducible show wpAny _ _ (call (Value.ref 531) _) _ _ _); (with_reducible rename Fr _ _ _ _ => kF9); (with_reducible rename News _ _ _ _ => kN9); refine' c_fresh (Gd.of (by k_asm) (by k_asm) (by k_asm)) ?k1_72 (Led.of kN9 (by lcg_sub)) ?k2_72 ?_; (case k1_72 => walk_at "m_room"); (case k2_72 => with_reducible assumption); intro x9' d9' t19' t29' tn9' n9' h9' tk9' kc9 nx nd9 hrl9' hx9 hd9' tkc9; obtain ⟨F9', N09⟩ := after1 kF9 kN9 (by k_updF) kc9 hrl9'; (try dsimp only at N09); have N9' := news_new kF9 nx (news_new kF9 nd9 N09 hd9') hx9; clear N09; have o19 := off_new kN9 nx; have o29 := off_new kN9 nd9; (try k_sweep)))
  trivial
section
variable {prog : Program} {w : World} {dp un : Nat} {fr : Option (List Env)} {gd : Option (List Code)} {s : Shared} {h₀ : Heap} {p : Program} {lo : List Str} {mean : ExcName → Option Value} {mg mb : Str → Option Value} {Q E : Value → Shared → Prop}
theorem c_intern_hit {ob od rl nd : Addr} {nm : Str} {t1 t2 ts : Tok} {no : Obj} {kvs : List (Str × Value)} {v : Addr} (G : Gd w p lo mean mg mb h₀ s) (hd : dp + 8 < recursionLimit)
   (LL : Led h₀ s.heap [(ob, instObj 569 od), (od, obD w.params t1 t2 rl nd), (nd, no)])
   (hdk : no.IsDictOf (PySem.strKind prog w) kvs) (hlo : (nd == sysModules) = false) (hv : valueAt kvs nm = some (.ref v))
   (hQ : ∀ h' tk', Kept [] s.heap h' → s.toks ≤ tk' → Q (.ref v) {s with heap := h', toks := tk'}) : wpAny (model prog w) (At0 dp un fr gd) (call (.ref 517) [.ref ob, .str nm ts]) Q E s := by
  revert G hd LL hdk hlo hv hQ
  revert prog w dp un fr gd s h₀ p lo mean mg mb Q E ob od rl nd nm t1 t2 ts no kvs v
  walk_at "9c"
  walk_at "9aK"
  clear_value prog w dp un fr gd s h₀ p lo mean mg mb Q E ob
  walk_at "9i"
  intro od rl nd nm t1 t2 ts no
  clear_value od rl nd nm t1 t2 ts no
  walk_at "9e"
  intro kvs v
  clear_value kvs v
  walk_at "in"
  walk_at "9d"
  refine' enterM2 (M := [ob, od, nd]) (binds := [(Str.ofString "self", .ref ob), (Str.ofString "name", .str nm ts)]) ?hM G LL ?ho ?hcd ?hr ?hb ?hl ?_ ?c1 ?c2 ?c3 ?c4
  walk_at "9m"
  walk_at "m_rest"
  walk_at "m_rx"
  k_steps
  walk_at "m_end"
  intro kk ll ht
  have LU : Led h₀ s.heap [(ob, instObj 569 od), (od, obD w.params t1 t2 rl nd), (nd, no)] := (fa1 (LL _ (by k_mem)) (fa1 (LL _ (by k_mem)) (fa1 (LL _ (by k_mem)) fa0)))
  have kz : Kept [] s.heap _ := Kept.of_left kk ll LU (fa1 (by k_mem) (fa1 (by k_mem) (fa1 (by k_mem) fa0))) (fun a ha => .inr ha)
  exact hQ _ _ kz ht
theorem c_intern_new {ob od rl nd : Addr} {nm : Str} {t1 t2 ts : Tok} {no : Obj} {kvs : List (Str × Value)} {rows : List Value} {n : Nat} (G : Gd w p lo mean mg mb h₀ s) (hd : dp + 8 < recursionLimit)
   (LL : Led h₀ s.heap [(ob, instObj 569 od), (od, obD w.params t1 t2 rl nd), (nd, no), (rl, listOf rows.toArray n)])
   (hdk : no.IsDictOf (PySem.strKind prog w) kvs) (hlo : (nd == sysModules) = false) (hv : valueAt kvs nm = none) (hlen : rows.length ≤ 1000) (hkl : kvs.length ≤ sizeLine) (ne4 : nd ≠ ob) (ne5 : nd ≠ od) (ne6 : nd ≠ rl)
   (hQ : ∀ x d t1 t2 tn n' no' h' tk', Kept [nd, rl] s.heap h' → s.heap.get? x = none → s.heap.get? d = none → h'.get? rl = some (listOf (rows ++ [Value.ref x]).toArray n') → h'.get? nd = some no' → no'.IsDictOf (PySem.strKind prog w) (stored kvs nm (.ref x)) → h'.get? x = some (instObj 118 d) → h'.get? d = some (symD w.params t1 t2 tn ts rows.length nm) → s.toks ≤ tk' → Q (.ref x) {s with heap := h', toks := tk'}) : wpAny (model prog w) (At0 dp un fr gd) (call (.ref 517) [.ref ob, .str nm ts]) Q E s := by
  revert G hd LL hdk hlo hv hlen hkl ne4 ne5 ne6 hQ
  revert prog w dp un fr gd s h₀ p lo mean mg mb Q E ob od rl nd nm t1 t2 ts no kvs rows n
  walk_at "9c"
  walk_at "9aK"
  clear_value prog w dp un fr gd s h₀ p lo mean mg mb Q E ob
  walk_at "9i"
  intro od rl nd nm t1 t2 ts no
  clear_value od rl nd nm t1 t2 ts no
  walk_at "9e"
  intro kvs rows
  clear_value kvs rows
  walk_at "9g"
  intro n
  clear_value n
  walk_at "in"
  walk_at "9d"
  refine' enterM2 (M := [ob, od, nd, rl]) (binds := [(Str.ofString "self", .ref ob), (Str.ofString "name", .str nm ts)]) ?hM G LL ?ho ?hcd ?hr ?hb ?hl ?_ ?c1 ?c2 ?c3 ?c4
  walk_at "9m"
  walk_at "m_rest"
  walk_at "m_rx"
  have ne0 : rl ≠ ob := ne_obj (LL _ Z3).1 (LL _ (.head _)).1 (by simp [W.listOf, instObj, dictOf])
  have ne1 : rl ≠ od := ne_obj (LL _ Z3).1 (LL _ Z1).1 (by simp [W.listOf, instObj, dictOf])
  k_steps
  walk_at "m_end"
  intro kk ll ht
  have LU : Led h₀ s.heap [(ob, instObj 569 od), (od, obD w.params t1 t2 rl nd)] := (fa1 (LL _ (by k_mem)) (fa1 (LL _ (by k_mem)) fa0))
  have kz : Kept [nd, rl] s.heap _ := Kept.of_left kk ll LU (fa1 (by k_mem) (fa1 (by k_mem) fa0)) (fa1 (by first | exact .inl (by k_mem) | exact .inr (by dsimp only [List.map]; k_mem)) (fa1 (by first | exact .inl (by k_mem) | exact .inr (by dsimp only [List.map]; k_mem)) (fa1 (by first | exact .inl (by k_mem) | exact .inr (by dsimp only [List.map]; k_mem)) (fa1 (by first | exact .inl (by k_mem) | exact .inr (by dsimp only [List.map]; k_mem)) fa0))))
  have frx := (ll _ (.head _)).2.resolve_left (na1 (by k_ne) (na1 (by k_ne) (na1 (by k_ne) (na1 (by k_ne) na0))))
  have frd := (ll _ Z1).2.resolve_left (na1 (by k_ne) (na1 (by k_ne) (na1 (by k_ne) (na1 (by k_ne) na0))))
  exact hQ _ _ _ _ _ _ _ _ _ kz frx frd (ll _ Z5).1 (ll _ Z4).1 (by assumption) (ll _ (.head _)).1 (ll _ Z1).1 ht
end
theorem zrr19 : True := by
  k_with "@call ref" => ((fail_if_success have := zg_meth); ((with_reducible show wpAny _ _ (call (Value.ref 517) _) _ _ _); (with_reducible rename Fr _ _ _ _ => kF9); (with_reducible rename News _ _ _ _ => kN9); refine' c_intern_hit (Gd.of (by k_asm) (by k_asm) (by k_asm)) ?k1_73 (Led.of kN9 (by lcg_sub)) ?e0_73 ?e1_73 ?e2_73 ?_; (case k1_73 => walk_at "m_room"); (case e0_73 => with_reducible assumption); (case e1_73 => with_reducible assumption); (case e2_73 => with_reducible assumption); intro h9' tk9' kc9 tkc9; obtain ⟨F9', N9'⟩ := after0 kF9 kN9 kc9; (try k_sweep)))
  trivial
section
variable {prog : Program} {w : World} {dp un : Nat} {fr : Option (List Env)} {gd : Option (List Code)} {s : Shared} {h₀ : Heap} {p : Program} {lo : List Str} {mean : ExcName → Option Value} {mg mb : Str → Option Value} {Q E : Value → Shared → Prop}
theorem c_symbol_hit {wa wd ce va ba : Addr} {t3 t4 t5 t6 t7 t8 t9 t10 : Tok} {ob od rl nd : Addr} {nm : Str} {t1 t2 ts : Tok} {no : Obj} {kvs : List (Str × Value)} {v : Addr} (G : Gd w p lo mean mg mb h₀ s) (hd : dp + 10 < recursionLimit)
   (LL : Led h₀ s.heap [(wa, instObj 737 wd), (wd, worldD w.params t3 t4 t5 t6 t7 t8 t9 t10 ob ce va ba), (ob, instObj 569 od), (od, obD w.params t1 t2 rl nd), (nd, no)])
   (hdk : no.IsDictOf (PySem.strKind prog w) kvs) (hlo : (nd == sysModules) = false) (hv : valueAt kvs nm = some (.ref v))
   (hQ : ∀ h' tk', Kept [] s.heap h' → s.toks ≤ tk' → Q (.ref v) {s with heap := h', toks := tk'}) : wpAny (model prog w) (At0 dp un fr gd) (call (.ref 713) [.ref wa, .str nm ts]) Q E s := by
  revert G hd LL hdk hlo hv hQ
  revert prog w dp un fr gd s h₀ p lo mean mg mb Q E wa wd ce va ba t3 t4 t5 t6 t7 t8 t9 t10 ob od rl nd nm t1 t2 ts no kvs v
  walk_at "9c"
  intro prog w dp un fr gd s h₀ p lo mean mg mb Q E wa
  clear_value prog w dp un fr gd s h₀ p lo mean mg mb Q E wa
  walk_at "9c"
  intro wd ce va ba t3 t4 t5 t6 t7 t8 t9 t10 ob od rl nd
  clear_value wd ce va ba t3 t4 t5 t6 t7 t8 t9 t10 ob od rl nd
  walk_at "9f"
  intro nm t1 t2 ts
  clear_value nm t1 t2 ts
  walk_at "9e"
  intro no kvs
  clear_value no kvs
  walk_at "9g"
  intro v
  clear_value v
  walk_at "in"
  walk_at "9d"
  refine' enterM2 (M := [wa, wd, ob, od, nd]) (binds := [(Str.ofString "self", .ref wa), (Str.ofString "name", .str nm ts)]) ?hM G LL ?ho ?hcd ?hr ?hb ?hl ?_ ?c1 ?c2 ?c3 ?c4
  walk_at "9m"
  walk_at "m_rest"
  walk_at "m_rx"
  k_steps
  walk_at "m_end"
  intro kk ll ht
  have LU : Led h₀ s.heap [(wa, instObj 737 wd), (wd, worldD w.params t3 t4 t5 t6 t7 t8 t9 t10 ob ce va ba), (ob, instObj 569 od), (od, obD w.params t1 t2 rl nd), (nd, no)] := (fa1 (LL _ (by k_mem)) (fa1 (LL _ (by k_mem)) (fa1 (LL _ (by k_mem)) (fa1 (LL _ (by k_mem)) (fa1 (LL _ (by k_mem)) fa0)))))
  have kz : Kept [] s.heap _ := Kept.of_left kk ll LU (fa1 (by k_mem) (fa1 (by k_mem) (fa1 (by k_mem) (fa1 (by k_mem) (fa1 (by k_mem) fa0))))) (fun a ha => .inr ha)
  exact hQ _ _ kz ht
end
theorem zrr20 : True := by
  k_with "@call ref" => ((fail_if_success have := zg_meth); ((with_reducible show wpAny _ _ (call (Value.ref 517) _) _ _ _); (with_reducible rename Fr _ _ _ _ => kF9); (with_reducible rename News _ _ _ _ => kN9); refine' c_intern_new (Gd.of (by k_asm) (by k_asm) (by k_asm)) ?k1_74 (Led.of kN9 (by lcg_sub)) ?e0_74 ?e1_74 ?e2_74 ?e3_74 ?e4_74 ?e5_74 ?e6_74 ?e7_74 ?_; (case k1_74 => walk_at "m_room"); (case e0_74 => with_reducible assumption); (case e1_74 => with_reducible assumption); (case e2_74 => with_reducible assumption); (case e3_74 => with_reducible assumption); (case e4_74 => with_reducible assumption); (case e5_74 => k_ne); (case e6_74 => k_ne); (case e7_74 => k_ne); intro x9' d9' t19' t29' tn9' n9' no9' h9' tk9' kc9 nx nd9 hrl9' hnd9' hdk9' hx9 hd9' tkc9; obtain ⟨F9', N09⟩ := after2 kF9 kN9 (by k_updF) (by (try dsimp only); k_updF) kc9 hnd9' hrl9' (by k_ne); (try dsimp only at N09); have N9' := news_new kF9 nx (news_new kF9 nd9 N09 hd9') hx9; clear N09; have o19 := off_new kN9 nx; have o29 := off_new kN9 nd9; (try k_sweep)))
  trivial
section
variable {prog : Program} {w : World} {dp un : Nat} {fr : Option (List Env)} {gd : Option (List Code)} {s : Shared} {h₀ : Heap} {p : Program} {lo : List Str} {mean : ExcName → Option Value} {mg mb : Str → Option Value} {Q E : Value → Shared → Prop}
theorem c_symbol_new {wa wd ce va ba : Addr} {t3 t4 t5 t6 t7 t8 t9 t10 : Tok} {ob od rl nd : Addr} {nm : Str} {t1 t2 ts : Tok} {no : Obj} {kvs : List (Str × Value)} {rows : List Value} {n : Nat} (G : Gd w p lo mean mg mb h₀ s) (hd : dp + 10 < recursionLimit)
   (LL : Led h₀ s.heap [(wa, instObj 737 wd), (wd, worldD w.params t3 t4 t5 t6 t7 t8 t9 t10 ob ce va ba), (ob, instObj 569 od), (od, obD w.params t1 t2 rl nd), (nd, no), (rl, listOf rows.toArray n)])
   (hdk : no.IsDictOf (PySem.strKind prog w) kvs) (hlo : (nd == sysModules) = false) (hv : valueAt kvs nm = none) (hlen : rows.length ≤ 1000) (hkl : kvs.length ≤ sizeLine) (ne4 : nd ≠ ob) (ne5 : nd ≠ od) (ne6 : nd ≠ rl) (ne7 : nd ≠ wa) (ne8 : nd ≠ wd)
   (hQ : ∀ x d t1 t2 tn n' no' h' tk', Kept [nd, rl] s.heap h' → s.heap.get? x = none → s.heap.get? d = none → h'.get? rl = some (listOf (rows ++ [Value.ref x]).toArray n') → h'.get? nd = some no' → no'.IsDictOf (PySem.strKind prog w) (stored kvs nm (.ref x)) → h'.get? x = some (instObj 118 d) → h'.get? d = some (symD w.params t1 t2 tn ts rows.length nm) → s.toks ≤ tk' → Q (.ref x) {s with heap := h', toks := tk'}) : wpAny (model prog w) (At0 dp un fr gd) (call (.ref 713) [.ref wa, .str nm ts]) Q E s := by
  revert G hd LL hdk hlo hv hlen hkl ne4 ne5 ne6 ne7 ne8 hQ
  revert prog w dp un fr gd s h₀ p lo mean mg mb Q E wa wd ce va ba t3 t4 t5 t6 t7 t8 t9 t10 ob od rl nd nm t1 t2 ts no kvs rows n
  walk_at "9c"
  intro prog w dp un fr gd s h₀ p lo mean mg mb Q E wa
  clear_value prog w dp un fr gd s h₀ p lo mean mg mb Q E wa
  walk_at "9c"
  intro wd ce va ba t3 t4 t5 t6 t7 t8 t9 t10 ob od rl nd
  clear_value wd ce va ba t3 t4 t5 t6 t7 t8 t9 t10 ob od rl nd
  walk_at "9i"
  intro nm t1 t2 ts no kvs rows n
  clear_value nm t1 t2 ts no kvs rows n
  walk_at "in"
  walk_at "9d"
  refine' enterM2 (M := [wa, wd, ob, od, nd, rl]) (binds := [(Str.ofString "self", .ref wa), (Str.ofString "name", .str nm ts)]) ?hM G LL ?ho ?hcd ?hr ?hb ?hl ?_ ?c1 ?c2 ?c3 ?c4
  walk_at "9m"
  walk_at "m_rest"
  walk_at "m_rx"
  have ne0 : rl ≠ ob := ne_obj (LL _ Z5).1 (LL _ Z2).1 (by simp [W.listOf, instObj, dictOf])
  have ne1 : rl ≠ od := ne_obj (LL _ Z5).1 (LL _ Z3).1 (by simp [W.listOf, instObj, dictOf])
  have ne2 : rl ≠ wa := ne_obj (LL _ Z5).1 (LL _ (.head _)).1 (by simp [W.listOf, instObj, dictOf])
  have ne3 : rl ≠ wd := ne_obj (LL _ Z5).1 (LL _ Z1).1 (by simp [W.listOf, instObj, dictOf])
  k_steps
  walk_at "m_end"
  intro kk ll ht
  have LU : Led h₀ s.heap [(wa, instObj 737 wd), (wd, worldD w.params t3 t4 t5 t6 t7 t8 t9 t10 ob ce va ba), (ob, instObj 569 od), (od, obD w.params t1 t2 rl nd)] := (fa1 (LL _ (by k_mem)) (fa1 (LL _ (by k_mem)) (fa1 (LL _ (by k_mem)) (fa1 (LL _ (by k_mem)) fa0))))
  have kz : Kept [nd, rl] s.heap _ := Kept.of_left kk ll LU (fa1 (by k_mem) (fa1 (by k_mem) (fa1 (by k_mem) (fa1 (by k_mem) fa0)))) (fa1 (by first | exact .inl (by k_mem) | exact .inr (by dsimp only [List.map]; k_mem)) (fa1 (by first | exact .inl (by k_mem) | exact .inr (by dsimp only [List.map]; k_mem)) (fa1 (by first | exact .inl (by k_mem) | exact .inr (by dsimp only [List.map]; k_mem)) (fa1 (by first | exact .inl (by k_mem) | exact .inr (by dsimp only [List.map]; k_mem)) (fa1 (by first | exact .inl (by k_mem) | exact .inr (by dsimp only [List.map]; k_mem)) (fa1 (by first | exact .inl (by k_mem) | exact .inr (by dsimp only [List.map]; k_mem)) fa0))))))
  have frx := (ll _ (.head _)).2.resolve_left (na1 (by k_ne) (na1 (by k_ne) (na1 (by k_ne) (na1 (by k_ne) (na1 (by k_ne) (na1 (by k_ne) na0))))))
  have frd := (ll _ Z1).2.resolve_left (na1 (by k_ne) (na1 (by k_ne) (na1 (by k_ne) (na1 (by k_ne) (na1 (by k_ne) (na1 (by k_ne) na0))))))
  exact hQ _ _ _ _ _ _ _ _ _ kz frx frd (ll _ Z7).1 (ll _ Z6).1 (by assumption) (ll _ (.head _)).1 (ll _ Z1).1 ht
theorem c_function_of {ce cd fd pd sa sd : Addr} {t1 t2 t3 t4 tn ts : Tok} {num : Int} {nm : Str} {fo : Obj} {fvs : List (Int × Value)} {x : Option Value} (G : Gd w p lo mean mg mb h₀ s) (hd : dp + 6 < recursionLimit)
   (LL : Led h₀ s.heap [(ce, instObj 492 cd), (cd, cellsD w.params t1 t2 fd pd), (fd, fo), (sa, instObj 118 sd), (sd, symD w.params t3 t4 tn ts num nm)])
   (hfk : fo.IsDictOf (PySem.intKind prog w) fvs) (hlo : (fd == sysModules) = false) (hv : valueAt fvs num = x)
   (hQ : ∀ h' tk', Kept [] s.heap h' → s.toks ≤ tk' → Q (x.getD (.ref 124)) {s with heap := h', toks := tk'}) : wpAny (model prog w) (At0 dp un fr gd) (call (.ref 433) [.ref ce, .ref sa]) Q E s := by
  revert G hd LL hfk hlo hv hQ
  revert prog w dp un fr gd s h₀ p lo mean mg mb Q E ce cd fd pd sa sd t1 t2 t3 t4 tn ts num nm fo fvs x
  walk_at "9c"
  intro prog w dp un fr gd s h₀ p lo mean mg mb Q E ce
  clear_value prog w dp un fr gd s h₀ p lo mean mg mb Q E ce
  walk_at "9c"
  intro cd fd pd sa sd t1 t2 t3 t4 tn ts num nm fo fvs x
  clear_value cd fd pd sa sd t1 t2 t3 t4 tn ts num nm fo fvs x
  walk_at "in"
  walk_at "9d"
  refine' enterM2 (M := [ce, cd, fd, sa, sd]) (binds := [(Str.ofString "self", .ref ce), (Str.ofString "symbol", .ref sa)]) ?hM G LL ?ho ?hcd ?hr ?hb ?hl ?_ ?c1 ?c2 ?c3 ?c4
  walk_at "9m"
  walk_at "m_rest"
  walk_at "m_rx"
  k_steps
  walk_at "m_end"
  intro kk ll ht
  have LU : Led h₀ s.heap [(ce, instObj 492 cd), (cd, cellsD w.params t1 t2 fd pd), (fd, fo), (sa, instObj 118 sd), (sd, symD w.params t3 t4 tn ts num nm)] := (fa1 (LL _ (by k_mem)) (fa1 (LL _ (by k_mem)) (fa1 (LL _ (by k_mem)) (fa1 (LL _ (by k_mem)) (fa1 (LL _ (by k_mem)) fa0)))))
  have kz : Kept [] s.heap _ := Kept.of_left kk ll LU (fa1 (by k_mem) (fa1 (by k_mem) (fa1 (by k_mem) (fa1 (by k_mem) (fa1 (by k_mem) fa0))))) (fun a ha => .inr ha)
  exact hQ _ _ kz ht
theorem zg_meth : True := trivial
def MarkD (a : Addr) : Prop := True
theorem ne_mark {h₀ h : Heap} {L a x : Addr} {o : Obj} {news : List (Addr × Obj)} (hm9 : MarkD a) (N : News h₀ L h news) (hm : (a, o) ∈ news) (e : h.get? x = none) : a ≠ x := fun q => by
  have := (N _ hm).1
  rw [show (a, o).1 = x from q, e] at this; cases this
theorem zrr21 : True := by
  k_with "@call ref" => ((fail_if_success have := zg_wnew); ((with_reducible show wpAny _ _ (call (Value.ref 569) _) _ _ _); (show wpAny _ _ (call (Value.ref 569) []) _ _ _); (with_reducible rename Fr _ _ _ _ => kF9); (with_reducible rename News _ _ _ _ => kN9); (with_reducible rename MarkD _ => kD9); refine c_new_obarray (Gd.of (by k_asm) (by k_asm) (by k_asm)) (by walk_at "m_room") ?_; intro x9' d9' rl9' nd9' t19' t29' no9' n9' h9' tk9' kc9 nx nd9 nrl9 nnd9 hx9 hd9' hrl9' hnd9' hdk9' hlo9' tkc9; obtain ⟨F9', N09⟩ := after0 kF9 kN9 kc9; have N9' := news_new kF9 nx (news_new kF9 nd9 (news_new kF9 nrl9 (news_new kF9 nnd9 N09 hnd9') hrl9') hd9') hx9; clear N09; have o19 := ne_mark kD9 kN9 (by k_mem) nx; have o29 := ne_mark kD9 kN9 (by k_mem) nd9; have o39 := ne_mark kD9 kN9 (by k_mem) nrl9; have o49 := ne_mark kD9 kN9 (by k_mem) nnd9; (try k_sweep)))
  k_with "@call ref" => ((fail_if_success have := zg_wnew); ((with_reducible show wpAny _ _ (call (Value.ref 492) _) _ _ _); (show wpAny _ _ (call (Value.ref 492) []) _ _ _); (with_reducible rename Fr _ _ _ _ => kF9); (with_reducible rename News _ _ _ _ => kN9); (with_reducible rename MarkD _ => kD9); refine c_new_cells (Gd.of (by k_asm) (by k_asm) (by k_asm)) (by walk_at "m_room") ?_; intro x9' d9' fd9' pd9' t19' t29' fo9' h9' tk9' kc9 nx nd9 nfd9 hx9 hd9' hfd9' hfm9' hfk9' tkc9; obtain ⟨F9', N09⟩ := after0 kF9 kN9 kc9; have N9' := news_new kF9 nx (news_new kF9 nd9 (news_new kF9 nfd9 N09 hfd9') hd9') hx9; clear N09; have o19 := ne_mark kD9 kN9 (by k_mem) nx; have o29 := ne_mark kD9 kN9 (by k_mem) nd9; have o39 := ne_mark kD9 kN9 (by k_mem) nfd9; (try k_sweep)))
  k_with "@call ref" => ((fail_if_success have := zg_wnew); ((with_reducible show wpAny _ _ (call (Value.ref 632) _) _ _ _); (show wpAny _ _ (call (Value.ref 632) []) _ _ _); (with_reducible rename Fr _ _ _ _ => kF9); (with_reducible rename News _ _ _ _ => kN9); (with_reducible rename MarkD _ => kD9); refine c_new_variables (Gd.of (by k_asm) (by k_asm) (by k_asm)) (by walk_at "m_room") ?_; intro x9' h9' tk9' kc9 nx hx9 tkc9; obtain ⟨F9', N9'⟩ := after0 kF9 kN9 kc9; (try k_sweep)))
  k_with "@call ref" => ((fail_if_success have := zg_wnew); ((with_reducible show wpAny _ _ (call (Value.ref 688) _) _ _ _); (show wpAny _ _ (call (Value.ref 688) []) _ _ _); (with_reducible rename Fr _ _ _ _ => kF9); (with_reducible rename News _ _ _ _ => kN9); (with_reducible rename MarkD _ => kD9); refine c_new_locals (Gd.of (by k_asm) (by k_asm) (by k_asm)) (by walk_at "m_room") ?_; intro x9' h9' tk9' kc9 nx hx9 tkc9; obtain ⟨F9', N9'⟩ := after0 kF9 kN9 kc9; (try k_sweep)))
  trivial
theorem c_new_world  (G : Gd w p lo mean mg mb h₀ s) (hd : dp + 10 < recursionLimit)
   (h : ∀ x d ob od rl nd ce cd fd pd va ba t1 t2 t3 t4 t5 t6 t7 t8 t9 t10 t11 t12 no n fo h' tk', Kept [] s.heap h' → (∀ b ∈ [x, d, ob, od, rl, nd, ce, cd, fd], s.heap.get? b = none) → h'.get? x = some (instObj 737 d) → h'.get? d = some (worldD w.params t3 t4 t5 t6 t7 t8 t9 t10 ob ce va ba) → h'.get? ob = some (instObj 569 od) → h'.get? od = some (obD w.params t1 t2 rl nd) → h'.get? rl = some (listOf #[.ref 124, .ref 127] n) → h'.get? nd = some no → h'.get? ce = some (instObj 492 cd) → h'.get? cd = some (cellsD w.params t11 t12 fd pd) → h'.get? fd = some fo → no.IsDictOf (PySem.strKind prog w) [(Str.ofString "nil", .ref 124), (Str.ofString "t", .ref 127)] → (nd == sysModules) = false → fo.IsDictOf (PySem.intKind prog w) [] → (fd == sysModules) = false → s.toks ≤ tk' → Q (.ref x) {s with heap := h', toks := tk'}) : wpAny (model prog w) (At0 dp un fr gd) (call (.ref 737) []) Q E s := by
  revert G hd h
  walk_at "9M"
  walk_at "9i"
  walk_at "9an"
  clear_value prog w dp un fr gd s h₀
  walk_at "9f"
  intro p lo mean mg
  clear_value p lo mean mg
  walk_at "9e"
  intro mb Q
  clear_value mb Q
  walk_at "9g"
  intro E
  clear_value E
  walk_at "in"
  walk_at "9r"
  intro x d h1 k1 hx hxd nx0 nd0 ndx
  have G' := nw_G G k1
  have LL : Led h₀ h1 [(x, instObj 737 d), (d, dictOf [] 0)] := nw_LL G hx hxd nx0 nd0
  replace ndx := ltN ndx
  walk_at "9u"
  walk_at "m_rest"
  have kD : MarkD d := trivial
  k_steps
  walk_at "9h"
  intro kk ll
  walk_at "93"
  have kz := nw_kz kk k1 nx0 nd0
  have frs := nw_fr ll k1 nx0 nd0
  refine h x d _ _ _ _ _ _ _ _ _ _ _ _ _ _ _ _ _ _ _ _ _ _ _ _ _ _ _ kz ?_ (ll _ Z7).1 (ll _ Z8).1 (ll _ Z3).1 (ll _ Z4).1 (ll _ Z5).1 (ll _ Z6).1 (ll _ (.head _)).1 (ll _ Z1).1 (ll _ Z2).1 (by assumption) (by assumption) (by assumption) (by assumption) ht
  exact (fa1 nx0 (fa1 nd0 (fa1 (frs _ Z3) (fa1 (frs _ Z4) (fa1 (frs _ Z5) (fa1 (frs _ Z6) (fa1 (frs _ (.head _)) (fa1 (frs _ Z1) (fa1 (frs _ Z2) fa0)))))))))
theorem c_set_function {ce cd fd pd sa sd ua ud : Addr} {t1 t2 t3 t4 tn ts : Tok} {num : Int} {nm : Str} {fo uo : Obj} {fvs : List (Int × Value)} (G : Gd w p lo mean mg mb h₀ s) (hd : dp + 6 < recursionLimit)
   (LL : Led h₀ s.heap [(ce, instObj 492 cd), (cd, cellsD w.params t1 t2 fd pd), (fd, fo), (sa, instObj 118 sd), (sd, symD w.params t3 t4 tn ts num nm), (ua, instObj 166 ud), (ud, uo)])
   (hfk : fo.IsDictOf (PySem.intKind prog w) fvs) (hlo : (fd == sysModules) = false) (hkl : fvs.length ≤ sizeLine) (hsa : sa ≠ 124) (hne : fd ≠ ce ∧ fd ≠ cd ∧ fd ≠ sa ∧ fd ≠ sd ∧ fd ≠ ua ∧ fd ≠ ud)
   (hQ : ∀ fo' h' tk', Kept [fd] s.heap h' → h'.get? fd = some fo' → fo'.IsDictOf (PySem.intKind prog w) (stored fvs num (.ref ua)) → s.toks ≤ tk' → Q .none {s with heap := h', toks := tk'}) : wpAny (model prog w) (At0 dp un fr gd) (call (.ref 447) [.ref ce, .ref sa, .ref ua]) Q E s := by
  revert G hd LL hfk hlo hkl hsa hne hQ
  revert prog w dp un fr gd s h₀ p lo mean mg mb Q E ce cd fd pd sa sd ua ud t1 t2 t3 t4 tn ts num nm fo uo fvs
  walk_at "9c"
  intro prog w dp un fr gd s h₀ p lo mean mg mb Q E ce
  clear_value prog w dp un fr gd s h₀ p lo mean mg mb Q E ce
  walk_at "9c"
  intro cd fd pd sa sd ua ud t1 t2 t3 t4 tn ts num nm fo
  clear_value cd fd pd sa sd ua ud t1 t2 t3 t4 tn ts num nm fo
  walk_at "9e"
  intro uo fvs
  clear_value uo fvs
  walk_at "in"
  walk_at "9d"
  refine' enterM2 (M := [ce, cd, fd, sa, sd, ua, ud]) (binds := [(Str.ofString "self", .ref ce), (Str.ofString "symbol", .ref sa), (Str.ofString "function", .ref ua)]) ?hM G LL ?ho ?hcd ?hr ?hb ?hl ?_ ?c1 ?c2 ?c3 ?c4
  walk_at "9m"
  walk_at "m_rest"
  obtain ⟨ne1, ne2, ne3, ne4, ne5, ne6⟩ := hne
  k_steps
  walk_at "9h"
  intro kk ll ht
  have LU : Led h₀ s.heap [(ce, instObj 492 cd), (cd, cellsD w.params t1 t2 fd pd), (sa, instObj 118 sd), (sd, symD w.params t3 t4 tn ts num nm), (ua, instObj 166 ud), (ud, uo)] := (fa1 (LL _ (by k_mem)) (fa1 (LL _ (by k_mem)) (fa1 (LL _ (by k_mem)) (fa1 (LL _ (by k_mem)) (fa1 (LL _ (by k_mem)) (fa1 (LL _ (by k_mem)) fa0))))))
  have kz : Kept [fd] s.heap _ := Kept.of_left kk ll LU (fa1 (by k_mem) (fa1 (by k_mem) (fa1 (by k_mem) (fa1 (by k_mem) (fa1 (by k_mem) (fa1 (by k_mem) fa0)))))) (fa1 (by first | exact .inl (by k_mem) | exact .inr (by dsimp only [List.map]; k_mem)) (fa1 (by first | exact .inl (by k_mem) | exact .inr (by dsimp only [List.map]; k_mem)) (fa1 (by first | exact .inl (by k_mem) | exact .inr (by dsimp only [List.map]; k_mem)) (fa1 (by first | exact .inl (by k_mem) | exact .inr (by dsimp only [List.map]; k_mem)) (fa1 (by first | exact .inl (by k_mem) | exact .inr (by dsimp only [List.map]; k_mem)) (fa1 (by first | exact .inl (by k_mem) | exact .inr (by dsimp only [List.map]; k_mem)) (fa1 (by first | exact .inl (by k_mem) | exact .inr (by dsimp only [List.map]; k_mem)) fa0)))))))
  exact hQ _ _ _ kz (ll _ Z2).1 (by assumption) ht
theorem zg_wnew : True := trivial
theorem zgg_meth : True := trivial
theorem two_of {α : Type} : ∀ {l : List α}, l.length = 2 → ∃ a b, l = [a, b]
  | [a, b], _ => ⟨a, b, rfl⟩
theorem one_of {α : Type} : ∀ {l : List α}, l.length = 1 → ∃ a, l = [a]
  | [a], _ => ⟨a, rfl⟩
theorem AtsV.get' {vals : List Value} {cs : List At} (h : AtsV vals cs) {k : Nat} (hk : k < cs.length) : ∃ x a, vals[k]? = some x ∧ cs[k]? = some a ∧ AtV x a := by
  have hk' : k < vals.length := by rw [h.length]; exact hk
  obtain ⟨a, e, q⟩ := AtsV.get h (List.getElem?_eq_getElem hk')
  exact ⟨_, a, List.getElem?_eq_getElem hk', e, q⟩
theorem Ln.which {vals : List Value} {cs : List At} (h : AtsV vals cs) {l : Ln} (ok : l.ok cs) : (∃ k x a, l = .c k ∧ vals[k]? = some x ∧ l.con cs = some a ∧ AtV x a) ∨ ((l.word == Str.ofString "const") = false ∧ l.con cs = none) := by
  cases l with
  | c k =>
    obtain ⟨x, a, e1, e2, e3⟩ := h.get' (k := k) ok
    exact .inl ⟨k, x, a, rfl, e1, e2, e3⟩
  | v n => exact .inr ⟨rfl, rfl⟩
  | p o => exact .inr ⟨rfl, rfl⟩
theorem behind_1 (lns : List Ln) (cs : List At) {l : Ln} {n : Nat} (h : lns.drop (n - 1) = [l]) (e : n = lns.length) : behind lns cs 1 = (l.con cs).map fun a => [a] := by
  subst e
  show (match lns.drop (lns.length - 1) with
    | [x] => (x.con cs).map fun a => [a]
    | _ => none) = _
  rw [h]
theorem behind_2 (lns : List Ln) (cs : List At) {l l' : Ln} {n : Nat} (h : lns.drop (n - 2) = [l, l']) (e : n = lns.length) : behind lns cs 2 = (l.con cs).bind fun a => (l'.con cs).map fun b => [a, b] := by
  subst e
  show (match lns.drop (lns.length - 2) with
    | [x, y] => (x.con cs).bind fun a => (y.con cs).map fun b => [a, b]
    | _ => none) = _
  rw [h]
theorem behind_few {lns : List Ln} {cs : List At} {m : Nat} (h : lns.length < m) (hm : m = 1 ∨ m = 2) : behind lns cs m = none := by
  rcases hm with rfl | rfl
  · cases lns with
    | nil => rfl
    | cons a l => exact absurd h (Nat.not_lt.mpr (Nat.le_add_left _ _))
  · cases lns with
    | nil => rfl
    | cons a l =>
      cases l with
      | nil => rfl
      | cons b l => exact absurd h (Nat.not_lt.mpr (Nat.le_add_left _ _))
theorem c_behind {la ca cd vl : Addr} {vs vals : List Value} {lns : List Ln} {cs : List At} {o : Op} {tm t0 : Tok} {n n' : Nat} (G : Gd w p lo mean mg mb h₀ s) (hd : dp + 6 < recursionLimit)
   (hla : s.heap.get? la = some (listOf vs.toArray n)) (hca : s.heap.get? ca = some (instObj 276 cd)) (hcd : s.heap.get? cd = some (consD w.params t0 vl)) (hvl : s.heap.get? vl = some (listOf vals.toArray n')) (h0 : h₀.get? ca = none ∧ h₀.get? cd = none ∧ h₀.get? vl = none)
   (hlen : vals.length ≤ 1000) (hlen' : vs.length ≤ 1000) (hln : All2 (LnZ h₀ s.heap) vs lns) (hvs : AtsV vals cs) (hok : ∀ l ∈ lns, l.ok cs)
   (hQ1 : ∀ h' tk', behind lns cs o.many = none → Kept [] s.heap h' → s.toks ≤ tk' → Q .none {s with heap := h', toks := tk'})
   (hQ2 : ∀ ra xs as h' tk' n2, behind lns cs o.many = some as → AtsV xs as → (∀ x ∈ xs, x ∈ vals) → as.length = o.many → Kept [] s.heap h' → s.heap.get? ra = none → h'.get? ra = some (listOf xs.toArray n2) → s.toks ≤ tk' → Q (.ref ra) {s with heap := h', toks := tk'}) :
   wpAny (model prog w) (At0 dp un fr gd) (call (.ref 231) [.ref la, .ref ca, .int (o.many : Nat) tm]) Q E s := by
  refine wpAny_with_toks (Nat.le_refl s.toks) ?_
  have he := hln.length
  rcases Nat.lt_or_ge vs.length o.many with hlt | hge
  · refine c_behind_few (Q := fun v s' => s.toks ≤ s'.toks → Q v s') G hd hla hca hcd hvl h0 hlen hlen' hlt fun h' tk' k ht => hQ1 h' tk' ?_ k ht
    exact behind_few (by rw [← he]; exact hlt) o.many_cases
  · have D := hln.drop (vs.length - o.many)
    have okD : ∀ l ∈ lns.drop (vs.length - o.many), l.ok cs := fun l hl => hok l (List.mem_of_mem_drop hl)
    rcases o.many_cases with hm | hm <;> rw [hm] at hge D okD ⊢ <;> rw [hm] at hQ1 hQ2
    · obtain ⟨v, hv⟩ := one_of (l := vs.drop (vs.length - 1)) (by simp; walk_at "om")
      rw [hv] at D
      obtain ⟨l, hl⟩ := one_of (l := lns.drop (vs.length - 1)) (by simp; walk_at "om")
      rw [hl] at D okD
      obtain ⟨a, t, u, d, n3, sl, rfl, ha, hna⟩ := LnZ.obj D.1
      have hb : behind lns cs 1 = (l.con cs).map fun a => [a] := by
        exact behind_1 lns cs hl he
      rcases Ln.which hvs (okD l (.head _)) with ⟨k, x, b, rfl, e1, e2, e3⟩ | ⟨e1, e2⟩
      · exact c_behind1 (Q := fun v s' => s.toks ≤ s'.toks → Q v s') G hd hla hca hcd hvl h0 hlen hlen' hv hge ha hna (fun _ => e1) (fun _ => e3) (fun q => ffT (q.symm.trans (show _ = true from by rfl))) fun _ ra h' tk' n2 k n hr ht =>
          hQ2 ra [x] [b] h' tk' n2 (by rw [hb, e2]; rfl) ⟨e3, trivial⟩ (fun y hy => by rw [List.mem_singleton.mp hy]; exact List.mem_of_getElem? e1) rfl k n hr ht
      · exact c_behind1 (x1 := .none) (b1 := .nil) (Q := fun v s' => s.toks ≤ s'.toks → Q v s') G hd hla hca hcd hvl h0 hlen hlen' hv hge ha hna (fun q => ffT (e1.symm.trans q)) (fun q => ffT (e1.symm.trans q)) (fun _ h' tk' k ht => hQ1 h' tk' (by rw [hb, e2]; rfl) k ht) fun q => ffT (e1.symm.trans q)
    · obtain ⟨v, v', hv⟩ := two_of (l := vs.drop (vs.length - 2)) (by simp; walk_at "om")
      rw [hv] at D
      obtain ⟨l, l', hl⟩ := two_of (l := lns.drop (vs.length - 2)) (by simp; walk_at "om")
      rw [hl] at D okD
      obtain ⟨a, t, u, d, n3, sl, rfl, ha, hna⟩ := LnZ.obj D.1
      obtain ⟨a', t', u', d', n3', sl', rfl, ha', hna'⟩ := LnZ.obj D.2.1
      have hb : behind lns cs 2 = (l.con cs).bind fun a => (l'.con cs).map fun b => [a, b] := by
        exact behind_2 lns cs hl he
      have no : (l.word == Str.ofString "const" && l'.word == Str.ofString "const") = false → behind lns cs 2 = none → wpAny (model prog w) (At0 dp un fr gd) (call (.ref 231) [.ref la, .ref ca, .int (2 : Nat) tm]) (fun v s' => s.toks ≤ s'.toks → Q v s') (fun v s' => s.toks ≤ s'.toks → E v s') s := fun q1 q2 =>
        c_behind2 (x1 := .none) (b1 := .nil) (x2 := .none) (b2 := .nil) (Q := fun v s' => s.toks ≤ s'.toks → Q v s') G hd hla hca hcd hvl h0 hlen hlen' hv hge ha hna (fun q => ffT (q1.symm.trans q)) (fun q => ffT (q1.symm.trans q)) ha' hna' (fun q => ffT (q1.symm.trans q)) (fun q => ffT (q1.symm.trans q)) (fun _ h' tk' k ht => hQ1 h' tk' q2 k ht) fun q => ffT (q1.symm.trans q)
      rcases Ln.which hvs (okD l (.head _)) with ⟨k, x, b, rfl, e1, e2, e3⟩ | ⟨e1, e2⟩
      · rcases Ln.which hvs (okD l' Z1) with ⟨k', x', b', rfl, e1', e2', e3'⟩ | ⟨e1', e2'⟩
        · exact c_behind2 (Q := fun v s' => s.toks ≤ s'.toks → Q v s') G hd hla hca hcd hvl h0 hlen hlen' hv hge ha hna (fun _ => e1) (fun _ => e3) ha' hna' (fun _ => e1') (fun _ => e3') (fun q => ffT (q.symm.trans (show _ = true from by rfl))) fun _ ra h' tk' n2 k n hr ht =>
            hQ2 ra [x, x'] [b, b'] h' tk' n2 (by rw [hb, e2, e2']; rfl) ⟨e3, e3', trivial⟩ (fun y hy => by
              rcases List.mem_cons.mp hy with rfl | hy
              · exact List.mem_of_getElem? e1
              · rw [List.mem_singleton.mp hy]; exact List.mem_of_getElem? e1') rfl k n hr ht
        · exact no (by rw [e1', Bool.and_false]) (by rw [hb, e2, e2']; rfl)
      · exact no (by rw [e1, Bool.false_and]) (by rw [hb, e2]; rfl)
theorem zg_cbu : True := trivial
theorem zrr22 : True := by
  k_with "@exec For Name Name cons nil" => ((fail_if_success have := zg_dd); (k_here; (with_reducible rename Fr _ _ _ _ => kF9); (with_unfolding_all refine' For_unr kF9 ?k1_79 ?_; (case k1_79 => exact rfl); k_whole)))
  k_with "@exec For Name Subscript cons nil" => ((fail_if_success have := zg_dd); (k_here; (with_reducible rename Fr _ _ _ _ => kF9); (with_unfolding_all refine' For_unr kF9 ?k1_80 ?_; (case k1_80 => exact rfl); k_whole)))
  k_with "@pyIter ref" => ((fail_if_success have := zg_dd); ((with_reducible show wpAny _ _ (pyIter (Value.ref _)) (fun it s₂ => LoopU _ _ _ _ _ _ _ _ _ it s₂) _ _); refine' unr_start ?k1_81 ?k2_81 ?k3_81 ?_; (case k1_81 => k_asm); (case k2_81 => k_asm); (case k3_81 => is_list); intro I9' h9' oi9 tk9' tkc9 oic9 F9' N9'; (try k_sweep)))
  k_with "@m_noiter" => ((fail_if_success have := zg_dd); ((repeat (refine List.forall_mem_cons.mpr ⟨by first | exact typ_ne (by decide) | (intro q9; cases q9; done), ?_⟩)); exact List.forall_mem_nil _))
  k_with "@m_list" => ((fail_if_success have := zg_dd); first | is_list | exact led_list (by k_asm) (by k_mem) | exact Heap.IsList.at (by with_reducible assumption) (fun o e => Fr.keep (by k_asm) _ o e))
  k_with "@m_turn" => ((fail_if_success have := zg_dd); ((show Box _); refine' unr_turn ?k1_84 ?k2_84 ?k3_84 ?k4_84 ?_; (case k1_84 => k_asm); (case k2_84 => k_asm); (case k3_84 => walk_at "m_noiter"); (case k4_84 => walk_at "m_list"); first
    | (intro h9' oi9 tk9' tkc9 oic9 F9' N9'; (try k_sweep); (with_reducible show wpAny _ _ _ _ _ _))
    | (intro h9' tk9' tkc9 F9' N9'; (try k_sweep))))
  k_with "@subscriptTail Name Constant ref int" => ((fail_if_success have := zg_dd); (k_here; (with_reducible show wpAny _ _ (subscriptTail _ _ (Value.ref _) (Value.int _ _)) _ _ _); (with_unfolding_all refine' item_nth ?k1_85 ?k2_85 ?k3_85 ?k4_85 ?_ ?k5_85; (case k1_85 => walk_at "m_list"); (case k2_85 => decide); (case k3_85 => decide); (case k4_85 => exact rfl); (case k5_85 => with_unfolding_all rfl))))
  k_with "@call builtin:len" => ((fail_if_success have := zg_dd); (k_here; (with_reducible show wpAny _ _ (call (Value.builtin "len") [Value.ref _]) _ _ _); (refine' kun_lenL ?k1_86 ?k2_86 ?k3_86 ?_; (case k1_86 => exact Heap.IsList.at (by with_reducible assumption) (fun o e => Fr.keep (by k_asm) _ o e)); (case k2_86 => kun_count); (case k3_86 => decide); k_whole)))
  k_with "@binaryOp Mult int int" => ((fail_if_success have := zg_dd); (k_here; (with_reducible show wpAny _ _ (binaryOp Operator.Mult (Value.int _ _) (Value.int _ _)) _ _ _); refine PySem.P.mul_int ?_ (IntMulOk.of_le (m := 65536) (n := 65536) (by walk_at "m_fits") (by walk_at "m_fits") (by decide))))
  trivial
theorem told_no2 {o : Op} {a1 a2 : At} (h : (a1.isInt && a2.isInt) = false) : told o [a1, a2] = none := by
  cases a1 <;> cases a2 <;> first | rfl | (cases h)
theorem tok_mem {tk tk' : Nat} {vals : List Value} {v : Value} (h : v ∈ vals) : TokNew tk tk' vals v := .inl h
theorem tok_ref {tk tk' : Nat} {vals : List Value} {a : Addr} : TokNew tk tk' vals (.ref a) := .inr (.inl fun i t q => by cases q)
theorem tok_new {tk tk' t : Nat} {vals : List Value} {i : Int} (h : tk ≤ t) (h' : t < tk') : TokNew tk tk' vals (.int i t) := .inr (.inr ⟨i, t, rfl, h, h'⟩)
theorem atv_b {c : Prop} [Decidable c] : AtV (.ref (if c then 127 else 124)) (if c then .t else .nil) := by
  split
  · exact AtV.t
  · exact AtV.nil
theorem deed_two {w : World} {o : Op} {dd : Addr} (ho : o.deed = some dd) (hm : o.many = 2) {v1 v2 : Value} {a1 a2 : At} (ha1 : AtV v1 a1) (ha2 : AtV v2 a2) (hb : Bd 30000 [a1, a2]) : Deed w dd [v1, v2] (told o [a1, a2]) := by
  cases o <;> first | exact noS ho | exact absurd hm (by decide) | skip
  all_goals cases ho
  all_goals (have hb1 : ∀ i, a1 = .int i → Bits i 30000 := fun i e => hb i (by rw [e]; exact .head _))
  all_goals (have hb2 : ∀ i, a2 = .int i → Bits i 30000 := fun i e => hb i (by rw [e]; exact .tail _ (.head _)))
  all_goals (intro prog dp un gd outer s h₀ p lo mean mg mb Q E wv al n G hd hF hal hQ hE)
  all_goals (have hE' : ∀ e h' tk', (a1.isInt && a2.isInt) = false → Flew s.heap outer e h' → s.toks ≤ tk' → E (.ref e) { s with heap := h', toks := tk' } := fun e h' tk' hn => hE e h' tk' (told_no2 hn))
  · exact c_minus G (by walk_at "om") hF hal ha1 ha2 hb1 hb2 (fun i j k tk h' tk' e1 e2 e3 t1 t2 kk => by subst e1 e2 e3; exact hQ _ _ h' tk' rfl AtV.int (tok_new t1 t2) kk (by walk_at "om")) hE'
  · exact c_plus G (by walk_at "om") hF hal ha1 ha2 hb1 hb2 (fun i j k tk h' tk' e1 e2 e3 t1 t2 kk => by subst e1 e2 e3; exact hQ _ _ h' tk' rfl AtV.int (tok_new t1 t2) kk (by walk_at "om")) hE'
  · exact c_times G (by walk_at "om") hF hal ha1 ha2 hb1 hb2 (fun i j k tk h' tk' e1 e2 e3 t1 t2 kk => by subst e1 e2 e3; exact hQ _ _ h' tk' rfl AtV.int (tok_new t1 t2) kk (by walk_at "om")) hE'
  · exact wpAny_with_toks (Nat.le_refl s.toks) (c_less (Q := fun v s' => s.toks ≤ s'.toks → Q v s') (E := fun v s' => s.toks ≤ s'.toks → E v s') G (by walk_at "om") hF hal ha1 ha2 (fun i j r h' tk' e1 e2 e3 kk ht => by subst e1 e2 e3; exact hQ _ _ h' tk' rfl atv_b tok_ref kk ht) (fun e h' tk' hn f t _ => hE' e h' tk' hn f t))
  · exact wpAny_with_toks (Nat.le_refl s.toks) (c_at_most (Q := fun v s' => s.toks ≤ s'.toks → Q v s') (E := fun v s' => s.toks ≤ s'.toks → E v s') G (by walk_at "om") hF hal ha1 ha2 (fun i j r h' tk' e1 e2 e3 kk ht => by subst e1 e2 e3; exact hQ _ _ h' tk' rfl atv_b tok_ref kk ht) (fun e h' tk' hn f t _ => hE' e h' tk' hn f t))
  · exact wpAny_with_toks (Nat.le_refl s.toks) (c_alike (Q := fun v s' => s.toks ≤ s'.toks → Q v s') (E := fun v s' => s.toks ≤ s'.toks → E v s') G (by walk_at "om") hF hal ha1 ha2 (fun i j r h' tk' e1 e2 e3 kk ht => by subst e1 e2 e3; exact hQ _ _ h' tk' rfl atv_b tok_ref kk ht) (fun e h' tk' hn f t _ => hE' e h' tk' hn f t))
  · refine wpAny_with_toks (Nat.le_refl s.toks) (c_greatest (Q := fun v s' => s.toks ≤ s'.toks → Q v s') (E := fun v s' => s.toks ≤ s'.toks → E v s') G (by walk_at "om") hF hal ha1 ha2 (fun i j v h' tk' e1 e2 e3 kk ht => ?_) (fun e h' tk' hn f t _ => hE' e h' tk' hn f t))
    subst e1 e2 e3
    refine hQ _ (.int (if j > i then j else i)) h' tk' rfl ?_ (tok_mem ?_) kk ht <;> split <;> first | assumption | simp
  · refine wpAny_with_toks (Nat.le_refl s.toks) (c_least (Q := fun v s' => s.toks ≤ s'.toks → Q v s') (E := fun v s' => s.toks ≤ s'.toks → E v s') G (by walk_at "om") hF hal ha1 ha2 (fun i j v h' tk' e1 e2 e3 kk ht => ?_) (fun e h' tk' hn f t _ => hE' e h' tk' hn f t))
    subst e1 e2 e3
    refine hQ _ (.int (if j < i then j else i)) h' tk' rfl ?_ (tok_mem ?_) kk ht <;> split <;> first | assumption | simp
theorem deed_one {w : World} {o : Op} {dd : Addr} (ho : o.deed = some dd) (hm : o.many = 1) {v1 : Value} {a1 : At} (ha1 : AtV v1 a1) (hb : Bd 30000 [a1]) : Deed w dd [v1] (told o [a1]) := by
  cases o <;> first | exact noS ho | exact absurd hm (by decide) | skip
  all_goals cases ho
  all_goals (have hb1 : ∀ i, a1 = .int i → Bits i 30000 := fun i e => hb i (by rw [e]; exact .head _))
  all_goals (intro prog dp un gd outer s h₀ p lo mean mg mb Q E wv al n G hd hF hal hQ hE)
  · exact c_one_more G (by walk_at "om") hF hal ha1 hb1 (fun i k tk h' tk' e1 e3 t1 t2 kk => by subst e1 e3; exact hQ _ _ h' tk' rfl AtV.int (tok_new t1 t2) kk (by walk_at "om")) fun e h' tk' hn => hE e h' tk' (by cases a1 <;> first | rfl | cases hn)
  · exact c_one_less G (by walk_at "om") hF hal ha1 hb1 (fun i k tk h' tk' e1 e3 t1 t2 kk => by subst e1 e3; exact hQ _ _ h' tk' rfl AtV.int (tok_new t1 t2) kk (by walk_at "om")) fun e h' tk' hn => hE e h' tk' (by cases a1 <;> first | rfl | cases hn)
  · refine wpAny_with_toks (Nat.le_refl s.toks) (c_is_number (Q := fun v s' => s.toks ≤ s'.toks → Q v s') (E := fun v s' => s.toks ≤ s'.toks → E v s') G (by walk_at "om") hal ha1 (fun h' tk' kk ht => ?_))
    refine hQ _ (if a1.isInt then .t else .nil) h' tk' rfl ?_ tok_ref kk ht
    cases a1
    · exact AtV.t
    · exact AtV.nil
    · exact AtV.nil
theorem zg_dd : True := trivial
end
theorem zrr23 : True := by
  k_with "@compareOp NotEq str str" => ((fail_if_success have := zg_td); (k_here; refine ne_str_b (by with_reducible assumption) ?_))
  k_with "@compareOp Eq str str" => ((fail_if_success have := zg_td); (k_here; refine eq_str_b (by with_reducible assumption) ?_))
  trivial
section
variable {prog : Program} {w : World} {dp un : Nat} {fr : Option (List Env)} {gd : Option (List Code)} {s : Shared} {h₀ : Heap} {p : Program} {lo : List Str} {mean : ExcName → Option Value} {mg mb : Str → Option Value} {Q E : Value → Shared → Prop}
theorem ne_led {h₀ s : Heap} {l : List (Addr × Obj)} (L : Led h₀ s l) (hn : ∀ p ∈ l, p.2.cls ≠ .type "list") {al : Addr} {vs : Array Value} {n : Nat} (hal : s.get? al = some (listOf vs n)) {p : Addr × Obj} (hp : p ∈ l) : p.1 ≠ al := fun e => by
  have := (L p hp).1
  rw [e, hal] at this
  exact hn p hp (by rw [← Option.some.inj this])
theorem c_told_none {W : WA} {D : WD} {N : Nat} {o : Op} {sa sd al : Addr} {num : Int} {s1 s2 s3 s4 ts : Tok} {ex : List Addr} (G : Gd w p lo mean mg mb h₀ s) (hd : dp + 14 < recursionLimit) (hW : WPd prog w (HZ h₀ s.heap ex) W D N)
   (hS : SymD w (HZ h₀ s.heap ex) W D o sa sd num s1 s2 s3 s4) (hf : valueAt D.fvs num = none)
   (hQ : ∀ h' tk', Kept [] s.heap h' → s.toks ≤ tk' → Q .none {s with heap := h', toks := tk'}) : wpAny (model prog w) (At0 dp un fr gd) (call (.ref 238) [.ref W.wa, .str o.name ts, .ref al]) Q E s := by
  revert G hd hW hS hf hQ
  revert prog w dp un fr gd s h₀ p lo mean mg mb Q E W D N o sa sd al num s1 s2 s3 s4 ts ex
  walk_at "9c"
  walk_at "9aQ"
  clear_value prog w dp un fr gd s h₀ p lo mean mg mb Q E W
  walk_at "9i"
  intro D N o sa sd al num s1
  clear_value D N o sa sd al num s1
  walk_at "9f"
  intro s2 s3 s4 ts
  clear_value s2 s3 s4 ts
  walk_at "9g"
  intro ex
  clear_value ex
  walk_at "in"
  walk_at "9d"
  have xwa := hW.wa.1
  have ywa := hW.wa.2
  have xwd := hW.wd.1
  have ywd := hW.wd.2
  have xob := hW.ob.1
  have yob := hW.ob.2
  have xod := hW.od.1
  have yod := hW.od.2
  have xce := hW.ce.1
  have yce := hW.ce.2
  have xcd := hW.cd.1
  have ycd := hW.cd.2
  have xfd := hW.fd.1
  have yfd := hW.fd.2
  have xnd := hW.nd
  have xrl := hW.rl
  have hne := hW.ne
  have hk := hW.hk
  have hfk := hW.hf
  have hnm := hW.nm
  have hfm := hW.fm
  have hlr := hW.lr
  have hlk := hW.lk
  have hv := hS.1
  have xsa := hS.2.1.1
  have ysa := hS.2.1.2
  have xsd := hS.2.2.1.1
  have ysd := hS.2.2.1.2
  walk_at "9n"
  walk_at "9p"
  have LL : Led h₀ s.heap [(W.wa, instObj 737 W.wd), (W.wd, worldD w.params W.t3 W.t4 W.t5 W.t6 W.t7 W.t8 W.t9 W.t10 W.ob W.ce W.va W.ba), (W.ce, instObj 492 W.cd), (W.cd, cellsD w.params W.t11 W.t12 W.fd W.pd)] := (fa1 ⟨xwa.1, xwa.2.1⟩ (fa1 ⟨xwd.1, xwd.2.1⟩ (fa1 ⟨xce.1, xce.2.1⟩ (fa1 ⟨xcd.1, xcd.2.1⟩ fa0))))
  refine' enterM2 (M := [W.wa, W.wd, W.ce, W.cd]) (binds := [(Str.ofString "world", .ref W.wa), (Str.ofString "name", .str o.name ts), (Str.ofString "arguments", .ref al)]) ?hM G LL ?ho ?hcd ?hr ?hb ?hl ?_ ?c1 ?c2 ?c3 ?c4
  walk_at "9m"
  walk_at "m_rest"
  have hst := base_of G LL kb
  k_steps
  walk_at "9b"
  walk_at "9a"
  refine c_symbol_hit (Gd.of2 G hst kF) (by walk_at "m_room") (led_of LW kb kF kN (fun p hp => (LL p hp).1) (by lcg_sub)) hk hnm hv ?_
  intro h' tk' kc tkc
  walk_at "9aA"
  clear kF kN
  k_steps
  walk_at "9b"
  walk_at "9a"
  refine c_function_of (Gd.of2 G hst kF) (by walk_at "m_room") (led_of LG kb kF kN (fun p hp => (LL p hp).1) (by lcg_sub)) hfk hfm hf ?_
  intro h' tk' kc tkc
  walk_at "9as"
  clear kF kN
  k_steps
  walk_at "9h"
  intro kk ll ht
  have LU : Led h₀ s.heap [(W.wa, instObj 737 W.wd), (W.wd, worldD w.params W.t3 W.t4 W.t5 W.t6 W.t7 W.t8 W.t9 W.t10 W.ob W.ce W.va W.ba), (W.ce, instObj 492 W.cd), (W.cd, cellsD w.params W.t11 W.t12 W.fd W.pd)] := (fa1 (LL _ (by k_mem)) (fa1 (LL _ (by k_mem)) (fa1 (LL _ (by k_mem)) (fa1 (LL _ (by k_mem)) fa0))))
  have kz : Kept [] s.heap _ := Kept.of_left kk ll LU (fa1 (by k_mem) (fa1 (by k_mem) (fa1 (by k_mem) (fa1 (by k_mem) fa0)))) (fun a ha => .inr ha)
  exact hQ _ _ kz ht
theorem c_told_other {W : WA} {D : WD} {N : Nat} {o : Op} {sa sd al : Addr} {num : Int} {s1 s2 s3 s4 ts : Tok} {ex : List Addr} {ua ud dd : Addr} {nu : Int} {nm : Str} {u1 u2 u3 u4 u5 u6 u7 u8 u9 : Tok} (G : Gd w p lo mean mg mb h₀ s) (hd : dp + 14 < recursionLimit) (hW : WPd prog w (HZ h₀ s.heap ex) W D N)
   (hS : SymD w (HZ h₀ s.heap ex) W D o sa sd num s1 s2 s3 s4) (hU : valueAt D.fvs num = some (.ref ua) ∧ Im (HZ h₀ s.heap ex) W ua (instObj 166 ud) ∧ Im (HZ h₀ s.heap ex) W ud (subrD w.params u1 u2 u3 u4 u5 u6 u7 u8 u9 nu nm dd) ∧ (nm != o.name) = true)
   (hQ : ∀ h' tk', Kept [] s.heap h' → s.toks ≤ tk' → Q .none {s with heap := h', toks := tk'}) : wpAny (model prog w) (At0 dp un fr gd) (call (.ref 238) [.ref W.wa, .str o.name ts, .ref al]) Q E s := by
  revert G hd hW hS hU hQ
  revert prog w dp un fr gd s h₀ p lo mean mg mb Q E W D N o sa sd al num s1 s2 s3 s4 ts ex ua ud dd nu nm u1 u2 u3 u4 u5 u6 u7 u8 u9
  walk_at "9c"
  walk_at "9aQ"
  clear_value prog w dp un fr gd s h₀ p lo mean mg mb Q E W
  walk_at "9c"
  intro D N o sa sd al num s1 s2 s3 s4 ts ex ua ud dd
  clear_value D N o sa sd al num s1 s2 s3 s4 ts ex ua ud dd
  walk_at "9i"
  intro nu nm u1 u2 u3 u4 u5 u6
  clear_value nu nm u1 u2 u3 u4 u5 u6
  walk_at "9e"
  intro u7 u8
  clear_value u7 u8
  walk_at "9g"
  intro u9
  clear_value u9
  walk_at "in"
  walk_at "9d"
  have xwa := hW.wa.1
  have ywa := hW.wa.2
  have xwd := hW.wd.1
  have ywd := hW.wd.2
  have xob := hW.ob.1
  have yob := hW.ob.2
  have xod := hW.od.1
  have yod := hW.od.2
  have xce := hW.ce.1
  have yce := hW.ce.2
  have xcd := hW.cd.1
  have ycd := hW.cd.2
  have xfd := hW.fd.1
  have yfd := hW.fd.2
  have xnd := hW.nd
  have xrl := hW.rl
  have hne := hW.ne
  have hk := hW.hk
  have hfk := hW.hf
  have hnm := hW.nm
  have hfm := hW.fm
  have hlr := hW.lr
  have hlk := hW.lk
  have hv := hS.1
  have xsa := hS.2.1.1
  have ysa := hS.2.1.2
  have xsd := hS.2.2.1.1
  have ysd := hS.2.2.1.2
  have hf := hU.1
  have xua := hU.2.1.1
  have yua := hU.2.1.2
  have xud := hU.2.2.1.1
  have yud := hU.2.2.1.2
  have hne2 := hU.2.2.2
  walk_at "9n"
  walk_at "9p"
  have LL : Led h₀ s.heap [(W.wa, instObj 737 W.wd), (W.wd, worldD w.params W.t3 W.t4 W.t5 W.t6 W.t7 W.t8 W.t9 W.t10 W.ob W.ce W.va W.ba), (W.ce, instObj 492 W.cd), (W.cd, cellsD w.params W.t11 W.t12 W.fd W.pd), (ua, instObj 166 ud), (ud, subrD w.params u1 u2 u3 u4 u5 u6 u7 u8 u9 nu nm dd)] := (fa1 ⟨xwa.1, xwa.2.1⟩ (fa1 ⟨xwd.1, xwd.2.1⟩ (fa1 ⟨xce.1, xce.2.1⟩ (fa1 ⟨xcd.1, xcd.2.1⟩ (fa1 ⟨xua.1, xua.2.1⟩ (fa1 ⟨xud.1, xud.2.1⟩ fa0))))))
  refine' enterM2 (M := [W.wa, W.wd, W.ce, W.cd, ua, ud]) (binds := [(Str.ofString "world", .ref W.wa), (Str.ofString "name", .str o.name ts), (Str.ofString "arguments", .ref al)]) ?hM G LL ?ho ?hcd ?hr ?hb ?hl ?_ ?c1 ?c2 ?c3 ?c4
  walk_at "9m"
  walk_at "m_rest"
  have hst := base_of G LL kb
  k_steps
  walk_at "9b"
  walk_at "9a"
  refine c_symbol_hit (Gd.of2 G hst kF) (by walk_at "m_room") (led_of LW kb kF kN (fun p hp => (LL p hp).1) (by lcg_sub)) hk hnm hv ?_
  intro h' tk' kc tkc
  walk_at "9aA"
  clear kF kN
  k_steps
  walk_at "9b"
  walk_at "9a"
  refine c_function_of (Gd.of2 G hst kF) (by walk_at "m_room") (led_of LG kb kF kN (fun p hp => (LL p hp).1) (by lcg_sub)) hfk hfm hf ?_
  intro h' tk' kc tkc
  walk_at "9as"
  clear kF kN
  k_steps
  walk_at "9h"
  intro kk ll ht
  have LU : Led h₀ s.heap [(W.wa, instObj 737 W.wd), (W.wd, worldD w.params W.t3 W.t4 W.t5 W.t6 W.t7 W.t8 W.t9 W.t10 W.ob W.ce W.va W.ba), (W.ce, instObj 492 W.cd), (W.cd, cellsD w.params W.t11 W.t12 W.fd W.pd), (ua, instObj 166 ud), (ud, subrD w.params u1 u2 u3 u4 u5 u6 u7 u8 u9 nu nm dd)] := (fa1 (LL _ (by k_mem)) (fa1 (LL _ (by k_mem)) (fa1 (LL _ (by k_mem)) (fa1 (LL _ (by k_mem)) (fa1 (LL _ (by k_mem)) (fa1 (LL _ (by k_mem)) fa0))))))
  have kz : Kept [] s.heap _ := Kept.of_left kk ll LU (fa1 (by k_mem) (fa1 (by k_mem) (fa1 (by k_mem) (fa1 (by k_mem) (fa1 (by k_mem) (fa1 (by k_mem) fa0)))))) (fun a ha => .inr ha)
  exact hQ _ _ kz ht
theorem c_told_new {W : WA} {D : WD} {N : Nat} {o : Op} {al : Addr} {ts : Tok} {ex : List Addr} (G : Gd w p lo mean mg mb h₀ s) (hd : dp + 14 < recursionLimit) (hW : WPd prog w (HZ h₀ s.heap ex) W D N)
   (hv : valueAt D.kvs o.name = none) (hN : N ≤ 900)
   (hQ : ∀ x d t1 t2 tn n' no' h' tk', Kept [W.nd, W.rl] s.heap h' → s.heap.get? x = none → s.heap.get? d = none → h'.get? W.rl = some (listOf (D.rows ++ [Value.ref x]).toArray n') → h'.get? W.nd = some no' → no'.IsDictOf (PySem.strKind prog w) (stored D.kvs o.name (.ref x)) → h'.get? x = some (instObj 118 d) → h'.get? d = some (symD w.params t1 t2 tn ts D.rows.length o.name) → s.toks ≤ tk' → Q .none {s with heap := h', toks := tk'}) : wpAny (model prog w) (At0 dp un fr gd) (call (.ref 238) [.ref W.wa, .str o.name ts, .ref al]) Q E s := by
  revert G hd hW hv hN hQ
  revert prog w dp un fr gd s h₀ p lo mean mg mb Q E W D N o al ts ex
  walk_at "9c"
  walk_at "9aQ"
  clear_value prog w dp un fr gd s h₀ p lo mean mg mb Q E W
  walk_at "9f"
  intro D N o al
  clear_value D N o al
  walk_at "9e"
  intro ts ex
  clear_value ts ex
  walk_at "in"
  walk_at "9d"
  have hf9 := hW.fv D.rows.length (Nat.le_refl _)
  have xwa := hW.wa.1
  have ywa := hW.wa.2
  have xwd := hW.wd.1
  have ywd := hW.wd.2
  have xob := hW.ob.1
  have yob := hW.ob.2
  have xod := hW.od.1
  have yod := hW.od.2
  have xce := hW.ce.1
  have yce := hW.ce.2
  have xcd := hW.cd.1
  have ycd := hW.cd.2
  have xfd := hW.fd.1
  have yfd := hW.fd.2
  have xnd := hW.nd
  have xrl := hW.rl
  have hne := hW.ne
  have hk := hW.hk
  have hfk := hW.hf
  have hnm := hW.nm
  have hfm := hW.fm
  have hlr := hW.lr
  have hlk := hW.lk
  have LW : Led h₀ s.heap [(W.wa, instObj 737 W.wd), (W.wd, worldD w.params W.t3 W.t4 W.t5 W.t6 W.t7 W.t8 W.t9 W.t10 W.ob W.ce W.va W.ba), (W.ob, instObj 569 W.od), (W.od, obD w.params W.t1 W.t2 W.rl W.nd), (W.nd, D.no), (W.rl, listOf D.rows.toArray D.n)] := (fa1 ⟨xwa.1, xwa.2.1⟩ (fa1 ⟨xwd.1, xwd.2.1⟩ (fa1 ⟨xob.1, xob.2.1⟩ (fa1 ⟨xod.1, xod.2.1⟩ (fa1 ⟨xnd.1, xnd.2.1⟩ (fa1 ⟨xrl.1, xrl.2.1⟩ fa0))))))
  have LG : Led h₀ s.heap [(W.ce, instObj 492 W.cd), (W.cd, cellsD w.params W.t11 W.t12 W.fd W.pd), (W.fd, D.fo)] := (fa1 ⟨xce.1, xce.2.1⟩ (fa1 ⟨xcd.1, xcd.2.1⟩ (fa1 ⟨xfd.1, xfd.2.1⟩ fa0)))
  have LL : Led h₀ s.heap [(W.wa, instObj 737 W.wd), (W.wd, worldD w.params W.t3 W.t4 W.t5 W.t6 W.t7 W.t8 W.t9 W.t10 W.ob W.ce W.va W.ba), (W.ce, instObj 492 W.cd), (W.cd, cellsD w.params W.t11 W.t12 W.fd W.pd), (W.nd, D.no), (W.rl, listOf D.rows.toArray D.n)] := (fa1 ⟨xwa.1, xwa.2.1⟩ (fa1 ⟨xwd.1, xwd.2.1⟩ (fa1 ⟨xce.1, xce.2.1⟩ (fa1 ⟨xcd.1, xcd.2.1⟩ (fa1 ⟨xnd.1, xnd.2.1⟩ (fa1 ⟨xrl.1, xrl.2.1⟩ fa0))))))
  have nwa : W.wa ≠ W.nd := ywa.1
  have mwa : W.wa ≠ W.rl := ywa.2
  have nwd : W.wd ≠ W.nd := ywd.1
  have mwd : W.wd ≠ W.rl := ywd.2
  have nce : W.ce ≠ W.nd := yce.1
  have mce : W.ce ≠ W.rl := yce.2
  have ncd : W.cd ≠ W.nd := ycd.1
  have mcd : W.cd ≠ W.rl := ycd.2
  have nnr : W.nd ≠ W.rl := hne
  have hlr' : D.rows.length ≤ 1000 := Nat.le_trans hlr (by walk_at "om")
  have hlk' : D.kvs.length ≤ sizeLine := Nat.le_trans hlk (by rw [sizeLine_eq]; walk_at "om")
  refine' enterM2 (M := [W.wa, W.wd, W.ce, W.cd, W.nd, W.rl]) (binds := [(Str.ofString "world", .ref W.wa), (Str.ofString "name", .str o.name ts), (Str.ofString "arguments", .ref al)]) ?hM G LL ?ho ?hcd ?hr ?hb ?hl ?_ ?c1 ?c2 ?c3 ?c4
  walk_at "9m"
  walk_at "m_rest"
  have hst := base_of G LL kb
  k_steps
  walk_at "9b"
  walk_at "9a"
  refine c_symbol_new (Gd.of2 G hst kF) (by walk_at "m_room") (led_of LW kb kF kN (fun p hp => (LL p hp).1) (by lcg_sub)) hk hnm hv hlr' hlk' yob.1.symm yod.1.symm hne ywa.1.symm ywd.1.symm ?_
  intro x' d' t1' t2' tn' n' no' h' tk' kc nx nx2 hrl' hnd' hdk' hx hd' tkc
  obtain ⟨F', N0⟩ := after2 kF kN (by k_updF) (by (try dsimp only); k_updF) kc hnd' hrl' hne
  (try dsimp only at N0)
  have N' := news_new kF nx (news_new kF nx2 N0 hd') hx
  have o1 := off_new kN nx
  have o2 := off_new kN nx2
  clear kF kN N0
  k_steps
  walk_at "9b"
  walk_at "9a"
  have LG2 := led_of2 [(W.wa, instObj 737 W.wd), (W.wd, worldD w.params W.t3 W.t4 W.t5 W.t6 W.t7 W.t8 W.t9 W.t10 W.ob W.ce W.va W.ba), (W.ce, instObj 492 W.cd), (W.cd, cellsD w.params W.t11 W.t12 W.fd W.pd)] [(W.nd, D.no), (W.rl, listOf D.rows.toArray D.n)] LG kb kF kN (fun p hp => (LL p (List.mem_append_left [(W.nd, D.no), (W.rl, listOf D.rows.toArray D.n)] hp)).1) (by lcg_sub) (fa1 (na1 yce.1 (na1 yce.2 na0)) (fa1 (na1 ycd.1 (na1 ycd.2 na0)) (fa1 (na1 yfd.1 (na1 yfd.2 na0)) fa0)))
  refine c_function_of (sa := x') (sd := d') (Gd.of2 G hst kF) (by walk_at "m_room") (led_app LG2 (b := [(x', instObj 118 d'), (d', symD w.params t1' t2' tn' ts D.rows.length o.name)]) ((fa1 ⟨(kN _ (by k_mem)).1, none_base hst (kN (x', instObj 118 d') (by k_mem)).2.2⟩ (fa1 ⟨(kN _ (by k_mem)).1, none_base hst (kN (d', symD w.params t1' t2' tn' ts D.rows.length o.name) (by k_mem)).2.2⟩ fa0)))) hfk hfm hf9 ?_
  intro h' tk' kc tkc
  walk_at "9aA"
  (try dsimp only [Option.getD])
  clear kF kN
  k_steps
  walk_at "9h"
  intro kk ll ht
  have LU : Led h₀ s.heap [(W.wa, instObj 737 W.wd), (W.wd, worldD w.params W.t3 W.t4 W.t5 W.t6 W.t7 W.t8 W.t9 W.t10 W.ob W.ce W.va W.ba), (W.ce, instObj 492 W.cd), (W.cd, cellsD w.params W.t11 W.t12 W.fd W.pd)] := (fa1 (LL _ (by k_mem)) (fa1 (LL _ (by k_mem)) (fa1 (LL _ (by k_mem)) (fa1 (LL _ (by k_mem)) fa0))))
  have kz : Kept [W.nd, W.rl] s.heap _ := Kept.of_left kk ll LU (fa1 (by k_mem) (fa1 (by k_mem) (fa1 (by k_mem) (fa1 (by k_mem) fa0)))) (fa1 (by first | exact .inl (by k_mem) | exact .inr (by dsimp only [List.map]; k_mem)) (fa1 (by first | exact .inl (by k_mem) | exact .inr (by dsimp only [List.map]; k_mem)) (fa1 (by first | exact .inl (by k_mem) | exact .inr (by dsimp only [List.map]; k_mem)) (fa1 (by first | exact .inl (by k_mem) | exact .inr (by dsimp only [List.map]; k_mem)) (fa1 (by first | exact .inl (by k_mem) | exact .inr (by dsimp only [List.map]; k_mem)) (fa1 (by first | exact .inl (by k_mem) | exact .inr (by dsimp only [List.map]; k_mem)) fa0))))))
  have frx := (ll _ (.head _)).2.resolve_left (na1 (by k_ne) (na1 (by k_ne) (na1 (by k_ne) (na1 (by k_ne) (na1 (by k_ne) (na1 (by k_ne) na0))))))
  have frd := (ll _ Z1).2.resolve_left (na1 (by k_ne) (na1 (by k_ne) (na1 (by k_ne) (na1 (by k_ne) (na1 (by k_ne) (na1 (by k_ne) na0))))))
  exact hQ _ _ _ _ _ _ _ _ _ kz frx frd (ll _ Z7).1 (ll _ Z6).1 (by assumption) (ll _ (.head _)).1 (ll _ Z1).1 ht
end
theorem zrr24 : True := by
  k_with "@callWith ref" => ((fail_if_success have := zg_td); (k_here; k_dflt (refine' callWith_K ?k1_90 ?k2_90 ?_; (case k1_90 => k_asm); (case k2_90 => with_reducible assumption); k_whole)))
  trivial
section
variable {prog : Program} {w : World} {dp un : Nat} {fr : Option (List Env)} {gd : Option (List Code)} {s : Shared} {h₀ : Heap} {p : Program} {lo : List Str} {mean : ExcName → Option Value} {mg mb : Str → Option Value} {Q E : Value → Shared → Prop}
theorem c_told_run {W : WA} {D : WD} {N : Nat} {o : Op} {sa sd al : Addr} {num : Int} {s1 s2 s3 s4 ts : Tok} {ua ud dd : Addr} {nu : Int} {u1 u2 u3 u4 u5 u6 u7 u8 u9 : Tok} {n : Nat} {outer : List Env} {vs : List Value} {res : Option At} (G : Gd w p lo mean mg mb h₀ s) (hd : dp + 14 < recursionLimit) (hW : WPd prog w (HZ h₀ s.heap (frs outer)) W D N)
   (hF : FF s.heap outer) (hf0 : ∀ b ∈ frs outer, h₀.get? b = none) (hS : SymD w (HZ h₀ s.heap (frs outer)) W D o sa sd num s1 s2 s3 s4) (hU : valueAt D.fvs num = some (.ref ua) ∧ Im (HZ h₀ s.heap (frs outer)) W ua (instObj 166 ud) ∧ Im (HZ h₀ s.heap (frs outer)) W ud (subrD w.params u1 u2 u3 u4 u5 u6 u7 u8 u9 nu o.name dd) ∧ True)
   (hal : s.heap.get? al = some (listOf vs.toArray n)) (hal' : al ∉ frs outer) (hD : Deed w dd vs res) (hkp : keepIn (K w.params) (.ref dd) = true)
   (hQ1 : ∀ h' tk', res = none → Kept (frs outer) s.heap h' → FrU (frs outer) s.heap h' → s.toks ≤ tk' → Q .none {s with heap := h', toks := tk'})
   (hQ2 : ∀ ta a v n' h' tk', res = some a → AtV v a → TokNew s.toks tk' vs v → Kept [] s.heap h' → s.heap.get? ta = none → h'.get? ta = some ⟨.type "tuple", none, .seq #[v] n', #[]⟩ → s.toks ≤ tk' → Q (.ref ta) {s with heap := h', toks := tk'}) : wpAny (model prog w) (At0 dp un (some outer) gd) (call (.ref 238) [.ref W.wa, .str o.name ts, .ref al]) Q E s := by
  revert G hd hW hF hf0 hS hU hal hal' hD hkp hQ1 hQ2
  revert prog w dp un gd s h₀ p lo mean mg mb Q E W D N o sa sd al num s1 s2 s3 s4 ts ua ud dd nu u1 u2 u3 u4 u5 u6 u7 u8 u9 n outer vs res
  walk_at "9c"
  intro prog w dp un gd s h₀ p lo mean mg mb Q E W D
  clear_value prog w dp un gd s h₀ p lo mean mg mb Q E W D
  walk_at "9c"
  intro N o sa sd al num s1 s2 s3 s4 ts ua ud dd nu u1
  clear_value N o sa sd al num s1 s2 s3 s4 ts ua ud dd nu u1
  walk_at "9i"
  intro u2 u3 u4 u5 u6 u7 u8 u9
  clear_value u2 u3 u4 u5 u6 u7 u8 u9
  walk_at "9f"
  intro n outer vs res
  clear_value n outer vs res
  walk_at "in"
  walk_at "9d"
  have xwa := hW.wa.1
  have ywa := hW.wa.2
  have xwd := hW.wd.1
  have ywd := hW.wd.2
  have xob := hW.ob.1
  have yob := hW.ob.2
  have xod := hW.od.1
  have yod := hW.od.2
  have xce := hW.ce.1
  have yce := hW.ce.2
  have xcd := hW.cd.1
  have ycd := hW.cd.2
  have xfd := hW.fd.1
  have yfd := hW.fd.2
  have xnd := hW.nd
  have xrl := hW.rl
  have hne := hW.ne
  have hk := hW.hk
  have hfk := hW.hf
  have hnm := hW.nm
  have hfm := hW.fm
  have hlr := hW.lr
  have hlk := hW.lk
  have hv := hS.1
  have xsa := hS.2.1.1
  have ysa := hS.2.1.2
  have xsd := hS.2.2.1.1
  have ysd := hS.2.2.1.2
  have hf := hU.1
  have xua := hU.2.1.1
  have yua := hU.2.1.2
  have xud := hU.2.2.1.1
  have yud := hU.2.2.1.2
  have hnn : (o.name != o.name) = false := by simp
  walk_at "9n"
  walk_at "9p"
  have L6 : Led h₀ s.heap [(W.wa, instObj 737 W.wd), (W.wd, worldD w.params W.t3 W.t4 W.t5 W.t6 W.t7 W.t8 W.t9 W.t10 W.ob W.ce W.va W.ba), (W.ce, instObj 492 W.cd), (W.cd, cellsD w.params W.t11 W.t12 W.fd W.pd), (ua, instObj 166 ud), (ud, subrD w.params u1 u2 u3 u4 u5 u6 u7 u8 u9 nu o.name dd)] := (fa1 ⟨xwa.1, xwa.2.1⟩ (fa1 ⟨xwd.1, xwd.2.1⟩ (fa1 ⟨xce.1, xce.2.1⟩ (fa1 ⟨xcd.1, xcd.2.1⟩ (fa1 ⟨xua.1, xua.2.1⟩ (fa1 ⟨xud.1, xud.2.1⟩ fa0))))))
  have hnf : ∀ b ∈ [W.wa, W.wd, W.ce, W.cd, ua, ud], b ∉ frs outer := (fa1 xwa.2.2 (fa1 xwd.2.2 (fa1 xce.2.2 (fa1 xcd.2.2 (fa1 xua.2.2 (fa1 xud.2.2 fa0))))))
  have LL : Led h₀ s.heap ((W.wa, instObj 737 W.wd) :: (W.wd, worldD w.params W.t3 W.t4 W.t5 W.t6 W.t7 W.t8 W.t9 W.t10 W.ob W.ce W.va W.ba) :: (W.ce, instObj 492 W.cd) :: (W.cd, cellsD w.params W.t11 W.t12 W.fd W.pd) :: (ua, instObj 166 ud) :: (ud, subrD w.params u1 u2 u3 u4 u5 u6 u7 u8 u9 nu o.name dd) :: frl s.heap outer) := led_app (a := [(W.wa, instObj 737 W.wd), (W.wd, worldD w.params W.t3 W.t4 W.t5 W.t6 W.t7 W.t8 W.t9 W.t10 W.ob W.ce W.va W.ba), (W.ce, instObj 492 W.cd), (W.cd, cellsD w.params W.t11 W.t12 W.fd W.pd), (ua, instObj 166 ud), (ud, subrD w.params u1 u2 u3 u4 u5 u6 u7 u8 u9 nu o.name dd)]) L6 (frl_led hF hf0)
  have hT : ∀ p ∈ frl s.heap outer, p ∈ ((W.wa, instObj 737 W.wd) :: (W.wd, worldD w.params W.t3 W.t4 W.t5 W.t6 W.t7 W.t8 W.t9 W.t10 W.ob W.ce W.va W.ba) :: (W.ce, instObj 492 W.cd) :: (W.cd, cellsD w.params W.t11 W.t12 W.fd W.pd) :: (ua, instObj 166 ud) :: (ud, subrD w.params u1 u2 u3 u4 u5 u6 u7 u8 u9 nu o.name dd) :: frl s.heap outer) := fun p hp => List.mem_append_right [(W.wa, instObj 737 W.wd), (W.wd, worldD w.params W.t3 W.t4 W.t5 W.t6 W.t7 W.t8 W.t9 W.t10 W.ob W.ce W.va W.ba), (W.ce, instObj 492 W.cd), (W.cd, cellsD w.params W.t11 W.t12 W.fd W.pd), (ua, instObj 166 ud), (ud, subrD w.params u1 u2 u3 u4 u5 u6 u7 u8 u9 nu o.name dd)] hp
  have hS6 : ∀ p ∈ [(W.wa, instObj 737 W.wd), (W.wd, worldD w.params W.t3 W.t4 W.t5 W.t6 W.t7 W.t8 W.t9 W.t10 W.ob W.ce W.va W.ba), (W.ce, instObj 492 W.cd), (W.cd, cellsD w.params W.t11 W.t12 W.fd W.pd), (ua, instObj 166 ud), (ud, subrD w.params u1 u2 u3 u4 u5 u6 u7 u8 u9 nu o.name dd)], p ∈ ((W.wa, instObj 737 W.wd) :: (W.wd, worldD w.params W.t3 W.t4 W.t5 W.t6 W.t7 W.t8 W.t9 W.t10 W.ob W.ce W.va W.ba) :: (W.ce, instObj 492 W.cd) :: (W.cd, cellsD w.params W.t11 W.t12 W.fd W.pd) :: (ua, instObj 166 ud) :: (ud, subrD w.params u1 u2 u3 u4 u5 u6 u7 u8 u9 nu o.name dd) :: frl s.heap outer) := fun p hp => List.mem_append_left (frl s.heap outer) hp
  refine' enterM2 (M := [W.wa, W.wd, W.ce, W.cd, ua, ud] ++ frs outer) (binds := [(Str.ofString "world", .ref W.wa), (Str.ofString "name", .str o.name ts), (Str.ofString "arguments", .ref al)]) ?hM G LL ?ho ?hcd ?hr ?hb ?hl ?_ ?c1 ?c2 ?c3 ?c4
  (case hM => intro p hp; rcases List.mem_append.mp (show p ∈ [(W.wa, instObj 737 W.wd), (W.wd, worldD w.params W.t3 W.t4 W.t5 W.t6 W.t7 W.t8 W.t9 W.t10 W.ob W.ce W.va W.ba), (W.ce, instObj 492 W.cd), (W.cd, cellsD w.params W.t11 W.t12 W.fd W.pd), (ua, instObj 166 ud), (ud, subrD w.params u1 u2 u3 u4 u5 u6 u7 u8 u9 nu o.name dd)] ++ frl s.heap outer from hp) with hp | hp; (exact List.mem_append_left _ (by simp only [mem_cons, not_mem_nil, or_false] at hp ⊢; rcases hp with rfl | rfl | rfl | rfl | rfl | rfl <;> simp)); exact List.mem_append_right _ (frl_mem hp))
  walk_at "m_rest"
  have hst := base_of G LL kb
  have hag := kb al _ (fun q => by
    obtain ⟨p, hp, e9⟩ := List.mem_map.mp q
    rcases List.mem_append.mp (show p ∈ [(W.wa, instObj 737 W.wd), (W.wd, worldD w.params W.t3 W.t4 W.t5 W.t6 W.t7 W.t8 W.t9 W.t10 W.ob W.ce W.va W.ba), (W.ce, instObj 492 W.cd), (W.cd, cellsD w.params W.t11 W.t12 W.fd W.pd), (ua, instObj 166 ud), (ud, subrD w.params u1 u2 u3 u4 u5 u6 u7 u8 u9 nu o.name dd)] ++ frl s.heap outer from hp) with hp | hp
    · exact ne_led L6 (fa1 nI (fa1 nD (fa1 nI (fa1 nD (fa1 nI (fa1 nD fa0)))))) hal hp e9
    · exact hal' ((show p.1 = al from e9) ▸ frl_mem hp)) hal
  clear hal
  k_steps
  walk_at "9b"
  walk_at "9a"
  refine c_symbol_hit (Gd.of2 G hst kF) (by walk_at "m_room") (led_of LW kb kF kN (fun p hp => (LL p hp).1) (fun p hp => hp)) hk hnm hv ?_
  intro h' tk' kc tkc
  walk_at "9aA"
  clear kF kN
  k_steps
  walk_at "9b"
  walk_at "9a"
  refine c_function_of (Gd.of2 G hst kF) (by walk_at "m_room") (led_of LG kb kF kN (fun p hp => (LL p hp).1) (fun p hp => hp)) hfk hfm hf ?_
  intro h' tk' kc tkc
  walk_at "9as"
  clear kF kN
  k_steps
  walk_at "9b"
  walk_at "9a"
  refine hD _ _ _ _ _ _ _ _ _ _ _ _ _ _ _ _ _ (Gd.of kF (by k_asm) (by k_asm)) (by walk_at "m_room") (FF.push2 (FF.ofNews hF kN hT) kF) (Fr.keep kF _ _ hag) ?_ ?_
  · intro v a h' tk' hr hva htn kc htk
    walk_at "9aA"
    clear kF kN
    k_steps
    rename (W.wa < _) ∧ _ => hl1
    walk_at "9h"
    intro kk ll ht
    have kz : Kept [] s.heap _ := Kept.of_left kk ll LL (fun p hp => .tail _ hp) (fun a ha => .inr (by
      rcases List.mem_append.mp ha with q | q
      · exact List.mem_append_left (bs := List.map (·.1) (frl s.heap outer)) q
      · obtain ⟨o, -, hm⟩ := frl_has hF q
        exact List.mem_map.mpr ⟨_, hT _ hm, rfl⟩))
    have frD := (ll _ (.head _)).2.resolve_left (fun q => by
      rcases List.mem_append.mp q with q | q
      · exact (na1 (Nat.ne_of_gt hl1.1) (na1 (Nat.ne_of_gt hl1.2.1) (na1 (Nat.ne_of_gt hl1.2.2.1) (na1 (Nat.ne_of_gt hl1.2.2.2.1) (na1 (Nat.ne_of_gt hl1.2.2.2.2.1) (na1 (Nat.ne_of_gt hl1.2.2.2.2.2.1) na0)))))) q
      · obtain ⟨o, -, hm⟩ := frl_has hF q
        exact absurd (allLt_mem hl1.2.2.2.2.2.2 hm) (Nat.lt_irrefl _))
    exact hQ2 _ _ _ _ _ _ hr hva (htn.mono (by walk_at "m_tok") (by walk_at "m_tok")) kz frD (ll _ (.head _)).1 ht
  · intro e h' tk' hr fl htk
    refine caught_my fl kF ?_ rfl (by k_asm) (by k_asm) ?_ (by k_is) (by kernel_rfl)
    · intro b hb
      obtain ⟨o, -, hm⟩ := frl_has hF hb
      exact (kN _ (hT _ hm)).2.2
    · intro h2 F2 hu hk
      have N2 := news_caught (n1 := [(W.wa, instObj 737 W.wd), (W.wd, worldD w.params W.t3 W.t4 W.t5 W.t6 W.t7 W.t8 W.t9 W.t10 W.ob W.ce W.va W.ba), (W.ce, instObj 492 W.cd), (W.cd, cellsD w.params W.t11 W.t12 W.fd W.pd), (ua, instObj 166 ud), (ud, subrD w.params u1 u2 u3 u4 u5 u6 u7 u8 u9 nu o.name dd)]) kN hk (fun p hp => List.mem_append_left (bs := frl s.heap outer) hp) (fa1 (hnf _ (by k_mem)) (fa1 (hnf _ (by k_mem)) (fa1 (hnf _ (by k_mem)) (fa1 (hnf _ (by k_mem)) (fa1 (hnf _ (by k_mem)) (fa1 (hnf _ (by k_mem)) fa0))))))
      have hu2 : s.heap.UpToSlots h2 := fun b oo e n => hu b oo (by
        by_cases z : b ∈ List.map (·.1) ((W.wa, instObj 737 W.wd) :: (W.wd, worldD w.params W.t3 W.t4 W.t5 W.t6 W.t7 W.t8 W.t9 W.t10 W.ob W.ce W.va W.ba) :: (W.ce, instObj 492 W.cd) :: (W.cd, cellsD w.params W.t11 W.t12 W.fd W.pd) :: (ua, instObj 166 ud) :: (ud, subrD w.params u1 u2 u3 u4 u5 u6 u7 u8 u9 nu o.name dd) :: frl s.heap outer)
        · obtain ⟨p, hp, rfl⟩ := List.mem_map.mp z
          have q := (LL p hp).1
          rw [e] at q
          rw [Option.some.inj q]
          exact (kN p hp).1
        · exact kF.keep b oo (kb b oo z e)) n
      clear kF kN
      k_steps
      walk_at "9h"
      intro kk ll ht
      refine hQ1 _ _ hr (Kept.of_left kk ll L6 (fun p hp => hp) (fun a ha => ?_)) ?_ ht
      · rcases List.mem_append.mp ha with q | q
        · exact .inr q
        · exact .inl q
      · exact FrU.slots hF hu2
theorem zg_td : True := trivial
theorem HZ.kept {h₀ h h' : Heap} {fs M : List Addr} (k : Kept M h h') {b : Addr} {x : Obj} (hb : b ∉ M) (z : HZ h₀ h fs b x) : HZ h₀ h' fs b x := ⟨k _ _ hb z.1, z.2⟩
theorem told_args2 {o : Op} (hm : o.many = 2) {vs : List Value} {as : List At} (h : AtsV vs as) (q : as.length = o.many) : ∃ v1 v2 a1 a2, vs = [v1, v2] ∧ as = [a1, a2] ∧ AtV v1 a1 ∧ AtV v2 a2 := by
  rw [hm] at q
  obtain ⟨a1, a2, rfl⟩ : ∃ a b, as = [a, b] := by
    rcases as with _ | ⟨a, _ | ⟨b, _ | ⟨c, r⟩⟩⟩
    · cases q
    · cases q
    · exact ⟨a, b, rfl⟩
    · cases q
  cases vs with
  | nil => exact h.elim
  | cons v1 r =>
    cases r with
    | nil => exact h.2.elim
    | cons v2 r =>
      cases r with
      | nil => exact ⟨v1, v2, a1, a2, rfl, rfl, h.1, h.2.1⟩
      | cons _ _ => exact h.2.2.elim
theorem told_args1 {o : Op} (hm : o.many = 1) {vs : List Value} {as : List At} (h : AtsV vs as) (q : as.length = o.many) : ∃ v1 a1, vs = [v1] ∧ as = [a1] ∧ AtV v1 a1 := by
  rw [hm] at q
  obtain ⟨a1, rfl⟩ := List.length_eq_one_iff.mp q
  cases vs with
  | nil => exact h.elim
  | cons v1 r =>
    cases r with
    | nil => exact ⟨v1, a1, rfl, rfl, h.1⟩
    | cons _ _ => exact h.2.elim
theorem deed_of {w : World} {o : Op} {dd : Addr} (ho : o.deed = some dd) {vs : List Value} {as : List At} (h : AtsV vs as) (hl : as.length = o.many) (hb : Bd 30000 as) : Deed w dd vs (told o as) := by
  rcases o.many_cases with hm | hm
  · obtain ⟨v1, a1, rfl, rfl, h1⟩ := told_args1 hm h hl
    exact deed_one ho hm h1 hb
  · obtain ⟨v1, v2, a1, a2, rfl, rfl, h1, h2⟩ := told_args2 hm h hl
    exact deed_two ho hm h1 h2 hb
theorem deed_keep {w : World} {o : Op} {dd : Addr} (ho : o.deed = some dd) : keepIn (K w.params) (.ref dd) = true := by
  cases o <;> cases ho <;> kernel_rfl
theorem told_nodeed {o : Op} (ho : o.deed = none) (as : List At) : told o as = none := by
  cases o <;> first | (cases ho; done) | skip
  all_goals (match as with
    | [] => rfl
    | [a] => cases a <;> rfl
    | [a, b] => cases a <;> cases b <;> rfl
    | a :: b :: c :: r => rfl)
theorem c_told {W : WA} {D : WD} {N : Nat} {o : Op} {al : Addr} {ts : Tok} {n : Nat} {outer : List Env} {vs : List Value} {as : List At} (G : Gd w p lo mean mg mb h₀ s) (hd : dp + 14 < recursionLimit) (hW : WPd prog w (HZ h₀ s.heap (frs outer)) W D N) (hN : N ≤ 900) (hp : o.pure = true)
   (hF : FF s.heap outer) (hf0 : ∀ b ∈ frs outer, h₀.get? b = none) (hal : s.heap.get? al = some (listOf vs.toArray n)) (hal' : al ∉ frs outer) (hvs : AtsV vs as) (hl : as.length = o.many) (hb : Bd 30000 as)
   (hQ1 : ∀ D' h' tk', told o as = none → WPd prog w (HZ h₀ h' (frs outer)) W D' (N + 1) → Kept (W.nd :: W.rl :: frs outer) s.heap h' → FrU (frs outer) s.heap h' → s.toks ≤ tk' → Q .none {s with heap := h', toks := tk'})
   (hQ2 : ∀ ta a v n' h' tk', told o as = some a → AtV v a → TokNew s.toks tk' vs v → Kept [] s.heap h' → s.heap.get? ta = none → h'.get? ta = some ⟨.type "tuple", none, .seq #[v] n', #[]⟩ → s.toks ≤ tk' → Q (.ref ta) {s with heap := h', toks := tk'}) :
   wpAny (model prog w) (At0 dp un (some outer) gd) (call (.ref 238) [.ref W.wa, .str o.name ts, .ref al]) Q E s := by
  have same : ∀ (M : List Addr) h' tk', (∀ b ∈ M, b ∈ frs outer) → told o as = none → Kept M s.heap h' → FrU (frs outer) s.heap h' → s.toks ≤ tk' → Q .none {s with heap := h', toks := tk'} := fun M h' tk' hM ht k u t =>
    hQ1 D h' tk' ht ((hW.mono fun b x z => z.kept k fun q => z.2.2 (hM b q)).le (Nat.le_succ _)) (k.mono fun b q => .tail _ (.tail _ (hM b q))) u t
  rcases hW.sy o hp with ⟨sa, sd, num, s1, s2, s3, s4, hS⟩ | ⟨hdd, hv⟩
  · have hFn := hS.2.2.2
    cases ho : o.deed with
    | some dd =>
      unfold FnD at hFn
      rw [ho] at hFn
      obtain ⟨ua, ud, nu, u1, u2, u3, u4, u5, u6, u7, u8, u9, e1, e2, e3⟩ := hFn
      exact c_told_run G hd hW hF hf0 hS ⟨e1, e2, e3, trivial⟩ hal hal' (deed_of ho hvs hl hb) (deed_keep ho) (fun h' tk' a b c d => same _ h' tk' (fun _ q => q) a b c d) hQ2
    | none =>
      unfold FnD at hFn
      rw [ho] at hFn
      have fin : ∀ h' tk', Kept [] s.heap h' → s.toks ≤ tk' → Q .none {s with heap := h', toks := tk'} := fun h' tk' k t => same [] h' tk' (fun _ q => nomatch q) (told_nodeed ho as) k (FrU.kept0 k) t
      rcases hFn with hf | ⟨nm, dd, ⟨ua, ud, nu, u1, u2, u3, u4, u5, u6, u7, u8, u9, e1, e2, e3⟩, e4⟩
      · exact c_told_none G hd hW hS hf fin
      · exact c_told_other G hd hW hS ⟨e1, e2, e3, e4⟩ fin
  · refine c_told_new G hd hW hv hN fun x d t1 t2 tn n' no' h' tk' k nx nd hrl hnd hno hx hd' ht => ?_
    have fx : ∀ y, s.heap.get? y = none → h₀.get? y = none ∧ y ∉ frs outer := fun y e => by
      refine ⟨none_base G.st e, fun q => ?_⟩
      obtain ⟨o', e', -⟩ := hF.mem q
      rw [e] at e'; cases e'
    have ny : ∀ y, s.heap.get? y = none → y ≠ W.nd ∧ y ≠ W.rl := fun y e => ⟨fun q => (by rw [q, hW.nd.1] at e; cases e), fun q => (by rw [q, hW.rl.1] at e; cases e)⟩
    have S := hW.sym_new (H' := HZ h₀ h' (frs outer)) (fun b x h1 h2 z => z.kept k fun q => by
      walk_at "9ay"
      exact q.elim h1 h2) hdd hv ⟨hnd, hW.nd.2⟩ ⟨hrl, hW.rl.2⟩ hno ⟨hx, fx x nx⟩ ⟨hd', fx d nd⟩ (ny x nx) (ny d nd)
    exact hQ1 _ h' tk' (told_nodeed hdd as) S.1 (k.mono fun b q => by
      simp only [mem_cons, not_mem_nil, or_false] at q ⊢
      rcases q with q | q
      · exact .inl q
      · exact .inr (.inl q)) (FrU.kept k fun b hb q => by
      walk_at "9ay"
      rcases q with rfl | rfl
      · exact hW.nd.2.2 hb
      · exact hW.rl.2.2 hb) ht
theorem zg_tdu : True := trivial
theorem c_pure (G : Gd w p lo mean mg mb h₀ s) (hd : dp + 2 < recursionLimit)
   (hQ : ∀ pl vs n h' tk', Kept [] s.heap h' → s.heap.get? pl = none → h'.get? pl = some (listOf vs.toArray n) → StrsAre vs pureStrs → s.toks ≤ tk' → Q (.ref pl) {s with heap := h', toks := tk'}) : wpAny (model prog w) (At0 dp un fr gd) (call (.ref 81) []) Q E s := by
  walk_at "9d"
  refine' enterM (binds := []) G Led.nil ?ho ?hcd ?hr ?hb ?hl ?_ ?c1 ?c2 ?c3 ?c4
  walk_at "m_rest"
  k_steps
  walk_at "m_end"
  intro kk ll ht
  refine hQ _ _ _ _ _ kk ((ll _ (.head _)).2.resolve_left (fun q => nomatch q)) (ll _ (.head _)).1 ?_ ht
  kde_strs
theorem zg_pure : True := trivial
theorem dip_lt {x many : Int} (h : 0 < many) : ∃ r : Nat, x.fmod many = (r : Int) ∧ (r : Int) < many := by
  have h1 : 0 ≤ x.fmod many := Int.fmod_nonneg_of_pos _ h
  have h2 : x.fmod many < many := Int.fmod_lt_of_pos _ h
  exact ⟨(x.fmod many).toNat, by walk_at "om", by walk_at "om"⟩
def c_law_dip.zS (pa cl : Addr) (cvs : List Value) (cells : List Int) (at9 seed many : Int) (t1 t2 tm : Tok) (n n2 : Nat) : Prop := ∀  (G : Gd w p lo mean mg mb h₀ s) (hd : dp + 4 < recursionLimit) (hpa : s.heap.get? pa = some (listOf #[.ref cl, .int at9 t1, .int seed t2] n)) (hcl : s.heap.get? cl = some (listOf cvs.toArray n2)) (h0 : h₀.get? pa = none ∧ h₀.get? cl = none) (hI : IntsAre cvs cells) (hc : ∀ c ∈ cells, 0 ≤ c) (hcn : cells.length ≤ 48) (ha : 0 ≤ at9) (ha2 : at9 ≤ 10000) (hs : 0 ≤ seed) (hs2 : seed ≤ 100000) (hm : 0 < many) (hm2 : many ≤ 20) (hne : cl ≠ pa) (hQ : ∀ (r : Nat) t1' t2' t3' seed' n' h' tk', (r : Int) < many → 0 ≤ seed' → seed' ≤ 100000 → Kept [pa] s.heap h' → h'.get? pa = some (listOf #[.ref cl, .int (at9 + 1) t1', .int seed' t2'] n') → s.toks ≤ tk' → Q (.int r t3') {s with heap := h', toks := tk'}), wpAny (model prog w) (At0 dp un fr gd) (call (.ref 753) [.ref pa, .int many tm]) Q E s
end
noncomputable section
namespace c_law_dip
def zP (c : Program × World × Nat × Nat × (Option (List Env)) × (Option (List Code)) × Shared × Heap × Program × (List Str) × (ExcName → Option Value) × (Str → Option Value) × (Str → Option Value) × (Value → Shared → Prop) × (Value → Shared → Prop) × Addr × Addr × (List Value) × (List Int) × Int × Int × Int × Tok × Tok × Tok × Nat × Nat) : Prop := @zS c.1 c.2.1 c.2.2.1 c.2.2.2.1 (d4 c).1 (d4 c).2.1 (d4 c).2.2.1 (d4 c).2.2.2.1 (d4 (d4 c)).1 (d4 (d4 c)).2.1 (d4 (d4 c)).2.2.1 (d4 (d4 c)).2.2.2.1 (d4 (d4 (d4 c))).1 (d4 (d4 (d4 c))).2.1 (d4 (d4 (d4 c))).2.2.1 (d4 (d4 (d4 c))).2.2.2.1 (d16 c).1 (d16 c).2.1 (d16 c).2.2.1 (d16 c).2.2.2.1 (d4 (d16 c)).1 (d4 (d16 c)).2.1 (d4 (d16 c)).2.2.1 (d4 (d16 c)).2.2.2.1 (d4 (d4 (d16 c))).1 (d4 (d4 (d16 c))).2.1 (d4 (d4 (d16 c))).2.2
@[irreducible] def zk := Classical.choice (ep_ne (by walk_at "df") zP)
@[irreducible] def prog := zk.1.1
@[irreducible] def w := zk.1.2.1
@[irreducible] def dp := zk.1.2.2.1
@[irreducible] def un := zk.1.2.2.2.1
@[irreducible] def fr := (d4 zk.1).1
@[irreducible] def gd := (d4 zk.1).2.1
@[irreducible] def s := (d4 zk.1).2.2.1
@[irreducible] def h₀ := (d4 zk.1).2.2.2.1
@[irreducible] def p := (d4 (d4 zk.1)).1
@[irreducible] def lo := (d4 (d4 zk.1)).2.1
@[irreducible] def mean := (d4 (d4 zk.1)).2.2.1
@[irreducible] def mg := (d4 (d4 zk.1)).2.2.2.1
@[irreducible] def mb := (d4 (d4 (d4 zk.1))).1
@[irreducible] def Q := (d4 (d4 (d4 zk.1))).2.1
@[irreducible] def E := (d4 (d4 (d4 zk.1))).2.2.1
@[irreducible] def pa := (d4 (d4 (d4 zk.1))).2.2.2.1
@[irreducible] def cl := (d16 zk.1).1
@[irreducible] def cvs := (d16 zk.1).2.1
@[irreducible] def cells := (d16 zk.1).2.2.1
@[irreducible] def at9 := (d16 zk.1).2.2.2.1
@[irreducible] def seed := (d4 (d16 zk.1)).1
@[irreducible] def many := (d4 (d16 zk.1)).2.1
@[irreducible] def t1 := (d4 (d16 zk.1)).2.2.1
@[irreducible] def t2 := (d4 (d16 zk.1)).2.2.2.1
@[irreducible] def tm := (d4 (d4 (d16 zk.1))).1
@[irreducible] def n := (d4 (d4 (d16 zk.1))).2.1
@[irreducible] def n2 := (d4 (d4 (d16 zk.1))).2.2
theorem zt0 : @zS prog w dp un fr gd s h₀ p lo mean mg mb Q E pa cl cvs cells at9 seed many t1 t2 tm n n2 := by
  unfold zS
  intro G hd hpa hcl h0 hI hc hcn ha ha2 hs hs2 hm hm2 hne hQ
  walk_at "9d"
  have LL : Led h₀ s.heap [(pa, listOf #[.ref cl, .int at9 t1, .int seed t2] n), (cl, listOf cvs.toArray n2)] := fun p hp => by
    walk_at "9ac"
    rcases hp with rfl | rfl
    · exact ⟨hpa, h0.1⟩
    · exact ⟨hcl, h0.2⟩
  refine' enterM2 (M := [pa, cl]) (binds := [(Str.ofString "pot", .ref pa), (Str.ofString "many", .int many tm)]) ?hM G LL ?ho ?hcd ?hr ?hb ?hl ?_ ?c1 ?c2 ?c3 ?c4
  (case hM => intro p hp; simp only [mem_cons, not_mem_nil, or_false] at hp ⊢; rcases hp with rfl | rfl <;> simp)
  walk_at "m_rest"
  k_steps
  all_goals show EnterEnd _ _ _ _ _
  all_goals refine endM (by with_reducible assumption) (by k_asm) (by k_asm) ?_
  all_goals intro kk ll ht
  all_goals have kz : Kept [pa] s.heap _ := kk.drop (fun b hb => by
    walk_at "9aP"
    rcases hb with rfl | rfl
    · exact .inl rfl
    · exact .inr ⟨_, hcl, (ll _ Z1).1⟩)
  · obtain ⟨r, hr, hr2⟩ := dip_lt (x := cells.getD at9.toNat 0) (many := many) hm
    rw [hr]
    exact hQ r _ _ _ seed _ _ _ hr2 hs hs2 kz (ll _ (.head _)).1 ht
  · obtain ⟨r, hr, hr2⟩ := dip_lt (x := (seed * 75 + 74).fmod 65537) (many := many) hm
    rw [hr]
    have h1 : 0 ≤ (seed * 75 + 74).fmod 65537 := Int.fmod_nonneg_of_pos _ (by decide)
    have h2 : (seed * 75 + 74).fmod 65537 < 65537 := Int.fmod_lt_of_pos _ (by decide)
    exact hQ r _ _ _ _ _ _ _ hr2 h1 (by walk_at "om") kz (ll _ (.head _)).1 ht
end c_law_dip
end
section
variable {prog : Program} {w : World} {dp un : Nat} {fr : Option (List Env)} {gd : Option (List Code)} {s : Shared} {h₀ : Heap} {p : Program} {lo : List Str} {mean : ExcName → Option Value} {mg mb : Str → Option Value} {Q E : Value → Shared → Prop}
theorem c_law_dip {pa cl : Addr} {cvs : List Value} {cells : List Int} {at9 seed many : Int} {t1 t2 tm : Tok} {n n2 : Nat} : @c_law_dip.zS prog w dp un fr gd s h₀ p lo mean mg mb Q E pa cl cvs cells at9 seed many t1 t2 tm n n2 := by with_unfolding_all exact @ep_get _ _ c_law_dip.zk (@c_law_dip.zt0) (prog, w, dp, un, fr, gd, s, h₀, p, lo, mean, mg, mb, Q, E, pa, cl, cvs, cells, at9, seed, many, t1, t2, tm, n, n2)
def c_law_pot.zS (sl : Addr) (vs : List Value) (ns : List Int) : Prop := ∀  (G : Gd w p lo mean mg mb h₀ s) (hd : dp + 6 < recursionLimit) (hl : h₀.IsList sl vs.toArray) (hI : IntsAre vs ns) (hn : ns.length ≤ 63) (hQ : ∀ pa cl cvs cells t1 t2 seed n1 n2 h' tk', Kept [] s.heap h' → s.heap.get? pa = none → s.heap.get? cl = none → pa ≠ cl → h'.get? pa = some (listOf #[.ref cl, .int 0 t1, .int seed t2] n1) → h'.get? cl = some (listOf cvs.toArray n2) → IntsAre cvs cells → (∀ c ∈ cells, 0 ≤ c) → cells.length ≤ 48 → 0 ≤ seed → seed ≤ 100000 → s.toks ≤ tk' → Q (.ref pa) {s with heap := h', toks := tk'}), wpAny (model prog w) (At0 dp un fr gd) (call (.ref 746) [.ref sl]) Q E s
end
noncomputable section
namespace c_law_pot
def zP (c : Program × World × Nat × Nat × (Option (List Env)) × (Option (List Code)) × Shared × Heap × Program × (List Str) × (ExcName → Option Value) × (Str → Option Value) × (Str → Option Value) × (Value → Shared → Prop) × (Value → Shared → Prop) × Addr × (List Value) × (List Int)) : Prop := @zS c.1 c.2.1 c.2.2.1 c.2.2.2.1 (d4 c).1 (d4 c).2.1 (d4 c).2.2.1 (d4 c).2.2.2.1 (d4 (d4 c)).1 (d4 (d4 c)).2.1 (d4 (d4 c)).2.2.1 (d4 (d4 c)).2.2.2.1 (d4 (d4 (d4 c))).1 (d4 (d4 (d4 c))).2.1 (d4 (d4 (d4 c))).2.2.1 (d4 (d4 (d4 c))).2.2.2.1 (d16 c).1 (d16 c).2
@[irreducible] def zk := Classical.choice (ep_ne (by walk_at "df") zP)
@[irreducible] def prog := zk.1.1
@[irreducible] def w := zk.1.2.1
@[irreducible] def dp := zk.1.2.2.1
@[irreducible] def un := zk.1.2.2.2.1
@[irreducible] def fr := (d4 zk.1).1
@[irreducible] def gd := (d4 zk.1).2.1
@[irreducible] def s := (d4 zk.1).2.2.1
@[irreducible] def h₀ := (d4 zk.1).2.2.2.1
@[irreducible] def p := (d4 (d4 zk.1)).1
@[irreducible] def lo := (d4 (d4 zk.1)).2.1
@[irreducible] def mean := (d4 (d4 zk.1)).2.2.1
@[irreducible] def mg := (d4 (d4 zk.1)).2.2.2.1
@[irreducible] def mb := (d4 (d4 (d4 zk.1))).1
@[irreducible] def Q := (d4 (d4 (d4 zk.1))).2.1
@[irreducible] def E := (d4 (d4 (d4 zk.1))).2.2.1
@[irreducible] def sl := (d4 (d4 (d4 zk.1))).2.2.2.1
@[irreducible] def vs := (d16 zk.1).1
@[irreducible] def ns := (d16 zk.1).2
theorem zt0 : @zS prog w dp un fr gd s h₀ p lo mean mg mb Q E sl vs ns := by
  unfold zS
  intro G hd hl hI hn hQ
  walk_at "9d"
  refine' enterM (binds := [(Str.ofString "script", .ref sl)]) G Led.nil ?ho ?hcd ?hr ?hb ?hl ?_ ?c1 ?c2 ?c3 ?c4
  walk_at "m_rest"
  have hl' := hl.at (h' := _) (base_of G Led.nil kb _)
  k_steps
  have nn : ∀ c ∈ List.map (fun k' : Int => (if k' < 0 then -k' else k').fmod 1000003) (List.take 48 ns), 0 ≤ c := fun c h => by
    obtain ⟨x, _, rfl⟩ := List.mem_map.mp h
    exact Int.fmod_nonneg_of_pos _ (by decide)
  have s1 : ∀ x : Int, 0 ≤ x.fmod 65519 ∧ x.fmod 65519 < 65519 := fun x => ⟨Int.fmod_nonneg_of_pos _ (by decide), Int.fmod_lt_of_pos _ (by decide)⟩
  show EnterEnd _ _ _ _ _
  walk_at "9h"
  intro kk ll ht
  rename (_ < _) ∧ _ => hl1
  refine hQ _ _ ys _ _ _ _ _ _ _ _ kk ((ll _ (.head _)).2.resolve_left (fun q => nomatch q)) ((ll _ Z1).2.resolve_left (fun q => nomatch q)) (Nat.ne_of_gt hl1.1) (ll _ (.head _)).1 (ll _ Z1).1 (by assumption) nn ?_ ?_ ?_ ht
  · rw [List.length_map, List.length_take]; walk_at "om"
  · have := (s1 (List.map (fun k' : Int => (if k' < 0 then -k' else k').fmod 1000003) (List.take 48 ns)).sum).1; walk_at "om"
  · have := (s1 (List.map (fun k' : Int => (if k' < 0 then -k' else k').fmod 1000003) (List.take 48 ns)).sum).2; walk_at "om"
end c_law_pot
end
section
variable {prog : Program} {w : World} {dp un : Nat} {fr : Option (List Env)} {gd : Option (List Code)} {s : Shared} {h₀ : Heap} {p : Program} {lo : List Str} {mean : ExcName → Option Value} {mg mb : Str → Option Value} {Q E : Value → Shared → Prop}
theorem c_law_pot {sl : Addr} {vs : List Value} {ns : List Int} : @c_law_pot.zS prog w dp un fr gd s h₀ p lo mean mg mb Q E sl vs ns := by with_unfolding_all exact @ep_get _ _ c_law_pot.zk (@c_law_pot.zt0) (prog, w, dp, un, fr, gd, s, h₀, p, lo, mean, mg, mb, Q, E, sl, vs, ns)
theorem zg_pot : True := trivial
theorem zrr25 : True := by
  k_with "@execs cons" => ((fail_if_success have := zgg_fold); (k_here; with_reducible refine toks_gen0 ?_; intro tk9 htk9'; (try dsimp only at htk9'); (with_reducible refine wpAny_execs_cons ?_); (try dsimp only)))
  k_with "@execs nil" => ((fail_if_success have := zgg_fold); (k_here; with_reducible refine toks_gen0 ?_; intro tk9 htk9'; (try dsimp only at htk9'); (refine wpAny_execs_nil ?_)))
  trivial
theorem zrr26 : True := by
  k_with "@subscriptTail" => ((fail_if_success have := zg_fold); (k_here; (fail_if_success (with_reducible show wpAny _ _ (subscriptTail (PySem.Expr.Name _ _) _ _ _) _ _ _)); k_dflt (refine kba_turn (value' := PySem.Expr.Name (PySem.Str.ofString "_") ⟨0, 0, 0, 0⟩) (fun _ => rfl) ?_)))
  k_with "@call ref" => ((fail_if_success have := zg_fold); ((with_reducible show wpAny _ _ (call (Value.ref 81) _) _ _ _); refine c_pure (Gd.of (by k_asm) (by k_asm) (by k_asm)) (by walk_at "m_room") ?_; intro pl pvs pn h9' tk9' kc9 nx e9' hpv tkc9; (with_reducible rename Fr _ _ _ _ => kF9); (with_reducible rename News _ _ _ _ => kN9); (obtain ⟨F9', N09⟩ := after0 kF9 kN9 kc9); have N9' := news_new kF9 nx N09 e9'; (try k_sweep)))
  k_with "@exec For Tuple Name cons nil" => ((fail_if_success have := zg_fold); (k_here; (with_reducible rename Fr _ _ _ _ => lF9'); (with_unfolding_all refine' For_H lF9' ?_; k_whole)))
  k_with "@compareOp In str ref" => ((fail_if_success have := zg_fold); (k_here; (with_reducible show wpAny _ _ (compareOp CmpOp.In (Value.str _ _) (Value.ref _)) _ _ _); (refine' in_list_strs ?k1_96 ?k2_96 ?_; (case k1_96 => exact led_list (by k_asm) (by k_mem)); (case k2_96 => with_reducible assumption)); rw [in_pure]; (with_reducible rename Op.pure _ = _ => hp99); (rw [hp99])))
  k_with "@compareOp Eq str str" => ((fail_if_success have := zg_fold); (k_here; refine eq_str_b (by with_reducible assumption) ?_))
  k_with "@subscriptTail Name Name ref int" => ((fail_if_success have := zg_fold); (k_here; (with_reducible show wpAny _ _ (subscriptTail _ _ (Value.ref 67) (Value.int _ _)) _ _ _); (refine' item_tupR ?k1_98 ?k2_98 ?k3_98 ?_ ?k4_98; (case k1_98 => exact Heap.IsTuple.at (plain_tup (by k_asm)) (fun o e => Fr.keep (by k_asm) _ o e)); (case k2_98 => exact Nat.le_of_ble_eq_true rfl); (case k3_98 => exact plain_get _); (case k4_98 => with_unfolding_all rfl))))
  k_with "@subscriptTail Subscript Constant ref int" => ((fail_if_success have := zg_fold); (k_here; (with_reducible show wpAny _ _ (subscriptTail _ _ (Value.ref _) (Value.int 0 _)) _ _ _); (refine' item_tupR (k := 0) ?k1_99 ?k2_99 ?k3_99 ?_ ?k4_99; (case k1_99 => exact Heap.IsTuple.at (by with_reducible assumption) (fun o e => Fr.keep (by k_asm) _ o e)); (case k2_99 => exact Nat.le_of_ble_eq_true rfl); (case k3_99 => exact rfl); (case k4_99 => with_unfolding_all rfl))))
  k_with "@subscriptTail Name Slice ref ref" => ((fail_if_success have := zg_fold); (k_here; (with_reducible show wpAny _ _ (subscriptTail _ (PySem.Expr.Slice _ _ none _) (Value.ref _) (Value.ref _)) _ _ _); k_dflt (refine' kmk_slice_lit ?F ?N ?l_100 ?p_100 ?q_100 ?e_100 ?_ ?s_100 ?t_100 ?z_100; (case F => k_asm); (case N => k_asm); (case l_100 => exact led_list (by k_asm) (by k_mem)); (case p_100 => kmk_part); (case q_100 => kmk_part); (case e_100 => walk_at "m_slice"); (case s_100 => with_unfolding_all rfl); (case t_100 => kmk_pure); (case z_100 => (rw [sizeLine_eq]; walk_at "m_len2"))); intro D9' h9' F9' N9' l19; (try k_lt l19); (try k_sweep)))
  k_with "@m_slice" => ((fail_if_success have := zg_fold); first | (with_reducible assumption) | (with_unfolding_all exact slice_last1) | (with_unfolding_all exact slice_last2) | (with_unfolding_all exact slice_upto1 (by with_reducible assumption)) | (with_unfolding_all exact slice_upto2 (by with_reducible assumption)))
  k_with "@m_len2" => ((fail_if_success have := zg_fold); (simp only [List.size_toArray, Array.size_push, List.length_append, List.length_cons, List.length_nil, List.concat_eq_append]; walk_at "om"))
  k_with "@call builtin:len" => ((fail_if_success have := zg_fold); (k_here; (with_reducible show wpAny _ _ (call (Value.builtin "len") [Value.ref _]) _ _ _); (refine' len_list ?k1_103 ?k2_103 ?_; (case k1_103 => exact led_list (by k_asm) (by k_mem)); (case k2_103 => (rw [sizeLine_eq]; walk_at "m_len2")); k_whole)))
  trivial
inductive FoldX (prog : Program) (w : World) (h₀ s₀ : Heap) (outer : List Env) (L vl : Addr) (W : WA) (N V : Nat) (lns : List Ln) (cs : List At) (m₀ : Str → Option Value) (i : Nat) (h : Heap) (m : Str → Option Value) (tk : Nat) : Prop
  | mk (fl pl : Addr) (fvs vals pvs : List Value) (fn vn pn : Nat) (D : WD) (hm : ∀ z, z ≠ Str.ofString "word" → z ≠ Str.ofString "operand" → z ≠ Str.ofString "name" → z ≠ Str.ofString "many" → z ≠ Str.ofString "arguments" → z ≠ Str.ofString "value" → m z = if z = Str.ofString "found" then some (.ref fl) else if z = Str.ofString "pure" then some (.ref pl) else m₀ z) (B : FS prog w h₀ s₀ outer L vl W (N + i) (V + i) i fl pl fvs vals pvs fn vn pn D (stAt lns cs i).1 (stAt lns cs i).2 h tk) : FoldX prog w h₀ s₀ outer L vl W N V lns cs m₀ i h m tk
noncomputable def FoldI (prog : Program) (w : World) (h₀ s₀ : Heap) (outer : List Env) (L vl : Addr) (W : WA) (N V : Nat) (lns : List Ln) (cs : List At) (m₀ : Str → Option Value) : HInv := FoldX prog w h₀ s₀ outer L vl W N V lns cs m₀
theorem step_append {st : List Ln × List At} {l : Ln} (hw : (l.word == Str.ofString "plain") = false) : step st l = (st.1 ++ [l], st.2) := by
  cases l with
  | c k => rfl
  | v k => rfl
  | p o => exact absurd (show (Str.ofString "plain" == Str.ofString "plain") = false from hw) (by decide)
theorem step_impure {st : List Ln × List At} {o : Op} (hp : o.pure = false) : step st (.p o) = (st.1 ++ [.p o], st.2) := by unfold Mine.step; simp [hp]
theorem step_none {st : List Ln × List At} {o : Op} (h : (behind st.1 st.2 o.many).bind (told o) = none) : step st (.p o) = (st.1 ++ [.p o], st.2) := by unfold Mine.step; simp [h]
theorem step_some {st : List Ln × List At} {o : Op} {v : At} (hp : o.pure = true) (h : (behind st.1 st.2 o.many).bind (told o) = some v) : step st (.p o) = (st.1.take (st.1.length - o.many) ++ [.c (indexOf st.2 v).1], (indexOf st.2 v).2) := by unfold Mine.step; simp [h, hp]
theorem fold_end {L : Addr} {W : WA} {outer : List Env} {vl : Addr} {s₀ h' : Heap} {N V : Nat} {lns : List Ln} {cs : List At} {m₀ m' : Str → Option Value} {i tk' : Nat} {f : List Ln} {cs' : List At} {fl pl : Addr} {fvs vals pvs : List Value} {fn vn pn : Nat} {D : WD} {l : Ln} (hl : lns[i]? = some l) (hs : step (stAt lns cs i) l = (f, cs'))
    (B : FS prog w h₀ s₀ outer L vl W (N + (i + 1)) (V + (i + 1)) (i + 1) fl pl fvs vals pvs fn vn pn D f cs' h' tk')
    (hm : ∀ z, z ≠ Str.ofString "word" → z ≠ Str.ofString "operand" → z ≠ Str.ofString "name" → z ≠ Str.ofString "many" → z ≠ Str.ofString "arguments" → z ≠ Str.ofString "value" → m' z = if z = Str.ofString "found" then some (.ref fl) else if z = Str.ofString "pure" then some (.ref pl) else m₀ z) :
    FoldI prog w h₀ s₀ outer L vl W N V lns cs m₀ (i + 1) h' m' tk' := by
  refine ⟨fl, pl, fvs, vals, pvs, fn, vn, pn, D, hm, ?_⟩
  rw [stAt_succ hl, hs]
  exact B
def c_folded.zS (la ca cd vl : Addr) (vs vals₀ : List Value) (lns : List Ln) (cs : List At) (t0 : Tok) (n n' : Nat) (W : WA) (D : WD) (N : Nat) (outer : List Env) : Prop := ∀  (G : Gd w p lo mean mg mb h₀ s) (hd : dp + 20 < recursionLimit) (hla : s.heap.get? la = some (listOf vs.toArray n)) (hca : s.heap.get? ca = some (instObj 276 cd)) (hcd : s.heap.get? cd = some (consD w.params t0 vl)) (hvl : s.heap.get? vl = some (listOf vals₀.toArray n')) (h0 : h₀.get? la = none ∧ h₀.get? ca = none ∧ h₀.get? cd = none ∧ h₀.get? vl = none) (hln : All2 (LnZ h₀ s.heap) vs lns) (hvs : AtsV vals₀ cs) (hT : TokOK vals₀) (hTt : ∀ j t, Value.int j t ∈ vals₀ → t < s.toks) (ht1 : 1 ≤ s.toks) (hW : WPd prog w (HZ h₀ s.heap (frs outer)) W D N) (hF : FF s.heap outer) (hf0 : ∀ b ∈ frs outer, h₀.get? b = none) (hfd : ∀ b ∈ frs outer, ∃ o es ep, s.heap.get? b = some o ∧ o.data = .dict es ep) (hS : ∀ i, i ≤ lns.length → (∀ l ∈ (stAt lns cs i).1, l.ok (stAt lns cs i).2) ∧ Bd 30000 (stAt lns cs i).2) (hln12 : lns.length ≤ 12) (hv : vals₀.length ≤ 900) (hN : N ≤ 800) (hne : la ≠ vl ∧ vl ≠ W.rl ∧ la ≠ W.rl ∧ cd ≠ W.nd ∧ cd ∉ frs outer) (hQ : ∀ ra rvs vals' n1 n2 D' h' tk', s.heap.get? ra = none → h'.get? ra = some (listOf rvs.toArray n1) → All2 (LnZ h₀ h') rvs (foldL lns cs).1 → h'.get? vl = some (listOf vals'.toArray n2) → AtsV vals' (foldL lns cs).2 → TokOK vals' → (∀ j t, Value.int j t ∈ vals' → t < tk') → vals'.length ≤ vals₀.length + 12 →
      WPd prog w (HZ h₀ h' (frs outer)) W D' (N + 12) → FrU (frs outer) s.heap h' → Kept (vl :: W.nd :: W.rl :: frs outer) s.heap h' → s.toks ≤ tk' → Q (.ref ra) {s with heap := h', toks := tk'}), wpAny (model prog w) (At0 dp un (some outer) gd) (call (.ref 245) [.ref la, .ref ca, .ref W.wa]) Q E s
end
noncomputable section
namespace c_folded
def zP (c : Program × World × Nat × Nat × (Option (List Code)) × Shared × Heap × Program × (List Str) × (ExcName → Option Value) × (Str → Option Value) × (Str → Option Value) × (Value → Shared → Prop) × (Value → Shared → Prop) × Addr × Addr × Addr × Addr × (List Value) × (List Value) × (List Ln) × (List At) × Tok × Nat × Nat × WA × WD × Nat × (List Env)) : Prop := @zS c.1 c.2.1 c.2.2.1 c.2.2.2.1 (d4 c).1 (d4 c).2.1 (d4 c).2.2.1 (d4 c).2.2.2.1 (d4 (d4 c)).1 (d4 (d4 c)).2.1 (d4 (d4 c)).2.2.1 (d4 (d4 c)).2.2.2.1 (d4 (d4 (d4 c))).1 (d4 (d4 (d4 c))).2.1 (d4 (d4 (d4 c))).2.2.1 (d4 (d4 (d4 c))).2.2.2.1 (d16 c).1 (d16 c).2.1 (d16 c).2.2.1 (d16 c).2.2.2.1 (d4 (d16 c)).1 (d4 (d16 c)).2.1 (d4 (d16 c)).2.2.1 (d4 (d16 c)).2.2.2.1 (d4 (d4 (d16 c))).1 (d4 (d4 (d16 c))).2.1 (d4 (d4 (d16 c))).2.2.1 (d4 (d4 (d16 c))).2.2.2.1 (d4 (d4 (d4 (d16 c))))
@[irreducible] def zk := Classical.choice (ep_ne (by walk_at "df") zP)
@[irreducible] def prog := zk.1.1
@[irreducible] def w := zk.1.2.1
@[irreducible] def dp := zk.1.2.2.1
@[irreducible] def un := zk.1.2.2.2.1
@[irreducible] def gd := (d4 zk.1).1
@[irreducible] def s := (d4 zk.1).2.1
@[irreducible] def h₀ := (d4 zk.1).2.2.1
@[irreducible] def p := (d4 zk.1).2.2.2.1
@[irreducible] def lo := (d4 (d4 zk.1)).1
@[irreducible] def mean := (d4 (d4 zk.1)).2.1
@[irreducible] def mg := (d4 (d4 zk.1)).2.2.1
@[irreducible] def mb := (d4 (d4 zk.1)).2.2.2.1
@[irreducible] def Q := (d4 (d4 (d4 zk.1))).1
@[irreducible] def E := (d4 (d4 (d4 zk.1))).2.1
@[irreducible] def la := (d4 (d4 (d4 zk.1))).2.2.1
@[irreducible] def ca := (d4 (d4 (d4 zk.1))).2.2.2.1
@[irreducible] def cd := (d16 zk.1).1
@[irreducible] def vl := (d16 zk.1).2.1
@[irreducible] def vs := (d16 zk.1).2.2.1
@[irreducible] def vals₀ := (d16 zk.1).2.2.2.1
@[irreducible] def lns := (d4 (d16 zk.1)).1
@[irreducible] def cs := (d4 (d16 zk.1)).2.1
@[irreducible] def t0 := (d4 (d16 zk.1)).2.2.1
@[irreducible] def n := (d4 (d16 zk.1)).2.2.2.1
@[irreducible] def n' := (d4 (d4 (d16 zk.1))).1
@[irreducible] def W := (d4 (d4 (d16 zk.1))).2.1
@[irreducible] def D := (d4 (d4 (d16 zk.1))).2.2.1
@[irreducible] def N := (d4 (d4 (d16 zk.1))).2.2.2.1
@[irreducible] def outer := (d4 (d4 (d4 (d16 zk.1))))
def zp0 : PSigma fun P0 : Heap → Heap → Heap → Heap → Heap → Addr → Addr → Addr → Addr → Nat → Nat → Nat → Nat → Nat → Nat → Nat → Nat → Nat → (Flow → Shared → Prop) → (Value → Shared → Prop) → (List Value) → (List Value) → (List Value) → WD → (Str → Option Value) → Tok → Tok → (Option Addr) → (Array (Option Value)) → (List (Addr × Obj)) → Prop => (∀ g0 h10 h9' hfz h₁ L0 fl pl a tk10 tk9' tk9 i tk₁ fn vn pn n3 qk ek fvs vals pvs D u t u2 d sl own, P0 g0 h10 h9' hfz h₁ L0 fl pl a tk10 tk9' tk9 i tk₁ fn vn pn n3 qk ek fvs vals pvs D u t u2 d sl own) → @zS prog w dp un gd s h₀ p lo mean mg mb Q E la ca cd vl vs vals₀ lns cs t0 n n' W D N outer := by
  refine' ⟨_, fun zH0 => ?zG⟩
  case zG =>
    unfold zS
    intro G hd hla hca hcd hvl h0 hln hvs hT hTt ht1 hW hF hf0 hfd hS hln12 hv hN hne hQ
    walk_at "9d"
    have L3 : Led h₀ s.heap [(ca, instObj 276 cd), (cd, consD w.params t0 vl), (vl, listOf vals₀.toArray n'), (W.nd, D.no), (W.rl, listOf D.rows.toArray D.n)] := (fa1 ⟨hca, h0.2.1⟩ (fa1 ⟨hcd, h0.2.2.1⟩ (fa1 ⟨hvl, h0.2.2.2⟩ (fa1 ⟨hW.nd.1, hW.nd.2.1⟩ (fa1 ⟨hW.rl.1, hW.rl.2.1⟩ fa0)))))
    have LL : Led h₀ s.heap ((ca, instObj 276 cd) :: (cd, consD w.params t0 vl) :: (vl, listOf vals₀.toArray n') :: (W.nd, D.no) :: (W.rl, listOf D.rows.toArray D.n) :: frl s.heap outer) := led_app (a := [(ca, instObj 276 cd), (cd, consD w.params t0 vl), (vl, listOf vals₀.toArray n'), (W.nd, D.no), (W.rl, listOf D.rows.toArray D.n)]) L3 (frl_led hF hf0)
    refine' enterM2 (M := [ca, cd, vl, W.nd, W.rl] ++ frs outer) (binds := [(Str.ofString "lines", .ref la), (Str.ofString "constants", .ref ca), (Str.ofString "world", .ref W.wa)]) ?hM G LL ?ho ?hcd ?hr ?hb ?hl ?_ ?c1 ?c2 ?c3 ?c4
    (case hM => intro p hp; rcases List.mem_append.mp (show p ∈ [(ca, instObj 276 cd), (cd, consD w.params t0 vl), (vl, listOf vals₀.toArray n'), (W.nd, D.no), (W.rl, listOf D.rows.toArray D.n)] ++ frl s.heap outer from hp) with hp | hp; (exact List.mem_append_left (bs := frs outer) (as := [ca, cd, vl, W.nd, W.rl]) (by simp only [mem_cons, not_mem_nil, or_false] at hp ⊢; rcases hp with rfl | rfl | rfl | rfl | rfl <;> simp)); exact List.mem_append_right [ca, cd, vl, W.nd, W.rl] (frl_mem hp))
    walk_at "m_rest"
    have hst := base_of G LL kb
    have hvn : ∀ {y : Addr} {vs : Array Value} {m : Nat}, s.heap.get? y = some (listOf vs m) → y ≠ W.nd := fun e q => by
      subst q
      obtain ⟨es, ep, _, d, _⟩ := hW.hk
      rw [hW.nd.1] at e; rw [Option.some.inj e] at d; cases d
    have offO : ∀ {y : Addr} {o : Obj}, s.heap.get? y = some o → (∀ es ep, o.data ≠ .dict es ep) → o.cls ≠ .ref 276 → (∀ o', s.heap.get? vl = some o' → o ≠ o') → (∀ o', s.heap.get? W.rl = some o' → o ≠ o') → y ∉ ((ca, instObj 276 cd) :: (cd, consD w.params t0 vl) :: (vl, listOf vals₀.toArray n') :: (W.nd, D.no) :: (W.rl, listOf D.rows.toArray D.n) :: frl s.heap outer).map (·.1) := fun {y o} e h1 h2 h3 h4 q => by
      walk_at "9W"
      rcases List.mem_append.mp (show p ∈ [(ca, instObj 276 cd), (cd, consD w.params t0 vl), (vl, listOf vals₀.toArray n'), (W.nd, D.no), (W.rl, listOf D.rows.toArray D.n)] ++ frl s.heap outer from hp) with hp | hp
      · have e2 := (L3 p hp).1
        rw [e] at e2
        walk_at "9ac"
        rcases hp with rfl | rfl | rfl | rfl | rfl
        · exact h2 (by rw [Option.some.inj e2])
        · exact h1 _ _ (by rw [Option.some.inj e2])
        · exact h3 _ e rfl
        · obtain ⟨es, ep, _, d, _⟩ := hW.hk
          exact h1 es ep (Option.some.inj e2 ▸ d)
        · exact h4 _ e rfl
      · obtain ⟨o', es, ep, e', d⟩ := hfd _ (frl_mem hp)
        rw [e] at e'; cases e'
        exact h1 _ _ d
    have hL0 : s.heap.get? L0 = none := local_new kb F0 N0
    have S : FC s.heap outer L0 vl W := ⟨hL0, ⟨_, _, hvl⟩, ⟨_, _, hW.rl.1⟩, ⟨_, hW.nd.1⟩, hne.2.1, hvn hvl, hfd⟩
    have offA : la ∉ ((ca, instObj 276 cd) :: (cd, consD w.params t0 vl) :: (vl, listOf vals₀.toArray n') :: (W.nd, D.no) :: (W.rl, listOf D.rows.toArray D.n) :: frl s.heap outer).map (·.1) := fun q => by
      obtain ⟨p, hp, e3⟩ := List.mem_map.mp q
      rcases List.mem_append.mp (show p ∈ [(ca, instObj 276 cd), (cd, consD w.params t0 vl), (vl, listOf vals₀.toArray n'), (W.nd, D.no), (W.rl, listOf D.rows.toArray D.n)] ++ frl s.heap outer from hp) with hp | hp
      · have e2 := (L3 p hp).1
        rw [e3, hla] at e2
        walk_at "9ac"
        rcases hp with rfl | rfl | rfl | rfl | rfl
        · cases e2
        · injection e2 with q1; injection q1 with q2; injection q2 with q3; exact absurd q3 (by decide)
        · exact hne.1 e3.symm
        · exact hvn hla e3.symm
        · exact hne.2.2.1 e3.symm
      · rw [← e3] at hla
        obtain ⟨o', es, ep, e', d⟩ := hfd _ (frl_mem hp)
        rw [hla] at e'; cases e'; cases d
    have hla0 := kb la _ offA hla
    have caM : ca ∉ vl :: W.nd :: W.rl :: frs outer := by
      have nd : ∀ {y : Addr} {o : Obj}, s.heap.get? y = some o → (∃ es ep, o.data = .dict es ep) → ca ≠ y := fun e ⟨es, ep, d⟩ q => by
        rw [← q, hca] at e
        cases e; cases d
      simp only [List.mem_cons, not_or]
      refine ⟨fun q => ?_, nd hW.nd.1 (by obtain ⟨es, ep, _, d, _⟩ := hW.hk; exact ⟨es, ep, d⟩), fun q => ?_, fun q => ?_⟩
      · have e2 := hvl; rw [← q, hca] at e2; cases e2
      · have e2 := hW.rl.1; rw [← q, hca] at e2; cases e2
      · obtain ⟨o', es, ep, e', d⟩ := hfd _ q
        exact nd e' ⟨es, ep, d⟩ rfl
    have cdM : cd ∉ vl :: W.nd :: W.rl :: frs outer := by
      simp only [List.mem_cons, not_or]
      refine ⟨fun q => ?_, hne.2.2.2.1, fun q => ?_, hne.2.2.2.2⟩
      · have e2 := hvl; rw [← q, hcd] at e2; injection e2 with q1; injection q1 with q2; injection q2 with q3; exact absurd q3 (by decide)
      · have e2 := hW.rl.1; rw [← q, hcd] at e2; injection e2 with q1; injection q1 with q2; injection q2 with q3; exact absurd q3 (by decide)
    have hla' : g0.IsList la vs.toArray := ⟨_, hla0, rfl, _, rfl⟩
    have hf0' : ∀ b ∈ L0 :: frs outer, h₀.get? b = none := fun b hb => by
      walk_at "9N"
      · exact none_base G.st hL0
      · exact hf0 b hb
    have hh1 : ∀ x, h10.get? x = none → s.heap.get? x = none := fun x hx => by
      cases e : s.heap.get? x with
      | none => rfl
      | some o => rw [there_of kb (fun p hp => (LL p hp).1) F0 N0 (fun p hp => hp) x o e] at hx; cases hx
    have g0n : ∀ b ∈ [ca, cd, vl, W.nd, W.rl] ++ frs outer, g0.get? b = none := fun b hb => by
      rcases List.mem_append.mp hb with q | q
      · walk_at "9ay"
        rcases q with rfl | rfl | rfl | rfl | rfl
        · walk_at "9aN"
        · walk_at "9aN"
        · walk_at "9aN"
        · walk_at "9aN"
        · walk_at "9aN"
      · obtain ⟨o, _, hm⟩ := frl_has hF q
        exact (N0 _ (List.mem_append_right [(ca, instObj 276 cd), (cd, consD w.params t0 vl), (vl, listOf vals₀.toArray n'), (W.nd, D.no), (W.rl, listOf D.rows.toArray D.n)] hm)).2.2
    k_steps
    rename_i _ fl _ l1 hfz kN
    walk_at "9b"
    rename _ ≤ tk9 => htk
    have flS : s.heap.get? fl = none := fresh_of kb (kN _ (.head _)).2.2 (off_lt l1.2)
    have plS : s.heap.get? pl = none := hh1 _ nx
    have hthere := there_of kb (fun p hp => (LL p hp).1) kF kN (fun p hp => .tail _ (.tail _ hp))
    have g0L : g0.get? L0 = none := none_base kg hL0
    have vL : vl ≠ L0 := fun q => by have := hvl; rw [q, hL0] at this; cases this
    have caL : ca ≠ L0 := fun q => by have := hca; rw [q, hL0] at this; cases this
    have cdL : cd ≠ L0 := fun q => by have := hcd; rw [q, hL0] at this; cases this
    refine h_list [] (FoldI prog w h₀ s.heap outer L0 vl W N vals₀.length lns cs (fun z => List.lookup z [(Str.ofString "lines", Value.ref la), (Str.ofString "constants", Value.ref ca), (Str.ofString "world", Value.ref W.wa)].reverse)) rfl kF (hla'.at fun o e => kF.keep _ o e) (.inr ⟨_, hla0⟩) ⟨?_, fun i h h' m tk tk' z k ht => by obtain ⟨fl, pl, fvs, vals, pvs, fn, vn, pn, D, hm, B⟩ := z; exact ⟨fl, pl, fvs, vals, pvs, fn, vn, pn, D, hm, B.ki k (fun b o e => ⟨o, hthere b o e⟩) ht⟩, ?_, ?_⟩
    · refine ⟨fl, pl, [], vals₀, pvs, 0, n', pn, D, fun z _ _ _ _ _ _ => rfl, (kN _ (.head _)).1, flS, (kN _ (.head _)).2.1, Nat.ne_of_gt l1.1, plS, (kN _ Z1).2.1, (kN _ Z1).1, hpv, hthere _ _ hvl, trivial, hvs, hT, fun j t q => Nat.lt_of_lt_of_le (hTt j t q) (by walk_at "m_tok"), Nat.le_refl _, Nat.le_refl _, hW.mono3 fun b x _ z => ⟨hthere _ _ z.1, z.2.1, fun q => ?_⟩, fun b hb o e => ⟨o.slots, hthere _ _ e⟩, fun b o hb e => hthere b o e⟩
      rcases List.mem_cons.mp q with rfl | q
      · have := z.1; rw [hL0] at this; cases this
      · exact z.2.2 q
    · clear kF kN
      rintro i v m₁ h₁ tk₁ hi hiv ⟨fl, pl, fvs, vals, pvs, fn, vn, pn, D, hm, B⟩ hle F1
      obtain ⟨u, rfl⟩ := locs6 hm
      clear hm
      obtain ⟨l, hl, z⟩ := hln.get (i := i) (a := v) (by simpa using hiv)
      obtain ⟨a, t, u2, d, n3, sl, rfl, ha, hna⟩ := z.obj
      have hag := kb a _ (offO ha (fun _ _ q => by cases q) (fun q => by cases q) (fun o' e q => by rw [hvl] at e; rw [← Option.some.inj e] at q; injection q with q; injection q with q; exact absurd q (by decide)) (fun o' e q => by rw [hW.rl.1] at e; rw [← Option.some.inj e] at q; injection q with q; injection q with q; exact absurd q (by decide))) ha
      have hag' : g0.IsTuple a #[.str l.word t, .int l.opd u2] := ⟨_, hag, rfl, _, rfl⟩
      walk_at "9az"
      have hlf : fvs.length ≤ 12 := Nat.le_trans B.lf9 (by walk_at "om")
      have hca1 := B.kp9 ca _ caM hca
      have hcd1 := B.kp9 cd _ cdM hcd
      have ne1 : fl ≠ pl := B.flP
      have ne2 : fl ≠ vl := fun q => by have := hvl; rw [← q, B.flN] at this; cases this
      have ne3 : pl ≠ vl := fun q => by have := hvl; rw [← q, B.plN] at this; cases this
      have ne4 : fl ≠ ca := fun q => by have := hca; rw [← q, B.flN] at this; cases this
      have ne5 : fl ≠ cd := fun q => by have := hcd; rw [← q, B.flN] at this; cases this
      have ne6 : vl ≠ ca := fun q => by have := hca; rw [← q, hvl] at this; cases this
      have ne7 : vl ≠ cd := fun q => by have e2 := hcd; rw [← q, hvl] at e2; injection e2 with q1; injection q1 with q2; injection q2 with q3; exact absurd q3 (by decide)
      have hX : ∀ p ∈ [(fl, listOf fvs.toArray fn), (pl, listOf pvs.toArray pn), (vl, listOf vals.toArray vn), (ca, instObj 276 cd), (cd, consD w.params t0 vl)], h₁.get? p.1 = some p.2 ∧ p.1 ≠ L0 ∧ g0.get? p.1 = none := (fa1 ⟨B.fl9, B.flL, none_base kg B.flN⟩ (fa1 ⟨B.pl9, B.plL, none_base kg B.plN⟩ (fa1 ⟨B.vl9, vL, g0n _ (by simp)⟩ (fa1 ⟨hca1, caL, g0n _ (by simp)⟩ (fa1 ⟨hcd1, cdL, g0n _ (by simp)⟩ fa0)))))
      obtain ⟨own, N1, hoff, hown, hall⟩ := turn_open [(fl, listOf fvs.toArray fn), (pl, listOf pvs.toArray pn), (vl, listOf vals.toArray vn), (ca, instObj 276 cd), (cd, consD w.params t0 vl)] F1 hX
      walk_at "9aG"
      simp only [map_cons, map_nil] at hoff hall
      have hpv := B.pv9
      have hdrop : ∀ {h' : Heap}, h'.get? ca = some (instObj 276 cd) → h'.get? cd = some (consD w.params t0 vl) → Kept (L0 :: [fl, pl, vl, ca, cd]) h₁ h' → Kept [L0, fl, pl, vl] h₁ h' := fun q1 q2 k => k.drop (fa1 (.inl (.head _)) (fa1 (.inl Z1) (fa1 (.inl Z2) (fa1 (.inl Z3) (fa1 (.inr ⟨_, hca1, q1⟩) (fa1 (.inr ⟨_, hcd1, q2⟩) fa0))))))
      clear_value qk ek
      revert l G hd hla hca hcd hvl h0 hln hvs hT hTt ht1 hW hF hf0 hfd hS hln12 hv hN hne L3 LL htk0 hsub0 X0 T0 kg kb hst hvn offO hL0 S offA hla0 caM cdM hla' hf0' hh1 g0n kc9 tkc9 htk hthere g0L vL caL cdL hi B hle F1 hl hiv z ha hna hag hag' hil hlf hca1 hcd1 ne1 ne2 ne3 ne4 ne5 ne6 ne7 hX N1 hown hoff hall hpv hdrop
      exact zH0 g0 h10 h9' hfz h₁ L0 fl pl a tk10 tk9' tk9 i tk₁ fn vn pn n3 qk ek fvs vals pvs D u t u2 d sl own
    · clear kF kN
      rintro h' tk m' hle F1 ⟨fl, pl, fvs, vals, pvs, fn, vn, pn, D, hm, B⟩
      obtain ⟨u, rfl⟩ := locs6 hm
      clear hm
      have hns := F1.ns
      obtain ⟨own, N1, hoff, -, hall⟩ := turn_open [(fl, _)] F1 (by
        intro p hp
        rw [List.mem_singleton.mp hp]
        exact ⟨B.fl9, B.flL, none_base kg B.flN⟩)
      walk_at "9aG"
      have hlens : vs.toArray.size = lns.length := by rw [List.size_toArray]; exact hln.length
      rw [hlens, stAt_all] at B
      k_steps
      walk_at "9b"
      walk_at "9a"
      have hK := turn_kept (X' := [_]) kF kN hall
      have e1 := (kN _ (.head _)).1
      walk_at "9h"
      intro kk ll ht
      have hpl : Heap.get? _ pl = _ := hK pl _ (na1 B.plL (na1 B.flP.symm na0)) B.pl9
      have hvl2 : Heap.get? _ vl = _ := hK vl _ (na1 vL (na1 (fun q => by have := hvl; rw [q, B.flN] at this; cases this) na0)) B.vl9
      have hK2 : Kept [L0, fl, pl, vl] _ _ := hK.mono (fun b hb => by
        simp only [map_cons, map_nil, mem_cons, not_mem_nil, or_false] at hb ⊢
        rcases hb with q | q
        · exact .inl q
        · exact .inr (.inl q))
      have hKN := B.kn S hns hK2
      have B9 := B.walk (tk' := tk) (N' := N + 12) S hK2 e1 B.flN B.flL B.flP hpl hvl2 (B.ln9.mono fun _ _ z => z.kn hKN) B.av9 B.ok9 B.tk9 B.lv9 B.lf9 (by walk_at "om")
      refine hQ fl fvs vals _ _ D _ _ B.flN e1 B9.ln9 hvl2 B.av9 B.ok9 (fun j t q => Nat.lt_of_lt_of_le (B.tk9 j t q) ?_) (Nat.le_trans B.lv9 (by walk_at "om")) (B9.wp9.mono3 fun b x _ z => z.exs fun q => z.2.2 (.tail _ q)) B9.fu9 B9.kp9 ht
      walk_at "m_tok"
def zc0a (c : Heap × Heap × Heap × Heap × Heap × Addr × Addr × Addr × Addr × Nat × Nat × Nat × Nat × Nat × Nat × Nat × Nat × Nat × (Flow → Shared → Prop) × (Value → Shared → Prop) × (List Value) × (List Value) × (List Value) × WD × (Str → Option Value) × Tok × Tok × (Option Addr) × (Array (Option Value)) × (List (Addr × Obj))) : Prop := zp0.1 c.1 c.2.1 c.2.2.1 c.2.2.2.1 (d4 c).1 (d4 c).2.1 (d4 c).2.2.1 (d4 c).2.2.2.1 (d4 (d4 c)).1 (d4 (d4 c)).2.1 (d4 (d4 c)).2.2.1 (d4 (d4 c)).2.2.2.1 (d4 (d4 (d4 c))).1 (d4 (d4 (d4 c))).2.1 (d4 (d4 (d4 c))).2.2.1 (d4 (d4 (d4 c))).2.2.2.1 (d16 c).1 (d16 c).2.1 (d16 c).2.2.1 (d16 c).2.2.2.1 (d4 (d16 c)).1 (d4 (d16 c)).2.1 (d4 (d16 c)).2.2.1 (d4 (d16 c)).2.2.2.1 (d4 (d4 (d16 c))).1 (d4 (d4 (d16 c))).2.1 (d4 (d4 (d16 c))).2.2.1 (d4 (d4 (d16 c))).2.2.2.1 (d4 (d4 (d4 (d16 c)))).1 (d4 (d4 (d4 (d16 c)))).2
@[irreducible] def zk0a := Classical.choice (ep_ne (by walk_at "df") zc0a)
namespace z0a
@[irreducible] def g0 := zk0a.1.1
@[irreducible] def h10 := zk0a.1.2.1
@[irreducible] def h9' := zk0a.1.2.2.1
@[irreducible] def hfz := zk0a.1.2.2.2.1
@[irreducible] def h₁ := (d4 zk0a.1).1
@[irreducible] def L0 := (d4 zk0a.1).2.1
@[irreducible] def fl := (d4 zk0a.1).2.2.1
@[irreducible] def pl := (d4 zk0a.1).2.2.2.1
@[irreducible] def a := (d4 (d4 zk0a.1)).1
@[irreducible] def tk10 := (d4 (d4 zk0a.1)).2.1
@[irreducible] def tk9' := (d4 (d4 zk0a.1)).2.2.1
@[irreducible] def tk9 := (d4 (d4 zk0a.1)).2.2.2.1
@[irreducible] def i := (d4 (d4 (d4 zk0a.1))).1
@[irreducible] def tk₁ := (d4 (d4 (d4 zk0a.1))).2.1
@[irreducible] def fn := (d4 (d4 (d4 zk0a.1))).2.2.1
@[irreducible] def vn := (d4 (d4 (d4 zk0a.1))).2.2.2.1
@[irreducible] def pn := (d16 zk0a.1).1
@[irreducible] def n3 := (d16 zk0a.1).2.1
@[irreducible] def qk := (d16 zk0a.1).2.2.1
@[irreducible] def ek := (d16 zk0a.1).2.2.2.1
@[irreducible] def fvs := (d4 (d16 zk0a.1)).1
@[irreducible] def vals := (d4 (d16 zk0a.1)).2.1
@[irreducible] def pvs := (d4 (d16 zk0a.1)).2.2.1
@[irreducible] def D := (d4 (d16 zk0a.1)).2.2.2.1
@[irreducible] def u := (d4 (d4 (d16 zk0a.1))).1
@[irreducible] def t := (d4 (d4 (d16 zk0a.1))).2.1
@[irreducible] def u2 := (d4 (d4 (d16 zk0a.1))).2.2.1
@[irreducible] def d := (d4 (d4 (d16 zk0a.1))).2.2.2.1
@[irreducible] def sl := (d4 (d4 (d4 (d16 zk0a.1)))).1
@[irreducible] def own := (d4 (d4 (d4 (d16 zk0a.1)))).2
theorem zt0a : zp0.1 g0 h10 h9' hfz h₁ L0 fl pl a tk10 tk9' tk9 i tk₁ fn vn pn n3 qk ek fvs vals pvs D u t u2 d sl own := by
  delta zp0
  dsimp only
  set_option tactic.hygienic false in intros
  by_cases hw : (l.word == Str.ofString "plain") = true
  · obtain ⟨o, rfl⟩ := Ln.plain hw
    walk_at "9aL"
    dsimp only [Ln.word, Ln.opd] at hag' hrow
    have hkn : ∀ {h' : Heap} {m' : Str → Option Value} {X' : List (Addr × Obj)}, Fr g0 L0 h' m' → News g0 L0 h' (X' ++ own) → h'.get? ca = some (instObj 276 cd) → h'.get? cd = some (consD w.params t0 vl) → KN h₁ h' := fun kF kN e4 e5 => B.kn S F1.ns (hdrop e4 e5 (turn_kept kF kN hall))
    have hsnoc : ∀ {h' : Heap} {m' : Str → Option Value} {X' : List (Addr × Obj)} {D1 : Addr} {n9 tk' : Nat} (N' : Nat), N + i ≤ N' → Fr g0 L0 h' m' → News g0 L0 h' (X' ++ own) →
        h'.get? D1 = some { cls := .type "tuple", data := .seq #[.str (Str.ofString "plain") t, .int o.idx u2] } → g0.get? D1 = none → h'.get? fl = some (listOf (fvs ++ [Value.ref D1]).toArray n9) → h'.get? pl = some (listOf pvs.toArray pn) → h'.get? vl = some (listOf vals.toArray vn) → h'.get? ca = some (instObj 276 cd) → h'.get? cd = some (consD w.params t0 vl) → tk₁ ≤ tk' →
        FS prog w h₀ s.heap outer L0 vl W N' (vals₀.length + (i + 1)) (i + 1) fl pl (fvs ++ [Value.ref D1]) vals pvs n9 vn pn D ((stAt lns cs i).1 ++ [.p o]) (stAt lns cs i).2 h' tk' := fun N' hN' kF kN e0 e9 e1 e2 e3 e4 e5 ht => by
      have hK := hdrop e4 e5 (turn_kept kF kN hall)
      have hKN := B.kn S F1.ns hK
      have hz : LnZ h₀ _ (.ref _) (.p o) := ⟨_, t, u2, rfl, ⟨_, e0, rfl, _, rfl⟩, none_base hst e9⟩
      exact B.walk S hK e1 B.flN B.flL B.flP e2 e3 ((B.ln9.mono fun _ _ z => z.kn hKN).snoc hz) B.av9 B.ok9 (fun j t q => Nat.lt_of_lt_of_le (B.tk9 j t q) ht) (Nat.le_trans B.lv9 (by walk_at "om")) (by rw [List.length_append]; exact Nat.succ_le_succ B.lf9) hN'
    cases hp : o.pure with
    | false =>
      k_steps
      · exfalso
        have e8 : (pureStrs.any fun x => x == o.name) = true := by assumption
        rw [in_pure, hp] at e8; cases e8
      walk_at "9b"
      walk_at "9a"
      show EndH _ _ _ _ _ _
      refine EndH.mk kF (fun b o e q => hkn (X' := [_, _, _, _, _, _]) kF kN (kN _ Z4).1 (kN _ Z5).1 b o e (it_nmu (q.resolve_right (fun z => nomatch z)))) (fold_end hl (step_impure hp) (hsnoc (X' := [_, _, _, _, _, _]) (N + (i + 1)) (Nat.le_succ _) kF kN (kN _ (.head _)).1 (kN _ (.head _)).2.2 (kN _ Z1).1 (kN _ Z2).1 (kN _ Z3).1 (kN _ Z4).1 (kN _ Z5).1 ?_) ?_)
      · walk_at "m_tok"
      · intro z z1 z2 z3 z4 z5 z6
        walk_at "9X"
    | true =>
      k_steps
      rotate_left
      · exfalso
        have e8 : (pureStrs.any fun x => x == o.name) = false := by assumption
        rw [in_pure, hp] at e8; cases e8
      walk_at "9b"
      walk_at "9a"
      rename (fl < _) ∧ _ => hlt0
      have tupvl := Nat.ne_of_lt hlt0.2.2.1
      rename (_ < _) ∧ _ => hl0
      have slvl := Nat.ne_of_lt hl0.2.2.2.1
      have B1 := hsnoc (X' := [_, _, _, _, _, _, _]) (tk' := tk₁) _ (Nat.le_refl _) kF kN (kN _ Z1).1 (kN _ Z1).2.2 (kN _ Z2).1 (kN _ Z3).1 (kN _ Z4).1 (kN _ Z5).1 (kN _ Z6).1 (Nat.le_refl _)
      have hKN := hkn (X' := [_, _, _, _, _, _, _]) kF kN (kN _ Z5).1 (kN _ Z6).1
      have okS := (hS i (Nat.le_of_lt hil)).1
      refine wpAny_with_toks (Nat.le_refl _) (c_behind (vs := fvs) (vals := vals) (lns := (stAt lns cs i).1) (cs := (stAt lns cs i).2) (o := o) (Gd.of2 G hst kF) (by walk_at "m_room") (kN _ (.head _)).1 (kN _ Z5).1 (kN _ Z6).1 (kN _ Z4).1 ⟨h0.2.1, h0.2.2.1, h0.2.2.2⟩ (Nat.le_trans B.lv9 (by walk_at "om")) (by walk_at "om") (B.ln9.mono fun _ _ z => z.kn hKN) B.av9 okS ?_ ?_)
      · intro h' tk' hb kk ht ht'
        dsimp only at ht ht'
        obtain ⟨F', N'⟩ := after0 kF kN kk
        clear kF kN B1
        k_steps
        walk_at "9b"
        walk_at "9a"
        show EndH _ _ _ _ _ _
        refine EndH.mk kF (fun b o e q => hkn (X' := [_, _, _, _, _, _, _]) kF kN (kN _ Z5).1 (kN _ Z6).1 b o e (it_nmu (q.resolve_right (fun z => nomatch z)))) (fold_end hl (step_none (by rw [hb]; rfl)) (hsnoc (X' := [_, _, _, _, _, _, _]) (N + (i + 1)) (Nat.le_succ _) kF kN (kN _ Z1).1 (kN _ Z1).2.2 (kN _ Z2).1 (kN _ Z3).1 (kN _ Z4).1 (kN _ Z5).1 (kN _ Z6).1 ?_) ?_)
        · walk_at "m_tok"
        · intro z z1 z2 z3 z4 z5 z6
          walk_at "9X"
      · intro ra xs as h' tk' n2 hb hxs hsub hlas kk hra hra' ht ht'
        dsimp only at ht ht'
        obtain ⟨F', N0⟩ := after0 kF kN kk
        have N' := news_new kF hra N0 hra'
        have ravl := ne_new kN Z4 hra
        have hraF : ra ∉ frs outer := fun q => by
          obtain ⟨o', es, ep, e', d⟩ := hfd _ q
          obtain ⟨sl, e2⟩ := B1.fu9 ra q o' e'
          dsimp only at hra
          rw [hra] at e2; cases e2
        clear kF kN N0
        k_steps
        walk_at "9b"
        walk_at "9a"
        have B2 := hsnoc (X' := [_, _, _, _, _, _, _, _]) (tk' := tk₁) _ (Nat.le_refl _) kF kN (kN _ Z2).1 (kN _ Z2).2.2 (kN _ Z3).1 (kN _ Z4).1 (kN _ Z5).1 (kN _ Z6).1 (kN _ Z7).1 (Nat.le_refl _)
        have hKN2 := hkn (X' := [_, _, _, _, _, _, _, _]) kF kN (kN _ Z6).1 (kN _ Z7).1
        have hF2 : FF _ outer := hF.fru B2.fu9
        have hraN : ra ∉ L0 :: frs outer := fun q => by
          walk_at "99"
          · exact (kN _ (.head _)).2.1 q
          · exact hraF q
        refine c_told (D := D) (N := N + i) (outer := _ :: outer) (vs := xs) (as := as) (Gd.of2 G hst kF) (by walk_at "m_room") B2.wp9 (by walk_at "om") hp (FF.push2 hF2 kF) hf0' (kN _ (.head _)).1 hraN hxs hlas (behind_bd hb (hS i (Nat.le_of_lt hil)).2) ?_ ?_
        · intro D3 h3 tk3 hn3 hW3 hK3 hU3 ht3
          dsimp only at ht3
          have B3 := B2.told (tk' := tk₁) S kF.ns hK3 hU3 hW3 (Nat.le_refl _)
          have KN3 := hKN2.trans (B2.kn_told S kF.ns hK3)
          have F3 := fr_fru kF hK3 hU3 (.head _) (fun b hb => by
            walk_at "9N"
            · exact g0n _ (by simp)
            · walk_at "9N"
              · exact g0n _ (by simp)
              · walk_at "9N"
                · exact g0L
                · exact g0n _ (List.mem_append_right _ hb))
          have hns3 := F3.ns
          clear kF kN
          obtain ⟨own3, N3, hoff3, ehall3, hall3⟩ := turn_op [(fl, _), (pl, _), (vl, _)] F3 (fa1 ⟨B3.fl9, B.flL, none_base kg B.flN⟩ (fa1 ⟨B3.pl9, B.plL, none_base kg B.plN⟩ (fa1 ⟨B3.vl9, vL, g0n _ (by simp)⟩ fa0)))
          have N3 : News _ _ _ ((fl, _) :: (pl, _) :: (vl, _) :: own3) := N3
          have hoff3 : OwnOff own3 [fl, pl, vl] := hoff3
          k_steps
          walk_at "9b"
          walk_at "9a"
          have hK4 := turn_kept (X' := [_, _, _]) kF kN hall3
          have KN4 := B3.kn S hns3 hK4
          show EndH _ _ _ _ _ _
          refine EndH.mk kF (fun b o e q => (KN3.trans KN4) b o e (it_nmu (q.resolve_right (fun z => nomatch z)))) (fold_end hl (step_none (by rw [hb]; exact hn3)) (B3.walk S hK4 (kN _ (.head _)).1 B.flN B.flL B.flP (kN _ Z1).1 (kN _ Z2).1 (B3.ln9.mono fun _ _ z => z.kn KN4) B3.av9 B3.ok9 (fun j t q => Nat.lt_of_lt_of_le (B3.tk9 j t q) ?_) B3.lv9 B3.lf9 (Nat.le_refl _)) ?_)
          · walk_at "m_tok"
          · intro z z1 z2 z3 z4 z5 z6
            walk_at "9X"
        · intro ta a v n' h3 tk3 hta hva htn kk hn hta' ht3
          dsimp only at ht3 htn
          obtain ⟨F', N0⟩ := after0 kF kN kk
          have N' := news_new kF hn N0 hta'
          have tavl := ne_new kN Z5 hn
          have hml : o.many ≤ fvs.length := by rw [B.ln9.length]; exact behind_len hb
          have hvt : TokFor vals v := tok_for B.ok9 hsub B.tk9 (by walk_at "m_tok") (by walk_at "m_tok") htn
          clear kF kN N0
          k_steps
          walk_at "9b"
          walk_at "9a"
          rename (ta < _) ∧ _ => hl1
          obtain ⟨p1, p2, p3, p4, q1, q2, q3, q4, q5, q6⟩ := hl1
          have r1 := Nat.ne_of_lt p1
          have r2 := Nat.ne_of_lt p2
          have r3 := Nat.ne_of_lt p3
          have r4 := Nat.ne_of_lt p4
          have r5 := Nat.ne_of_lt q1
          have r6 := Nat.ne_of_lt q2
          have r7 := Nat.ne_of_lt q3
          have r8 := Nat.ne_of_lt q4
          have r9 := Nat.ne_of_lt q5
          have hoff2 : OwnOff own (_ :: [fl, pl, vl, ca, cd]) := fun p hp b hb => by
            rcases List.mem_cons.mp hb with q | q
            · exact q ▸ Nat.ne_of_lt (allLt_mem q6 hp)
            · exact hoff p hp b q
          clear hoff
          have nlL := (kN _ (.head _)).2.1
          have nlP := Nat.ne_of_gt q2
          have hx0 := B.fresh S (turn_new hall (kN _ (.head _)).2.2 nlL (na1 (Nat.ne_of_gt q1) (na1 (Nat.ne_of_gt q2) (na1 (Nat.ne_of_gt q3) (na1 (Nat.ne_of_gt q4) (na1 (Nat.ne_of_gt q5) na0))))) q6)
          dsimp only at nlL nlP hx0
          have hlt1 : (fvs.take (fvs.length - o.many)).length ≤ 12 := by rw [List.length_take]; walk_at "om"
          refine wpAny_with_toks (Nat.le_refl _) (c_index_of (Gd.of2 G hst kF) (by walk_at "m_room") (kN _ Z8).1 (kN _ Z9).1 (kN _ Z7).1 ⟨h0.2.1, h0.2.2.1, h0.2.2.2⟩ B.av9 B.ok9 hva hvt (Nat.le_trans B.lv9 (by walk_at "om")) ?_ ?_)
          · intro k t9 h4 tk4 hpos kk4 ht4
            dsimp only at ht4
            walk_at "9ag"
            have hix : indexOf (stAt lns cs i).2 a = (k, (stAt lns cs i).2) := by unfold indexOf; rw [hpos]
            clear kF kN
            k_steps
            walk_at "9b"
            walk_at "9a"
            have hK5 := hdrop (kN _ Z9).1 (kN _ Z10).1 (turn_kept (X' := [_, _, _, _, _, _, _, _, _, _, _]) kF kN hall)
            have KN5 := B.kn S F1.ns hK5
            have hz : LnZ h₀ _ (.ref _) (.c k) := ⟨_, _, t9, rfl, ⟨_, (kN _ (.head _)).1, rfl, _, rfl⟩, none_base hst (kN _ (.head _)).2.2⟩
            have hlns := (B.ln9.mono fun _ _ z => z.kn KN5).takeLast o.many
            have hst9 := step_some (st := stAt lns cs i) hp (by rw [hb]; exact hta)
            rw [hix] at hst9
            show EndH _ _ _ _ _ _
            refine EndH.mk kF (fun b o e q => KN5 b o e (it_nmu (q.resolve_right (fun z => nomatch z)))) (fold_end hl hst9 (B.walk S hK5 (kN _ Z1).1 hx0 nlL nlP (kN _ Z7).1 (kN _ Z8).1 (hlns.snoc hz) B.av9 B.ok9 (fun j t q => Nat.lt_of_lt_of_le (B.tk9 j t q) ?_) (Nat.le_trans B.lv9 (by walk_at "om")) (by rw [List.length_append, List.length_take]; exact Nat.succ_le_succ (Nat.le_trans (Nat.min_le_right _ _) B.lf9)) (Nat.le_succ _)) ?_)
            all_goals first
              | (intro z z1 z2 z3 z4 z5 z6; by_cases z7 : z = Str.ofString "found" <;> first | (simp only [if_neg z1, if_neg z2, if_neg z3, if_neg z4, if_neg z5, if_neg z6, if_pos z7]; done) | (simp only [if_neg z1, if_neg z2, if_neg z3, if_neg z4, if_neg z5, if_neg z6, if_pos z7]; rfl) | (simp only [if_neg z1, if_neg z2, if_neg z3, if_neg z4, if_neg z5, if_neg z6, if_neg z7]; done) | (simp only [if_neg z1, if_neg z2, if_neg z3, if_neg z4, if_neg z5, if_neg z6, if_neg z7]; rfl))
              | (walk_at "m_tok")
          · intro t9 n4 h4 tk4 hpos kk4 hvl4 ht4
            dsimp only at ht4
            walk_at "9aH"
            (try dsimp only at N')
            have hix : indexOf (stAt lns cs i).2 a = (vals.length, (stAt lns cs i).2 ++ [a]) := by unfold indexOf; rw [hpos, B.av9.length]
            clear kF kN
            k_steps
            walk_at "9b"
            walk_at "9a"
            have hK5 := hdrop (kN _ Z9).1 (kN _ Z10).1 (turn_kept (X' := [_, _, _, _, _, _, _, _, _, _, _]) kF kN hall)
            have KN5 := B.kn S F1.ns hK5
            have hz : LnZ h₀ _ (.ref _) (.c vals.length) := ⟨_, _, t9, rfl, ⟨_, (kN _ (.head _)).1, rfl, _, rfl⟩, none_base hst (kN _ (.head _)).2.2⟩
            have hlns := (B.ln9.mono fun _ _ z => z.kn KN5).takeLast o.many
            have hst9 := step_some (st := stAt lns cs i) hp (by rw [hb]; exact hta)
            rw [hix] at hst9
            show EndH _ _ _ _ _ _
            refine EndH.mk kF (fun b o e q => KN5 b o e (it_nmu (q.resolve_right (fun z => nomatch z)))) (fold_end hl hst9 (B.walk S hK5 (kN _ Z1).1 hx0 nlL nlP (kN _ Z7).1 (kN _ Z8).1 (hlns.snoc hz) (B.av9.snoc hva) (B.ok9.snoc hvt) (tok_lt hsub B.tk9 ?_ ?_ htn) (by rw [List.length_append]; exact Nat.le_trans (Nat.succ_le_succ B.lv9) (by walk_at "om")) (by rw [List.length_append, List.length_take]; exact Nat.succ_le_succ (Nat.le_trans (Nat.min_le_right _ _) B.lf9)) (Nat.le_succ _)) ?_)
            all_goals first
              | (intro z z1 z2 z3 z4 z5 z6; by_cases z7 : z = Str.ofString "found" <;> first | (simp only [if_neg z1, if_neg z2, if_neg z3, if_neg z4, if_neg z5, if_neg z6, if_pos z7]; done) | (simp only [if_neg z1, if_neg z2, if_neg z3, if_neg z4, if_neg z5, if_neg z6, if_pos z7]; rfl) | (simp only [if_neg z1, if_neg z2, if_neg z3, if_neg z4, if_neg z5, if_neg z6, if_neg z7]; done) | (simp only [if_neg z1, if_neg z2, if_neg z3, if_neg z4, if_neg z5, if_neg z6, if_neg z7]; rfl))
              | (walk_at "m_tok")
  · rw [Bool.not_eq_true] at hw
    k_steps
    walk_at "9b"
    walk_at "9a"
    have hK := hdrop (kN _ Z4).1 (kN _ Z5).1 (turn_kept (X' := [_, _, _, _, _, _]) kF kN hall)
    have hKN := B.kn S F1.ns hK
    have e0 := (kN _ (.head _)).1
    have e1 := (kN _ Z1).1
    (try rw [List.push_toArray] at e1)
    dsimp only at e0 e1
    have hz : LnZ h₀ _ (.ref _) l := ⟨_, t, u2, rfl, ⟨_, e0, rfl, _, rfl⟩, none_base hst (kN _ (.head _)).2.2⟩
    show EndH _ _ _ _ _ _
    refine EndH.mk kF (fun b o e q => hKN b o e (it_nmu (q.resolve_right (fun z => nomatch z)))) ?_
    refine fold_end hl (step_append hw) (B.walk S hK e1 B.flN B.flL B.flP (kN _ Z2).1 (kN _ Z3).1 ((B.ln9.mono fun _ _ z => z.kn hKN).snoc hz) B.av9 B.ok9 (fun j t q => Nat.lt_of_lt_of_le (B.tk9 j t q) ?_) (Nat.le_trans B.lv9 (by walk_at "om")) (by rw [List.length_append]; exact Nat.succ_le_succ B.lf9) (by walk_at "om")) ?_
    · walk_at "m_tok"
    · intro z z1 z2 z3 z4 z5 z6
      walk_at "9X"
end z0a
theorem zt0 : @zS prog w dp un gd s h₀ p lo mean mg mb Q E la ca cd vl vs vals₀ lns cs t0 n n' W D N outer := zp0.2 (fun g0 h10 h9' hfz h₁ L0 fl pl a tk10 tk9' tk9 i tk₁ fn vn pn n3 qk ek fvs vals pvs D u t u2 d sl own => by with_unfolding_all exact zk0a.2 z0a.zt0a (g0, h10, h9', hfz, h₁, L0, fl, pl, a, tk10, tk9', tk9, i, tk₁, fn, vn, pn, n3, qk, ek, fvs, vals, pvs, D, u, t, u2, d, sl, own))
end c_folded
end
section
variable {prog : Program} {w : World} {dp un : Nat} {fr : Option (List Env)} {gd : Option (List Code)} {s : Shared} {h₀ : Heap} {p : Program} {lo : List Str} {mean : ExcName → Option Value} {mg mb : Str → Option Value} {Q E : Value → Shared → Prop}
theorem c_folded {la ca cd vl : Addr} {vs vals₀ : List Value} {lns : List Ln} {cs : List At} {t0 : Tok} {n n' : Nat} {W : WA} {D : WD} {N : Nat} {outer : List Env} : @c_folded.zS prog w dp un gd s h₀ p lo mean mg mb Q E la ca cd vl vs vals₀ lns cs t0 n n' W D N outer := by with_unfolding_all exact @ep_get _ _ c_folded.zk (@c_folded.zt0) (prog, w, dp, un, gd, s, h₀, p, lo, mean, mg, mb, Q, E, la, ca, cd, vl, vs, vals₀, lns, cs, t0, n, n', W, D, N, outer)
theorem zg_fold : True := trivial
theorem zrr27 : True := by
  k_with "@exec For Tuple Name cons nil" => ((fail_if_success have := zg_lw); (k_here; (with_reducible rename Fr _ _ _ _ => lF9'); (with_unfolding_all refine' For_H lF9' ?_; k_whole)))
  trivial
theorem hit_stored {kvs : List (Str × Value)} {k : Str} {v : Value} (h : valueAt kvs k = none) : valueAt (stored kvs k v) k = some v := by rw [stored_new h, valueAt_app, h, if_pos rfl]; rfl
noncomputable def LwI (prog : Program) (w : World) (s₀ : Heap) (L kl : Addr) (W : WA) (items : List Value) (kn : Nat) : HInv := fun i h m tk =>
  ∃ D, (∀ z, z ≠ Str.ofString "name" → z ≠ Str.ofString "deed" → m z = if z = Str.ofString "known" then some (.ref kl) else if z = Str.ofString "world" then some (.ref W.wa) else none) ∧ PW prog w s₀ h L W D i ∧ All2 (KnV s₀ h) items known ∧ h.get? kl = some (listOf items.toArray kn) ∧ kl ≠ W.rl ∧ kl ≠ L
theorem LwI.up {prog : Program} {w : World} {s₀ hs : Heap} {L kl : Addr} {W : WA} {items : List Value} {kn : Nat} : ∀ i h h' m tk tk', LwI prog w s₀ L kl W items kn i h m tk → KI hs h h' → tk ≤ tk' → LwI prog w s₀ L kl W items kn i h' m tk' := fun i h h' m tk tk' z k _ => by obtain ⟨D, hm, B, hi, hl, n1, n2⟩ := z; exact ⟨D, hm, B.ki k, hi.mono fun _ _ z => KnV.ki k z, k.nf list_nf hl, n1, n2⟩
theorem lw_start {A : Around} {E : Value → Shared → Prop} {s : Shared} {env : Env} {g s₀ : Heap} {target : Expr} {body : List Stmt} {Q : Flow → Shared → Prop} {L kl : Addr} {W : WA} {items : List Value} {kn : Nat} {m : Str → Option Value} (hh : A.handled = none) (F : Fr g env.locals s.heap m) (hkl : s.heap.get? kl = some (listOf items.toArray kn)) (hi : All2 (KnV s₀ s.heap) items known)
    (T : ∀ items, s.heap.get? kl = some (listOf items.toArray kn) → All2 (KnV s₀ s.heap) items known → TurnH prog w A g env target body Q E s items.toArray.size (fun i v _ => items.toArray[i]? = some v) m [kl] s.heap (LwI prog w s₀ L kl W items kn)) : wpAny (model prog w) A (pyIter (.ref kl)) (fun it s₂ => TurnsH prog w A g env target body Q E it s₂) E s :=
  h_list [kl] _ hh F ⟨_, hkl, rfl, _, rfl⟩ (.inl (.head _)) (T _ hkl hi)
theorem c_law_world (G : Gd w p lo mean mg mb h₀ s) (hd : dp + 16 < recursionLimit)
   (hQ : ∀ W D h' tk', Kept [] s.heap h' → WPd prog w (fun b x => h'.get? b = some x ∧ s.heap.get? b = none) W D 14 → s.toks ≤ tk' → Q (.ref W.wa) {s with heap := h', toks := tk'}) : wpAny (model prog w) (At0 dp un fr gd) (call (.ref 760) []) Q E s := by
  revert G hd hQ
  walk_at "9M"
  walk_at "9i"
  walk_at "9an"
  clear_value prog w dp un fr gd s h₀
  walk_at "9f"
  intro p lo mean mg
  clear_value p lo mean mg
  walk_at "9e"
  intro mb Q
  clear_value mb Q
  walk_at "9g"
  intro E
  clear_value E
  walk_at "in"
  walk_at "9d"
  refine' enterM (binds := []) G Led.nil ?ho ?hcd ?hr ?hb ?hl ?_ ?c1 ?c2 ?c3 ?c4
  walk_at "m_rest"
  walk_at "m_rx"
  k_steps
  walk_at "9b"
  walk_at "9a"
  show wpAny _ _ (call (Value.ref 737) []) _ _ _
  refine c_new_world (Gd.of kF X0 T0) (by walk_at "m_room") ?_
  refine ix16 ⟨by walk_at "df"⟩ ?_
  intro wa wd ob od rl nd ce cd fd pd va ba t1 t2 t3 t4
  clear_value wa wd ob od rl nd ce cd fd pd va ba t1 t2 t3 t4
  refine ix8 ⟨by walk_at "df"⟩ ?_
  intro t5 t6 t7 t8 t9 t10 t11 t12
  clear_value t5 t6 t7 t8 t9 t10 t11 t12
  refine ix4 ⟨by walk_at "df"⟩ ?_
  intro no nn fo h1
  clear_value no nn fo h1
  refine ix1 ⟨by walk_at "df"⟩ ?_
  intro tk1
  clear_value tk1
  intro kc hnew hwa hwd hob hod hrl hnd hce hcd hfd hnk hnm hfk hfm tkc
  obtain ⟨F1, -⟩ := after0 kF kN kc
  have hold : ∀ b, Heap.get? _ b = none → s.heap.get? b = none ∧ b ≠ L0 := fun b e => by
    refine ⟨?_, fun q => ?_⟩
    · cases q : s.heap.get? b with
      | none => rfl
      | some o => rw [kF.keep b o (kb b o (fun z => nomatch z) q)] at e; cases e
    · obtain ⟨o, es, ep, e', _⟩ := kF.ns
      rw [q, e'] at e; cases e
  have hnw := fun b hb => hold b (hnew b hb)
  clear kF kN
  obtain ⟨own0, N1, -, -, hall0⟩ := turn_open [] F1 (fun _ hp => nomatch hp)
  simp only [List.nil_append] at N1
  revert own0
  walk_at "9g"
  intro own0
  clear_value own0
  walk_at "in"
  k_steps
  walk_at "9b"
  walk_at "9a"
  have hK0 := turn_kept (X' := [_, _, _, _, _, _, _, _, _, _, _, _, _, _, _]) kF kN hall0
  have kp : ∀ b, b ∈ [wa, wd, ob, od, rl, nd, ce, cd, fd] → ∀ o, h1.get? b = some o → Heap.get? _ b = some o := fun b hb o e => hK0 b o (fun q => by rw [List.mem_singleton.mp q] at hb; exact (hnw _ hb).2 rfl) e
  have hkl := (kN _ (.head _)).1
  have s0n : ∀ b, g0.get? b = none → s.heap.get? b = none := fun b e => fresh_of kb e (fun q => nomatch q)
  have hitems : All2 (KnV s.heap _) [_, _, _, _, _, _, _, _, _, _, _] known := ⟨tup (o := .add) rfl (kN _ Z14).1 (s0n _ (kN _ Z14).2.2), tup (o := .sub) rfl (kN _ Z13).1 (s0n _ (kN _ Z13).2.2), tup (o := .mul) rfl (kN _ Z12).1 (s0n _ (kN _ Z12).2.2), tup (o := .inc) rfl (kN _ Z11).1 (s0n _ (kN _ Z11).2.2), tup (o := .dec) rfl (kN _ Z10).1 (s0n _ (kN _ Z10).2.2), tup (o := .lt) rfl (kN _ Z9).1 (s0n _ (kN _ Z9).2.2), tup (o := .le) rfl (kN _ Z6).1 (s0n _ (kN _ Z6).2.2), tup (o := .eq) rfl (kN _ Z5).1 (s0n _ (kN _ Z5).2.2), tup (o := .max) rfl (kN _ Z4).1 (s0n _ (kN _ Z4).2.2), tup (o := .min) rfl (kN _ Z3).1 (s0n _ (kN _ Z3).2.2), tup (o := .intp) rfl (kN _ Z2).1 (s0n _ (kN _ Z2).2.2), trivial⟩
  have hklL := (kN _ (.head _)).2.1
  rename (_ < _) ∧ _ => hl1
  have klrl := Nat.ne_of_gt (allLt_mem hl1.2.2.2.2.2.2.2.2.2.2.2.2.2.2 ((hall0 rl _ hrl (hnw _ Z4).2 (fun q => nomatch q)).resolve_left (fun q => by have := kg _ _ q; rw [(hnw rl Z4).1] at this; cases this)))
  have fdL : fd ≠ L0 := (hnw _ Z8).2
  have hds : wd ≠ fd ∧ wd ≠ nd ∧ od ≠ fd ∧ od ≠ nd ∧ cd ≠ fd ∧ cd ≠ nd ∧ nd ≠ fd := ⟨dict_len_ne hwd hfd hfk (by simp), dict_len_ne hwd hnd hnk (by simp), dict_len_ne hod hfd hfk (by simp), ob_ne hod hnd hnk, dict_len_ne hcd hfd hfk (by simp), ce_ne hcd hnd hnk, two_dicts_ne hnd hfd hnk hfk (by simp)⟩
  rename_i kl _ hC
  refine lw_start (s₀ := s.heap) (L := L0) (W := (⟨wa, wd, ob, od, rl, nd, ce, cd, fd, pd, va, ba, t1, t2, t3, t4, t5, t6, t7, t8, t9, t10, t11, t12⟩ : WA)) rfl kF hkl hitems fun its hkl9 hits9 => ⟨?_, LwI.up, ?_, ?_⟩
  · refine ⟨⟨no, fo, [(Str.ofString "nil", .ref 124), (Str.ofString "t", .ref 127)], [], [.ref 124, .ref 127], nn⟩, ?_, ?_, hits9, hkl9, klrl, hklL⟩
    · intro z z1 z2
      by_cases z3 : z = Str.ofString "known"
      · simp only [if_pos z3]
      · simp only [if_neg z3]
        rfl
    · have im : ∀ {b : Addr} {o : Obj}, b ∈ [wa, wd, ob, od, rl, nd, ce, cd, fd] → h1.get? b = some o → b ≠ fd → b ≠ nd → b ≠ rl → Im (HF s.heap _ fd L0) (⟨wa, wd, ob, od, rl, nd, ce, cd, fd, pd, va, ba, t1, t2, t3, t4, t5, t6, t7, t8, t9, t10, t11, t12⟩ : WA) b o := fun hb e n1 n2 n3 => ⟨⟨kp _ hb _ e, (hnw _ hb).1, n1, (hnw _ hb).2⟩, n2, n3⟩
      have nl : ∀ {a : Addr} {es : List DictEntry} {k : Nat}, h1.get? a = some (dictOf es k) → a ≠ rl := fun e => ne_obj e hrl (fun q => by injection q with q; injection q with q; exact absurd q (by decide))
      have ni : ∀ {a C d : Addr}, h1.get? a = some (instObj C d) → a ≠ rl ∧ a ≠ nd ∧ a ≠ fd := fun e => ⟨ne_obj e hrl (fun q => by cases q), ne_obj e hnd (fun q => by obtain ⟨es, ep, _, d, _⟩ := hnk; rw [← q] at d; cases d), ne_obj e hfd (fun q => by obtain ⟨es, ep, _, d, _⟩ := hfk; rw [← q] at d; cases d)⟩
      have n1 := ni hwa
      have n2 := ni hob
      have n3 := ni hce
      exact ⟨im (.head _) hwa n1.2.2 n1.2.1 n1.1, im Z1 hwd hds.1 hds.2.1 (nl hwd), im Z2 hob n2.2.2 n2.2.1 n2.1, im Z3 hod hds.2.2.1 hds.2.2.2.1 (nl hod), im Z6 hce n3.2.2 n3.2.1 n3.1, im Z7 hcd hds.2.2.2.2.1 hds.2.2.2.2.2.1 (nl hcd), ⟨kp _ Z8 _ hfd, (hnw _ Z8).1⟩, ⟨kp _ Z5 _ hnd, (hnw _ Z5).1, hds.2.2.2.2.2.2, (hnw _ Z5).2⟩, ⟨kp _ Z4 _ hrl, (hnw _ Z4).1, ne_obj hrl hfd (fun q => by obtain ⟨es, ep, _, d, _⟩ := hfk; rw [← q] at d; cases d), (hnw _ Z4).2⟩, ne_obj hnd hrl (fun q => by obtain ⟨es, ep, _, d, _⟩ := hnk; rw [q] at d; cases d), hnk, hfk, hnm, hfm, rfl, rfl, rfl, fun j o hj => absurd hj (Nat.not_lt_zero _)⟩
  · clear kF kN
    rintro i v m₁ h₁ tk₁ hi hiv ⟨D, hm, B, hits, hkl1, kn1, kn2⟩ hle F1
    obtain ⟨u, rfl⟩ := locs2 hm
    clear hm
    obtain ⟨o, ho, z⟩ := hits.get (i := i) (a := v) (by simpa using hiv)
    obtain ⟨a, t, dd, dct, n3, sl, rfl, ha, hdd, has⟩ := z.obj
    have hi11 : i < 11 := (List.getElem?_eq_some_iff.mp ho).1
    obtain ⟨no1, fo1, kvs, fvs, rows, n1⟩ := D
    have ndd : ∃ es ep, no1.data = .dict es ep := by obtain ⟨es, ep, _, d, _⟩ := B.hk; exact ⟨es, ep, d⟩
    have fdd : ∃ es ep, fo1.data = .dict es ep := by obtain ⟨es, ep, _, d, _⟩ := B.hf; exact ⟨es, ep, d⟩
    have a1 : a ≠ rl := ne_obj ha B.rl.1 (fun q => by injection q with q; injection q with q; exact absurd q (by decide))
    have a2 : a ≠ nd := ne_obj ha B.nd.1 (fun q => by obtain ⟨es, ep, d⟩ := ndd; rw [show no1 = _ from q.symm] at d; cases d)
    have a3 : a ≠ fd := ne_obj ha B.fd.1 (fun q => by obtain ⟨es, ep, d⟩ := fdd; rw [show fo1 = _ from q.symm] at d; cases d)
    have aL : a ≠ L0 := fun q => by
      obtain ⟨oL, es, ep, e, d, _⟩ := F1.ns
      have e' : h₁.get? L0 = some oL := e
      rw [← (show a = L0 from q), ha] at e'; cases e'; cases d
    have b1 : wa ≠ rl := B.wa.2.2
    have b2 : wa ≠ nd := B.wa.2.1
    have b3 : wa ≠ fd := B.wa.1.2.2.1
    have c1 : wd ≠ rl := B.wd.2.2
    have c2 : wd ≠ nd := B.wd.2.1
    have c3 : wd ≠ fd := B.wd.1.2.2.1
    have d1 : ob ≠ rl := B.ob.2.2
    have d2 : ob ≠ nd := B.ob.2.1
    have d3 : ob ≠ fd := B.ob.1.2.2.1
    have e1 : od ≠ rl := B.od.2.2
    have e2 : od ≠ nd := B.od.2.1
    have e3 : od ≠ fd := B.od.1.2.2.1
    have f1 : ce ≠ rl := B.ce.2.2
    have f2 : ce ≠ nd := B.ce.2.1
    have f3 : ce ≠ fd := B.ce.1.2.2.1
    have g1 : cd ≠ rl := B.cd.2.2
    have g2 : cd ≠ nd := B.cd.2.1
    have g3 : cd ≠ fd := B.cd.1.2.2.1
    have h1' : nd ≠ rl := B.ne
    have h2' : nd ≠ fd := B.nd.2.2.1
    have h3' : rl ≠ fd := B.rl.2.2.1
    have hv : valueAt kvs o.name = none := valueAt_none (by have := B.ky; dsimp only at this; rw [this]; exact known_new ho)
    have hlr : rows.length = 2 + i := B.lr
    have hlk : kvs.length ≤ sizeLine := by
      have := congrArg List.length B.ky
      dsimp only at this
      rw [List.length_map] at this
      rw [this, sizeLine_eq]
      simp only [List.length_cons, List.length_map, List.length_take]
      walk_at "om"
    have hlf : fvs.length ≤ sizeLine := by
      have := congrArg List.length B.fk
      dsimp only at this
      rw [List.length_map] at this
      rw [this, sizeLine_eq]
      simp only [List.length_map, List.length_range]
      walk_at "om"
    have hhk : no1.IsDictOf (PySem.strKind prog w) kvs := B.hk
    have hhf : fo1.IsDictOf (PySem.intKind prog w) fvs := B.hf
    have hns1 := F1.ns
    obtain ⟨own, N1, hoff, ehall, hall⟩ := turn_op [(a, ⟨.type "tuple", dct, .seq #[.str o.name t, .ref dd] n3, sl⟩), (wa, instObj 737 wd), (wd, worldD w.params t3 t4 t5 t6 t7 t8 t9 t10 ob ce va ba), (ob, instObj 569 od), (od, obD w.params t1 t2 rl nd), (nd, no1), (rl, listOf rows.toArray n1), (ce, instObj 492 cd), (cd, cellsD w.params t11 t12 fd pd), (fd, fo1)] F1 (fa1 ⟨ha, aL, none_base kg has⟩ (fa1 ⟨B.wa.1.1, B.wa.1.2.2.2, none_base kg B.wa.1.2.1⟩ (fa1 ⟨B.wd.1.1, B.wd.1.2.2.2, none_base kg B.wd.1.2.1⟩ (fa1 ⟨B.ob.1.1, B.ob.1.2.2.2, none_base kg B.ob.1.2.1⟩ (fa1 ⟨B.od.1.1, B.od.1.2.2.2, none_base kg B.od.1.2.1⟩ (fa1 ⟨B.nd.1, B.nd.2.2.2, none_base kg B.nd.2.1⟩ (fa1 ⟨B.rl.1, B.rl.2.2.2, none_base kg B.rl.2.1⟩ (fa1 ⟨B.ce.1.1, B.ce.1.2.2.2, none_base kg B.ce.1.2.1⟩ (fa1 ⟨B.cd.1.1, B.cd.1.2.2.2, none_base kg B.cd.1.2.1⟩ (fa1 ⟨B.fd.1, fdL, none_base kg B.fd.2⟩ fa0))))))))))
    have N1 : News _ _ _ ((a, ⟨.type "tuple", dct, .seq #[.str o.name t, .ref dd] n3, sl⟩) :: (wa, instObj 737 wd) :: (wd, worldD w.params t3 t4 t5 t6 t7 t8 t9 t10 ob ce va ba) :: (ob, instObj 569 od) :: (od, obD w.params t1 t2 rl nd) :: (nd, no1) :: (rl, listOf rows.toArray n1) :: (ce, instObj 492 cd) :: (cd, cellsD w.params t11 t12 fd pd) :: (fd, fo1) :: own) := N1
    have hoff : OwnOff own [a, wa, wd, ob, od, nd, rl, ce, cd, fd] := hoff
    revert G hd hQ hqk htk0 hsub0 X0 T0 kg kb kc hnew hwa hwd hob hod hrl hnd hce hcd hfd hnk hnm hfk hfm tkc hold hnw hall0 hK0 kp s0n klrl fdL hds hkl9 hits9 hi hits hkl1 kn1 kn2 hle F1 ho hiv z ha hdd has hi11 B ndd fdd a1 a2 a3 aL b1 b2 b3 c1 c2 c3 d1 d2 d3 e1 e2 e3 f1 f2 f3 g1 g2 g3 h1' h2' h3' hv hlr hlk hlf hhk hhf hns1 ehall hall N1 hoff
    apply iy24 kl a dd hC h₁ tk9 i tk₁ n3 n1 its rows u o t dct sl no1 fo1 kvs fvs own mb mg ⟨by walk_at "df"⟩
    intro kl a dd hC h₁ tk9 i tk₁ n3 n1 its rows u o t dct sl no1 fo1 kvs fvs own mb mg
    clear_value kl a dd hC h₁ tk9 i tk₁ n3 n1 its rows u o t dct sl no1 fo1 kvs fvs own mb mg
    walk_at "in"
    k_steps
    walk_at "9b"
    walk_at "9a"
    refine c_symbol_new (Gd.of kF X0 T0) (by walk_at "m_room") (Led.of kN (by lcg_sub)) hhk B.nm hv (by walk_at "om") hlk d2.symm e2.symm h1' b2.symm c2.symm ?_
    intro x d y1 y2 yn n2 no2 h2 tk2 kc nx nd2 hrl2 hnd2 hno2 hx hd2 tkc
    obtain ⟨F2, N0⟩ := after2 kF kN (by k_updF) (by (try dsimp only); k_updF) kc hnd2 hrl2 h1'
    (try dsimp only at N0)
    have x1 := ne_new kN Z5 nx
    have x2 := ne_new kN Z6 nx
    have x3 := ne_new kN Z9 nx
    have x4 := ne_new kN Z5 nd2
    have x5 := ne_new kN Z6 nd2
    have x6 := ne_new kN Z9 nd2
    have N2 := news_new kF nx (news_new kF nd2 N0 hd2) hx
    clear kF kN N0
    have hv2 := hit_stored (v := .ref x) hv
    k_steps
    walk_at "9b"
    walk_at "9a"
    refine c_symbol_hit (Gd.of kF X0 T0) (by walk_at "m_room") (Led.of kN (by lcg_sub)) hno2 B.nm hv2 ?_
    intro h3 tk3 kc3 tkc3
    obtain ⟨F3, N3⟩ := after0 kF kN kc3
    clear kF kN
    k_steps
    walk_at "9b"
    walk_at "9a"
    refine c_new_subr (Gd.of kF X0 T0) (by walk_at "m_room") ?_
    intro ua ud v1 v2 v3 v4 v5 h4 tk4 kc4 nu nud hu hud tkc4
    obtain ⟨F4, N0⟩ := after0 kF kN kc4
    have y1' := ne_new kN Z7 nu
    have y2' := ne_new kN Z8 nu
    have y3' := ne_new kN Z11 nu
    have y4' := ne_new kN Z7 nud
    have y5' := ne_new kN Z8 nud
    have y6' := ne_new kN Z11 nud
    have N4 := news_new kF nu (news_new kF nud N0 hud) hu
    clear kF kN N0
    k_steps
    walk_at "9b"
    walk_at "9a"
    have hx124 : x ≠ 124 := fun q => by
      have e9 := (kN _ Z2).2.2
      rw [show x = 124 from q] at e9
      rw [X0 124 (o124 w.params) (by kernel_rfl)] at e9; cases e9
    refine c_set_function (Gd.of kF X0 T0) (by walk_at "m_room") (Led.of kN (by lcg_sub)) hhf B.fm hlf hx124 ⟨f3.symm, g3.symm, x3, x6, y3', y6'⟩ ?_
    intro fo5 h5 tk5 kc5 hfd5 hfo5 tkc5
    obtain ⟨F5, N5⟩ := after1 kF kN (by k_updF) kc5 hfd5
    (try dsimp only at N5)
    clear kF kN
    k_steps
    walk_at "9b"
    walk_at "9a"
    have hK := turn_butM (M' := [nd, rl, fd, L0]) (X' := [_, _, _, _, _, _, _, _, _, _, _, _, _, _]) kF kN ehall hall Z3 (fa1 (.inr Z4) (fa1 (.inr Z5) (fa1 (.inr Z6) (fa1 (.inr Z7) (fa1 (.inr Z8) (fa1 (.inl (.head _)) (fa1 (.inl Z1) (fa1 (.inr Z11) (fa1 (.inr Z12) (fa1 (.inl Z2) fa0))))))))))
    have hd9 := (kN _ Z3).1
    dsimp only at hd9
    rw [hlr] at hd9 hfo5
    have nw : ∀ b ∈ [x, d, ua, ud], s.heap.get? b = none ∧ b ≠ nd ∧ b ≠ rl ∧ b ≠ fd ∧ b ≠ L0 := fa1 ⟨s0n _ (kN _ Z2).2.2, x1.symm, x2.symm, x3.symm, (kN _ Z2).2.1⟩ (fa1 ⟨s0n _ (kN _ Z3).2.2, x4.symm, x5.symm, x6.symm, (kN _ Z3).2.1⟩ (fa1 ⟨s0n _ (kN _ (.head _)).2.2, y1'.symm, y2'.symm, y3'.symm, (kN _ (.head _)).2.1⟩ (fa1 ⟨s0n _ (kN _ Z1).2.2, y4'.symm, y5'.symm, y6'.symm, (kN _ Z1).2.1⟩ fa0)))
    have hKN := KN.of hK (fa1 ⟨_, B.nd.1, .inl ndd⟩ (fa1 ⟨_, B.rl.1, mu_list⟩ (fa1 ⟨_, B.fd.1, .inl fdd⟩ (fa1 (ns_mu hns1) fa0))))
    have klM : Heap.get? _ _ = _ := hK _ _ (na1 (ne_obj hkl1 B.nd.1 (fun q => by obtain ⟨es, ep, d⟩ := ndd; rw [show no1 = _ from q.symm] at d; cases d)) (na1 kn1 (na1 (ne_obj hkl1 B.fd.1 (fun q => by obtain ⟨es, ep, d⟩ := fdd; rw [show fo1 = _ from q.symm] at d; cases d)) (na1 kn2 na0)))) hkl1
    show EndH _ _ _ _ _ _
    refine EndH.mk kF (fun b o e q => ?_) ⟨_, ?_, PW.step B ho hdd hK (kN _ Z9).1 (kN _ Z10).1 (kN _ Z13).1 hno2 hfo5 (kN _ Z2).1 hd9 (kN _ (.head _)).1 (kN _ Z1).1 nw, hits.mono fun _ _ z => KnV.kn hKN z, klM, kn1, kn2⟩
    · rcases q with q | q
      · exact hKN b o e (it_nmu q)
      · rw [List.mem_singleton.mp q] at e ⊢
        rw [hkl1] at e
        exact e ▸ klM
    · intro z z1 z2
      walk_at "9aM"
  · clear kF kN
    rintro h₁ tk₁ m₁ hle F1 ⟨D, hm, B, hits, hkl1, kn1, kn2⟩
    obtain ⟨u, rfl⟩ := locs2 hm
    clear hm
    rw [List.size_toArray, hits9.length] at B
    change PW prog w s.heap h₁ L0 _ D 11 at B
    obtain ⟨sa, sd, z1, z2, z3, z4, hS0, hS1, hS2, -⟩ := B.sy 5 .lt (by decide) rfl
    obtain ⟨no1, fo1, kvs, fvs, rows, n1⟩ := D
    have ndd : ∃ es ep, no1.data = .dict es ep := by obtain ⟨es, ep, _, d, _⟩ := B.hk; exact ⟨es, ep, d⟩
    have fdd : ∃ es ep, fo1.data = .dict es ep := by obtain ⟨es, ep, _, d, _⟩ := B.hf; exact ⟨es, ep, d⟩
    have a1 : sa ≠ rl := hS1.2.2
    have a2 : sa ≠ nd := hS1.2.1
    have a3 : sa ≠ fd := hS1.1.2.2.1
    have a4 : sd ≠ rl := hS2.2.2
    have a5 : sd ≠ nd := hS2.2.1
    have a6 : sd ≠ fd := hS2.1.2.2.1
    have b1 : wa ≠ rl := B.wa.2.2
    have b2 : wa ≠ nd := B.wa.2.1
    have b3 : wa ≠ fd := B.wa.1.2.2.1
    have c1 : wd ≠ rl := B.wd.2.2
    have c2 : wd ≠ nd := B.wd.2.1
    have c3 : wd ≠ fd := B.wd.1.2.2.1
    have d1 : ob ≠ rl := B.ob.2.2
    have d2 : ob ≠ nd := B.ob.2.1
    have d3 : ob ≠ fd := B.ob.1.2.2.1
    have e1 : od ≠ rl := B.od.2.2
    have e2 : od ≠ nd := B.od.2.1
    have e3 : od ≠ fd := B.od.1.2.2.1
    have f1 : ce ≠ rl := B.ce.2.2
    have f2 : ce ≠ nd := B.ce.2.1
    have f3 : ce ≠ fd := B.ce.1.2.2.1
    have g1 : cd ≠ rl := B.cd.2.2
    have g2 : cd ≠ nd := B.cd.2.1
    have g3 : cd ≠ fd := B.cd.1.2.2.1
    have h1' : nd ≠ rl := B.ne
    have h2' : nd ≠ fd := B.nd.2.2.1
    have h3' : rl ≠ fd := B.rl.2.2.1
    have hv : valueAt kvs (Str.ofString ">") = none := valueAt_none (by have := B.ky; dsimp only at this; rw [this]; decide +kernel)
    have hlr : rows.length = 13 := B.lr
    have hlk : kvs.length ≤ sizeLine := by
      have := congrArg List.length B.ky
      dsimp only at this
      rw [List.length_map] at this
      rw [this, sizeLine_eq]
      simp only [List.length_cons, List.length_map, List.length_take]
      walk_at "om"
    have hlf : fvs.length ≤ sizeLine := by
      have := congrArg List.length B.fk
      dsimp only at this
      rw [List.length_map] at this
      rw [this, sizeLine_eq]
      simp only [List.length_map, List.length_range]
      walk_at "om"
    have hhk : no1.IsDictOf (PySem.strKind prog w) kvs := B.hk
    have hhf : fo1.IsDictOf (PySem.intKind prog w) fvs := B.hf
    have hns1 := F1.ns
    obtain ⟨own, N1, hoff, ehall, hall⟩ := turn_op [(sa, instObj 118 sd), (sd, symD w.params z1 z2 z3 z4 ((2 + 5 : Nat) : Int) (Str.ofString "<")), (wa, instObj 737 wd), (wd, worldD w.params t3 t4 t5 t6 t7 t8 t9 t10 ob ce va ba), (ob, instObj 569 od), (od, obD w.params t1 t2 rl nd), (nd, no1), (rl, listOf rows.toArray n1), (ce, instObj 492 cd), (cd, cellsD w.params t11 t12 fd pd), (fd, fo1)] F1 (fa1 ⟨hS1.1.1, hS1.1.2.2.2, none_base kg hS1.1.2.1⟩ (fa1 ⟨hS2.1.1, hS2.1.2.2.2, none_base kg hS2.1.2.1⟩ (fa1 ⟨B.wa.1.1, B.wa.1.2.2.2, none_base kg B.wa.1.2.1⟩ (fa1 ⟨B.wd.1.1, B.wd.1.2.2.2, none_base kg B.wd.1.2.1⟩ (fa1 ⟨B.ob.1.1, B.ob.1.2.2.2, none_base kg B.ob.1.2.1⟩ (fa1 ⟨B.od.1.1, B.od.1.2.2.2, none_base kg B.od.1.2.1⟩ (fa1 ⟨B.nd.1, B.nd.2.2.2, none_base kg B.nd.2.1⟩ (fa1 ⟨B.rl.1, B.rl.2.2.2, none_base kg B.rl.2.1⟩ (fa1 ⟨B.ce.1.1, B.ce.1.2.2.2, none_base kg B.ce.1.2.1⟩ (fa1 ⟨B.cd.1.1, B.cd.1.2.2.2, none_base kg B.cd.1.2.1⟩ (fa1 ⟨B.fd.1, fdL, none_base kg B.fd.2⟩ fa0)))))))))))
    have N1 : News _ _ _ ((sa, instObj 118 sd) :: (sd, symD w.params z1 z2 z3 z4 ((2 + 5 : Nat) : Int) (Str.ofString "<")) :: (wa, instObj 737 wd) :: (wd, worldD w.params t3 t4 t5 t6 t7 t8 t9 t10 ob ce va ba) :: (ob, instObj 569 od) :: (od, obD w.params t1 t2 rl nd) :: (nd, no1) :: (rl, listOf rows.toArray n1) :: (ce, instObj 492 cd) :: (cd, cellsD w.params t11 t12 fd pd) :: (fd, fo1) :: own) := N1
    have hoff : OwnOff own [sa, sd, wa, wd, ob, od, nd, rl, ce, cd, fd] := hoff
    revert G hd hQ hqk htk0 hsub0 X0 T0 kg kb kc hnew hwa hwd hob hod hrl hnd hce hcd hfd hnk hnm hfk hfm tkc hold hnw hall0 hK0 kp s0n klrl fdL hds hkl9 hits9 hle hits hkl1 kn1 kn2 F1 hS1 hS2 B hS0 ndd fdd a1 a2 a3 a4 a5 a6 b1 b2 b3 c1 c2 c3 d1 d2 d3 e1 e2 e3 f1 f2 f3 g1 g2 g3 h1' h2' h3' hv hlr hlk hlf hhk hhf hns1 ehall hall N1 hoff
    apply iy24 kl sa sd hC h₁ tk9 tk₁ n1 its rows u z1 z2 z3 z4 no1 fo1 kvs fvs own mb mg mean lo ⟨by walk_at "df"⟩
    intro kl sa sd hC h₁ tk9 tk₁ n1 its rows u z1 z2 z3 z4 no1 fo1 kvs fvs own mb mg mean lo
    clear_value kl sa sd hC h₁ tk9 tk₁ n1 its rows u z1 z2 z3 z4 no1 fo1 kvs fvs own mb mg mean lo
    walk_at "in"
    k_steps
    walk_at "9b"
    walk_at "9a"
    refine c_symbol_new (Gd.of kF X0 T0) (by walk_at "m_room") (Led.of kN (by lcg_sub)) hhk B.nm hv (by walk_at "om") hlk d2.symm e2.symm h1' b2.symm c2.symm ?_
    intro x d y1 y2 yn n2 no2 h2 tk2 kc nx nd2 hrl2 hnd2 hno2 hx hd2 tkc
    obtain ⟨F2, N0⟩ := after2 kF kN (by k_updF) (by (try dsimp only); k_updF) kc hnd2 hrl2 h1'
    (try dsimp only at N0)
    have x1 := ne_new kN Z6 nx
    have x2 := ne_new kN Z7 nx
    have x3 := ne_new kN Z10 nx
    have x4 := ne_new kN Z6 nd2
    have x5 := ne_new kN Z7 nd2
    have x6 := ne_new kN Z10 nd2
    have N2 := news_new kF nx (news_new kF nd2 N0 hd2) hx
    clear kF kN N0
    have hv2 : valueAt (stored kvs (Str.ofString ">") (.ref x)) (Str.ofString "<") = some (.ref sa) := by
      rw [stored_new hv, valueAt_app, show valueAt kvs (Str.ofString "<") = _ from hS0]; rfl
    k_steps
    walk_at "9b"
    walk_at "9a"
    refine c_symbol_hit (Gd.of kF X0 T0) (by walk_at "m_room") (Led.of kN (by lcg_sub)) hno2 B.nm hv2 ?_
    intro h3 tk3 kc3 tkc3
    obtain ⟨F3, N3⟩ := after0 kF kN kc3
    clear kF kN
    k_steps
    walk_at "9b"
    walk_at "9a"
    refine c_new_subr (Gd.of kF X0 T0) (by walk_at "m_room") ?_
    intro ua ud v1 v2 v3 v4 v5 h4 tk4 kc4 nu nud hu hud tkc4
    obtain ⟨F4, N0⟩ := after0 kF kN kc4
    have y1' := ne_new kN Z8 nu
    have y2' := ne_new kN Z9 nu
    have y3' := ne_new kN Z12 nu
    have y4' := ne_new kN Z8 nud
    have y5' := ne_new kN Z9 nud
    have y6' := ne_new kN Z12 nud
    have N4 := news_new kF nu (news_new kF nud N0 hud) hu
    clear kF kN N0
    k_steps
    walk_at "9b"
    walk_at "9a"
    have hx124 : x ≠ 124 := fun q => by
      have e9 := (kN _ Z2).2.2
      rw [show x = 124 from q] at e9
      rw [X0 124 (o124 w.params) (by kernel_rfl)] at e9; cases e9
    refine c_set_function (Gd.of kF X0 T0) (by walk_at "m_room") (Led.of kN (by lcg_sub)) hhf B.fm hlf hx124 ⟨f3.symm, g3.symm, x3, x6, y3', y6'⟩ ?_
    intro fo5 h5 tk5 kc5 hfd5 hfo5 tkc5
    obtain ⟨F5, N5⟩ := after1 kF kN (by k_updF) kc5 hfd5
    (try dsimp only at N5)
    clear kF kN
    k_steps
    walk_at "9b"
    walk_at "9a"
    have hK := turn_butM (M' := [nd, rl, fd, L0]) (X' := [_, _, _, _, _, _, _, _, _, _, _, _, _, _, _]) kF kN ehall hall Z3 (fa1 (.inr Z4) (fa1 (.inr Z5) (fa1 (.inr Z6) (fa1 (.inr Z7) (fa1 (.inr Z8) (fa1 (.inr Z9) (fa1 (.inl (.head _)) (fa1 (.inl Z1) (fa1 (.inr Z12) (fa1 (.inr Z13) (fa1 (.inl Z2) fa0)))))))))))
    have hd9 := (kN _ Z3).1
    dsimp only at hd9
    rw [hlr] at hd9 hfo5
    have nw : ∀ b ∈ [x, d, ua, ud], s.heap.get? b = none ∧ b ≠ nd ∧ b ≠ rl ∧ b ≠ fd ∧ b ≠ L0 := fa1 ⟨s0n _ (kN _ Z2).2.2, x1.symm, x2.symm, x3.symm, (kN _ Z2).2.1⟩ (fa1 ⟨s0n _ (kN _ Z3).2.2, x4.symm, x5.symm, x6.symm, (kN _ Z3).2.1⟩ (fa1 ⟨s0n _ (kN _ (.head _)).2.2, y1'.symm, y2'.symm, y3'.symm, (kN _ (.head _)).2.1⟩ (fa1 ⟨s0n _ (kN _ Z1).2.2, y4'.symm, y5'.symm, y6'.symm, (kN _ Z1).2.1⟩ fa0)))
    refine hqk _ _ ?_
    walk_at "9h"
    intro kk ll ht
    exact hQ _ _ _ _ kk (PW.fin B hK (kN _ Z10).1 (kN _ Z11).1 (kN _ Z14).1 hno2 hfo5 (kN _ Z2).1 hd9 (kN _ (.head _)).1 (kN _ Z1).1 nw) ht
theorem zg_lw : True := trivial
theorem zrr28 : True := by
  k_with "@subscriptTail" => ((fail_if_success have := zg_lines); (k_here; (fail_if_success (with_reducible show wpAny _ _ (subscriptTail (PySem.Expr.Name _ _) _ _ _) _ _ _)); k_dflt (refine kba_turn (value' := PySem.Expr.Name (PySem.Str.ofString "_") ⟨0, 0, 0, 0⟩) (fun _ => rfl) ?_)))
  trivial
def NeA (a b : Addr) : Prop := a ≠ b
theorem NeA.ne {a b : Addr} (h : NeA a b) : a ≠ b := h
theorem zrr29 : True := by
  k_with "@m_ne" => ((fail_if_success have := zg_lines); (refine neN ?_; (try dsimp only); first
    | exact NeA.ne (by with_reducible assumption) | exact Ne.symm (NeA.ne (by with_reducible assumption))
    | (with_reducible assumption) | exact Ne.symm (by with_reducible assumption)
    | walk_at "nj"
    | ((try simp only [LCg.Off3, LCg.Off1, and_true] at *); walk_at "om")))
  k_with "@exec For Name Call cons nil" => ((fail_if_success have := zg_lines); (k_here; (with_reducible rename Fr _ _ _ _ => lF9'); (with_unfolding_all refine' For_H lF9' ?_; k_whole)))
  k_with "@call type:range" => ((fail_if_success have := zg_lines); (k_here; (with_reducible show wpAny _ _ (call (Value.type "range") [Value.int _ _]) _ _ _); (refine' range_K ?k1_108 ?k2_108 ?_; (case k1_108 => k_asm); (case k2_108 => k_asm)); intro h2 r2 t19' t29' t39' hr9' F9' N9' hkk; (try k_sweep)))
  k_with "@subscriptTail Name Call ref int" => ((fail_if_success have := zg_lines); (k_here; (with_reducible rename News _ _ _ _ => kN9'); (refine' item_base ?k1_109 ?k2_109 ?k3_109 ?k4_109 ?_ ?k5_109; (case k1_109 => exact led_list kN9' (by k_mem)); (case k2_109 => with_reducible assumption); (case k3_109 => first | (simp only [List.length_cons, List.length_nil]; done) | (simp only [List.length_cons, List.length_nil]; walk_at "om")); (case k4_109 => with_unfolding_all rfl); (case k5_109 => intro _; with_unfolding_all rfl))))
  k_with "@subscriptTail" => ((fail_if_success have := zg_lines); (k_here; (with_reducible rename News _ _ _ _ => kN9'); (refine' item_base ?k1_110 ?k2_110 ?k3_110 ?k4_110 ?_ ?k5_110; (case k1_110 => exact led_list kN9' (by k_mem)); (case k2_110 => with_reducible assumption); (case k3_110 => first | (simp only [List.length_cons, List.length_nil]; done) | (simp only [List.length_cons, List.length_nil]; walk_at "om")); (case k4_110 => with_unfolding_all rfl); (case k5_110 => intro _; with_unfolding_all rfl))))
  k_with "@last subscriptTail" => ((fail_if_success have := zg_lines); (k_here; (with_reducible rename News _ _ _ _ => kN9'); (refine' item_base ?k1_111 ?k2_111 ?k3_111 ?k4_111 ?_ ?k5_111; (case k1_111 => exact led_list kN9' (by k_mem)); (case k2_111 => with_reducible assumption); (case k3_111 => first | (simp only [List.length_cons, List.length_nil]; done) | (simp only [List.length_cons, List.length_nil]; walk_at "om")); (case k4_111 => with_unfolding_all rfl); (case k5_111 => intro _; with_unfolding_all rfl))))
  k_with "@ln_loc" => ((fail_if_success have := zg_lines); (intro z9 z19 z29 z39 z49; by_cases z5 : z9 = Str.ofString "have" <;> first | (simp only [if_neg z19, if_neg z29, if_neg z39, if_neg z49, if_pos z5]; done) | (simp only [if_neg z19, if_neg z29, if_neg z39, if_neg z49, if_pos z5]; rfl) | (simp only [if_neg z19, if_neg z29, if_neg z39, if_neg z49, if_neg z5]; done) | (simp only [if_neg z19, if_neg z29, if_neg z39, if_neg z49, if_neg z5]; rfl)))
  trivial
def c_law_lines.zS (pa cl ca cd vl : Addr) (cvs : List Value) (cells : List Int) (seed : Int) (t0 t1 t2 : Tok) (n n1 n2 : Nat) : Prop := ∀  (G : Gd w p lo mean mg mb h₀ s) (hd : dp + 12 < recursionLimit) (hu : un + 200 < cLine) (hpa : s.heap.get? pa = some (listOf #[.ref cl, .int 0 t1, .int seed t2] n)) (hcl : s.heap.get? cl = some (listOf cvs.toArray n2)) (hca : s.heap.get? ca = some (instObj 276 cd)) (hcd : s.heap.get? cd = some (consD w.params t0 vl)) (hvl : s.heap.get? vl = some (listOf #[] n1)) (h0 : h₀.get? pa = none ∧ h₀.get? cl = none ∧ h₀.get? ca = none ∧ h₀.get? cd = none ∧ h₀.get? vl = none) (hI : IntsAre cvs cells) (hc : ∀ c ∈ cells, 0 ≤ c) (hcn : cells.length ≤ 48) (hs : 0 ≤ seed) (hs2 : seed ≤ 100000) (ht1 : 1 ≤ s.toks) (hne : cl ≠ pa ∧ pa ≠ vl ∧ cl ≠ vl) (hQ : ∀ fl fvs vals fn vn lns cs n9 h' tk', s.heap.get? fl = none → h'.get? fl = some (listOf fvs.toArray fn) → h'.get? vl = some (listOf vals.toArray vn) → All2 (LnZ h₀ h') fvs lns → (∀ l ∈ lns, l.ok cs) → AtsV vals cs → TokOK vals → (∀ j t, Value.int j t ∈ vals → t < tk') → Bd 3 cs → lns.length ≤ 12 → vals.length ≤ 12 → Runs lns cs n9 → Kept [pa, vl] s.heap h' → s.toks ≤ tk' → Q (.ref fl) {s with heap := h', toks := tk'}), wpAny (model prog w) (At0 dp un fr gd) (call (.ref 767) [.ref pa, .ref ca]) Q E s
end
noncomputable section
namespace c_law_lines
def zP (c : Program × World × Nat × Nat × (Option (List Env)) × (Option (List Code)) × Shared × Heap × Program × (List Str) × (ExcName → Option Value) × (Str → Option Value) × (Str → Option Value) × (Value → Shared → Prop) × (Value → Shared → Prop) × Addr × Addr × Addr × Addr × Addr × (List Value) × (List Int) × Int × Tok × Tok × Tok × Nat × Nat × Nat) : Prop := @zS c.1 c.2.1 c.2.2.1 c.2.2.2.1 (d4 c).1 (d4 c).2.1 (d4 c).2.2.1 (d4 c).2.2.2.1 (d4 (d4 c)).1 (d4 (d4 c)).2.1 (d4 (d4 c)).2.2.1 (d4 (d4 c)).2.2.2.1 (d4 (d4 (d4 c))).1 (d4 (d4 (d4 c))).2.1 (d4 (d4 (d4 c))).2.2.1 (d4 (d4 (d4 c))).2.2.2.1 (d16 c).1 (d16 c).2.1 (d16 c).2.2.1 (d16 c).2.2.2.1 (d4 (d16 c)).1 (d4 (d16 c)).2.1 (d4 (d16 c)).2.2.1 (d4 (d16 c)).2.2.2.1 (d4 (d4 (d16 c))).1 (d4 (d4 (d16 c))).2.1 (d4 (d4 (d16 c))).2.2.1 (d4 (d4 (d16 c))).2.2.2.1 (d4 (d4 (d4 (d16 c))))
@[irreducible] def zk := Classical.choice (ep_ne (by walk_at "df") zP)
@[irreducible] def prog := zk.1.1
@[irreducible] def w := zk.1.2.1
@[irreducible] def dp := zk.1.2.2.1
@[irreducible] def un := zk.1.2.2.2.1
@[irreducible] def fr := (d4 zk.1).1
@[irreducible] def gd := (d4 zk.1).2.1
@[irreducible] def s := (d4 zk.1).2.2.1
@[irreducible] def h₀ := (d4 zk.1).2.2.2.1
@[irreducible] def p := (d4 (d4 zk.1)).1
@[irreducible] def lo := (d4 (d4 zk.1)).2.1
@[irreducible] def mean := (d4 (d4 zk.1)).2.2.1
@[irreducible] def mg := (d4 (d4 zk.1)).2.2.2.1
@[irreducible] def mb := (d4 (d4 (d4 zk.1))).1
@[irreducible] def Q := (d4 (d4 (d4 zk.1))).2.1
@[irreducible] def E := (d4 (d4 (d4 zk.1))).2.2.1
@[irreducible] def pa := (d4 (d4 (d4 zk.1))).2.2.2.1
@[irreducible] def cl := (d16 zk.1).1
@[irreducible] def ca := (d16 zk.1).2.1
@[irreducible] def cd := (d16 zk.1).2.2.1
@[irreducible] def vl := (d16 zk.1).2.2.2.1
@[irreducible] def cvs := (d4 (d16 zk.1)).1
@[irreducible] def cells := (d4 (d16 zk.1)).2.1
@[irreducible] def seed := (d4 (d16 zk.1)).2.2.1
@[irreducible] def t0 := (d4 (d16 zk.1)).2.2.2.1
@[irreducible] def t1 := (d4 (d4 (d16 zk.1))).1
@[irreducible] def t2 := (d4 (d4 (d16 zk.1))).2.1
@[irreducible] def n := (d4 (d4 (d16 zk.1))).2.2.1
@[irreducible] def n1 := (d4 (d4 (d16 zk.1))).2.2.2.1
@[irreducible] def n2 := (d4 (d4 (d4 (d16 zk.1))))
def zp0 : PSigma fun P0 : Heap → Heap → Heap → Heap → Addr → Addr → Tok → Tok → (Flow → Shared → Prop) → (Value → Shared → Prop) → Nat → Nat → Nat → Nat → Nat → Nat → Tok → Tok → Tok → Tok → Tok → (List Value) → (List Value) → (List Ln) → (List At) → Int → Int → (Str → Option Value) → (List (Addr × Obj)) → Prop => (∀ g0 h1 h2 h₁ L0 fl tk10 t9 qk ek r13 i fn vn pn hv tk1 tk₁ th u1 u2 fvs vals lns cs at9 sd u own, P0 g0 h1 h2 h₁ L0 fl tk10 t9 qk ek r13 i fn vn pn hv tk1 tk₁ th u1 u2 fvs vals lns cs at9 sd u own) → @zS prog w dp un fr gd s h₀ p lo mean mg mb Q E pa cl ca cd vl cvs cells seed t0 t1 t2 n n1 n2 := by
  refine' ⟨_, fun zH0 => ?zG⟩
  case zG =>
    unfold zS
    intro G hd hu hpa hcl hca hcd hvl h0 hI hc hcn hs hs2 ht1 hne hQ
    walk_at "9d"
    have LL : Led h₀ s.heap [(pa, listOf #[.ref cl, .int 0 t1, .int seed t2] n), (cl, listOf cvs.toArray n2), (ca, instObj 276 cd), (cd, consD w.params t0 vl), (vl, listOf #[] n1)] := (fa1 ⟨hpa, h0.1⟩ (fa1 ⟨hcl, h0.2.1⟩ (fa1 ⟨hca, h0.2.2.1⟩ (fa1 ⟨hcd, h0.2.2.2.1⟩ (fa1 ⟨hvl, h0.2.2.2.2⟩ fa0)))))
    refine' enterM2 (M := [pa, cl, ca, cd, vl]) (binds := [(Str.ofString "pot", .ref pa), (Str.ofString "constants", .ref ca)]) ?hM G LL ?ho ?hcd ?hr ?hb ?hl ?_ ?c1 ?c2 ?c3 ?c4
    walk_at "9m"
    walk_at "m_rest"
    have hst := base_of G LL kb
    have di : ∀ {y : Addr} {vs : Array Value} {k : Nat}, s.heap.get? y = some (listOf vs k) → NeA y ca ∧ NeA y cd := fun e => ⟨ne_obj e hca (fun q => by cases q), ne_obj e hcd (fun q => by injection q with q; injection q with q; exact absurd q (by decide))⟩
    have n1' : NeA cl pa := hne.1
    have n2' : NeA pa vl := hne.2.1
    have n3' : NeA cl vl := hne.2.2
    have n4' := (di hpa).1
    have n5' := (di hpa).2
    have n6' := (di hvl).1
    have n7' := (di hvl).2
    clear hne di
    have hL0 : s.heap.get? L0 = none := local_new kb F0 N0
    have g0n : ∀ b ∈ [pa, cl, ca, cd, vl], g0.get? b = none := (fa1 ((N0 (_, _) (.head _)).2.2) (fa1 ((N0 (_, _) Z1).2.2) (fa1 ((N0 (_, _) Z2).2.2) (fa1 ((N0 (_, _) Z3).2.2) (fa1 ((N0 (_, _) Z4).2.2) fa0)))))
    have hnL : ∀ {y : Addr} {o : Obj}, s.heap.get? y = some o → y ≠ L0 := fun e q => by rw [q, hL0] at e; cases e
    k_steps
    walk_at "9b"
    walk_at "9a"
    rename_i fl _ l1 _ _ l2 _ _ _
    rename _ ≤ tk9 => htkA
    rename Tok => tkA
    refine c_law_dip (Gd.of kF X0 T0) (by walk_at "m_room") (led_get kN Z2) (led_get kN Z3) ⟨led_new kN Z2, led_new kN Z3⟩ hI hc hcn (by decide) (by decide) hs hs2 (by decide) (by decide) (NeA.ne n1') ?_
    intro r13 t1' t2' t3' sd' n' h1 tk1 hr13 hsd0 hsd1 kc1 hpa1 htk1
    obtain ⟨F1, N1⟩ := after1 kF kN (by k_updF) kc1 hpa1
    (try dsimp only at N1)
    dsimp only at htk1
    clear kF kN
    k_steps
    walk_at "9b"
    walk_at "9a"
    rename IsRange _ _ _ _ _ _ _ _ => hr
    have flN : s.heap.get? fl = none := fresh_of kb (led_new kN Z1) (na1 (Nat.ne_of_gt l1.1) (na1 (Nat.ne_of_gt l1.2.1) (na1 (Nat.ne_of_gt l1.2.2.1) (na1 (Nat.ne_of_gt l1.2.2.2.1) (na1 (Nat.ne_of_gt l1.2.2.2.2) na0)))))
    have flL : fl ≠ L0 := (kN _ Z1).2.1
    have hK0 : Kept [pa, vl] s.heap h2 := fun b o hb e => by
      by_cases q : b ∈ [ca, cd, cl]
      · walk_at "9ay"
        rcases q with rfl | rfl | rfl
        · rw [hca] at e; cases e; exact led_get kN Z4
        · rw [hcd] at e; cases e; exact led_get kN Z5
        · rw [hcl] at e; cases e; exact led_get kN Z3
      · refine kF.keep b o (kb b o (fun z => ?_) e)
        simp only [map_cons, map_nil, mem_cons, not_mem_nil, or_false] at z hb q
        rcases z with z | z | z | z | z
        · exact hb (.inl z)
        · exact q (.inr (.inr z))
        · exact q (.inl z)
        · exact q (.inr (.inl z))
        · exact hb (.inr z)
    have hth : ∀ b o, s.heap.get? b = some o → ∃ o', h2.get? b = some o' := fun b o e => by
      by_cases hb : b ∈ [pa, vl]
      · walk_at "9C"
        rcases hb with rfl | rfl
        · exact ⟨_, led_get kN Z2⟩
        · exact ⟨_, led_get kN Z6⟩
      · exact ⟨o, hK0 b o hb e⟩
    refine ln_start (h₀ := h₀) (s₀ := s.heap) (pa := pa) (cl := cl) (vl := vl) (ca := ca) rfl kF hr (by walk_at "om") (led_get kN Z1) ⟨?_, LnI.up hth, ?_, ?_⟩
    · refine ⟨[], [], 0, n1, n', [], [], 0, tk10, 0 + 1, sd', t1', t2', fun z _ _ _ _ => ?_, led_get kN Z1, led_get kN Z6, led_get kN Z2, trivial, fun _ q => (nomatch q), trivial, ⟨fun _ _ q => (nomatch q), fun _ _ _ q => (nomatch q)⟩, fun _ _ q => (nomatch q), by walk_at "m_tok", fun _ q => (nomatch q), rfl, Nat.le_refl _, Runs.nil, by walk_at "om", by walk_at "om", hsd0, hsd1, hK0⟩
      by_cases z5 : z = Str.ofString "have"
      · simp only [if_pos z5]
        rw [if_neg (by rw [z5]; decide)]; rfl
      · simp only [if_neg z5, List.reverse_cons, List.reverse_nil, List.nil_append, List.cons_append, lookup_ite]; rfl
    · clear kF kN
      rintro i v m₁ h₁ tk₁ hi ⟨t9, rfl⟩ ⟨fvs, vals, fn, vn, pn, lns, cs, hv, th, at9, sd, u1, u2, hm, B⟩ hle F2
      obtain ⟨u, rfl⟩ := locs4 hm
      clear hm
      have f1 : NeA fl vl := fun q => by rw [q, hvl] at flN; cases flN
      have f2 : NeA fl pa := fun q => by rw [q, hpa] at flN; cases flN
      have f3 : NeA fl cl := fun q => by rw [q, hcl] at flN; cases flN
      have f4 : NeA fl ca := fun q => by rw [q, hca] at flN; cases flN
      have f5 : NeA fl cd := fun q => by rw [q, hcd] at flN; cases flN
      have hcl1 := B.kp9 cl _ (fun q => by
        walk_at "99"
        · exact n1' q
        · exact n3' (List.mem_singleton.mp q)) hcl
      have hca1 := B.kp9 ca _ (fun q => by
        walk_at "99"
        · exact n4' q.symm
        · exact n6' (List.mem_singleton.mp q).symm) hca
      have hcd1 := B.kp9 cd _ (fun q => by
        walk_at "99"
        · exact n5' q.symm
        · exact n7' (List.mem_singleton.mp q).symm) hcd
      have b1 := B.a09
      have b2 : at9 ≤ 9000 := Int.le_trans B.a19 (by walk_at "om")
      have b5 : 0 ≤ at9 + 1 := by walk_at "om"
      have b6 : at9 ≤ 10000 := by walk_at "om"
      have b7 : at9 + 1 ≤ 10000 := by walk_at "om"
      have b3 := B.s09
      have b4 := B.s19
      have hlf9 : fvs.length ≤ 12 := by rw [B.ln9.length, B.lf9]; walk_at "om"
      have hns := F2.ns
      obtain ⟨own, N2, hoff, ehall, hall⟩ := turn_op [(fl, listOf fvs.toArray fn), (vl, listOf vals.toArray vn), (pa, listOf #[.ref cl, .int at9 u1, .int sd u2] pn), (cl, listOf cvs.toArray n2), (ca, instObj 276 cd), (cd, consD w.params t0 vl)] F2 (fa1 ⟨B.fl9, flL, none_base kg flN⟩ (fa1 ⟨B.vl9, hnL hvl, g0n _ (by simp)⟩ (fa1 ⟨B.pa9, hnL hpa, g0n _ (by simp)⟩ (fa1 ⟨hcl1, hnL hcl, g0n _ (by simp)⟩ (fa1 ⟨hca1, hnL hca, g0n _ (by simp)⟩ (fa1 ⟨hcd1, hnL hcd, g0n _ (by simp)⟩ fa0))))))
      have N2 : News _ _ _ ((fl, listOf fvs.toArray fn) :: (vl, listOf vals.toArray vn) :: (pa, listOf #[.ref cl, .int at9 u1, .int sd u2] pn) :: (cl, listOf cvs.toArray n2) :: (ca, instObj 276 cd) :: (cd, consD w.params t0 vl) :: own) := N2
      have hoff : OwnOff own [fl, vl, pa, cl, ca, cd] := hoff
      have hdrop : ∀ {h' : Heap}, h'.get? cl = some (listOf cvs.toArray n2) → h'.get? ca = some (instObj 276 cd) → h'.get? cd = some (consD w.params t0 vl) → Kept (L0 :: [fl, vl, pa, cl, ca, cd]) h₁ h' → Kept [L0, fl, vl, pa] h₁ h' := fun q0 q1 q2 k => k.drop (fa1 (.inl (.head _)) (fa1 (.inl Z1) (fa1 (.inl Z2) (fa1 (.inl Z3) (fa1 (.inr ⟨_, hcl1, q0⟩) (fa1 (.inr ⟨_, hca1, q1⟩) (fa1 (.inr ⟨_, hcd1, q2⟩) fa0)))))))
      clear_value qk ek
      revert G hd hu hpa hcl hca hcd hvl h0 hI hc hcn hs hs2 ht1 htk0 hsub0 X0 T0 kg kb hst n1' n2' n3' n4' n5' n6' n7' hL0 g0n hnL l1 hr13 flN flL hK0 hth hi B hle F2 f1 f2 f3 f4 f5 hcl1 hca1 hcd1 b1 b2 b5 b6 b7 b3 b4 hlf9 hns N2 hoff ehall hall hdrop
      exact zH0 g0 h1 h2 h₁ L0 fl tk10 t9 qk ek r13 i fn vn pn hv tk1 tk₁ th u1 u2 fvs vals lns cs at9 sd u own
    · clear kF kN
      rintro h' tk9 m' ht9 F9 ⟨fvs, vals, fn, vn, pn, lns, cs, hv, th, at9, sd, u1, u2, hm, B⟩
      obtain ⟨u, rfl⟩ := locs4 hm
      clear hm
      have hns := F9.ns
      obtain ⟨own, N9, hoff, -, hall⟩ := turn_open [(fl, _)] F9 (by
        intro p hp
        rw [List.mem_singleton.mp hp]
        exact ⟨B.fl9, flL, none_base kg flN⟩)
      simp only [List.cons_append, List.nil_append] at N9
      k_steps
      walk_at "9b"
      walk_at "9a"
      have hK := turn_kept (X' := [_]) kF kN hall
      have e1 := (kN _ (.head _)).1
      walk_at "9h"
      intro kk ll ht
      have hKN := KN.of hK (fun b hb => by
        (try simp only [map_cons, map_nil] at hb)
        walk_at "9C"
        rcases hb with rfl | rfl
        · exact ns_mu hns
        · exact ⟨_, B.fl9, mu_list⟩)
      have e2 := hK vl _ (na1 (hnL hvl) (na1 (fun q => by rw [q] at hvl; rw [flN] at hvl; cases hvl) na0)) B.vl9
      refine hQ fl fvs vals _ _ lns cs hv _ _ flN e1 e2 (B.ln9.mono fun _ _ z => z.kn hKN) B.lk9 B.av9 B.ok9 (fun j t q => Nat.lt_of_lt_of_le (B.tk9 j t q) ?_) B.bd9 (by rw [B.lf9]; walk_at "om") (Nat.le_trans B.lv9 (by walk_at "om")) B.rn9 (B.kp9.app hK fun b o hb e q => ?_) ht
      · walk_at "m_tok"
      · skip
        simp only [map_cons, map_nil, mem_cons, not_mem_nil, or_false] at q
        rcases q with rfl | rfl
        · rw [hL0] at e; cases e
        · rw [flN] at e; cases e
def zc0a (c : Heap × Heap × Heap × Heap × Addr × Addr × Tok × Tok × (Flow → Shared → Prop) × (Value → Shared → Prop) × Nat × Nat × Nat × Nat × Nat × Nat × Tok × Tok × Tok × Tok × Tok × (List Value) × (List Value) × (List Ln) × (List At) × Int × Int × (Str → Option Value) × (List (Addr × Obj))) : Prop := zp0.1 c.1 c.2.1 c.2.2.1 c.2.2.2.1 (d4 c).1 (d4 c).2.1 (d4 c).2.2.1 (d4 c).2.2.2.1 (d4 (d4 c)).1 (d4 (d4 c)).2.1 (d4 (d4 c)).2.2.1 (d4 (d4 c)).2.2.2.1 (d4 (d4 (d4 c))).1 (d4 (d4 (d4 c))).2.1 (d4 (d4 (d4 c))).2.2.1 (d4 (d4 (d4 c))).2.2.2.1 (d16 c).1 (d16 c).2.1 (d16 c).2.2.1 (d16 c).2.2.2.1 (d4 (d16 c)).1 (d4 (d16 c)).2.1 (d4 (d16 c)).2.2.1 (d4 (d16 c)).2.2.2.1 (d4 (d4 (d16 c))).1 (d4 (d4 (d16 c))).2.1 (d4 (d4 (d16 c))).2.2.1 (d4 (d4 (d16 c))).2.2.2.1 (d4 (d4 (d4 (d16 c))))
@[irreducible] def zk0a := Classical.choice (ep_ne (by walk_at "df") zc0a)
namespace z0a
@[irreducible] def g0 := zk0a.1.1
@[irreducible] def h1 := zk0a.1.2.1
@[irreducible] def h2 := zk0a.1.2.2.1
@[irreducible] def h₁ := zk0a.1.2.2.2.1
@[irreducible] def L0 := (d4 zk0a.1).1
@[irreducible] def fl := (d4 zk0a.1).2.1
@[irreducible] def tk10 := (d4 zk0a.1).2.2.1
@[irreducible] def t9 := (d4 zk0a.1).2.2.2.1
@[irreducible] def qk := (d4 (d4 zk0a.1)).1
@[irreducible] def ek := (d4 (d4 zk0a.1)).2.1
@[irreducible] def r13 := (d4 (d4 zk0a.1)).2.2.1
@[irreducible] def i := (d4 (d4 zk0a.1)).2.2.2.1
@[irreducible] def fn := (d4 (d4 (d4 zk0a.1))).1
@[irreducible] def vn := (d4 (d4 (d4 zk0a.1))).2.1
@[irreducible] def pn := (d4 (d4 (d4 zk0a.1))).2.2.1
@[irreducible] def hv := (d4 (d4 (d4 zk0a.1))).2.2.2.1
@[irreducible] def tk1 := (d16 zk0a.1).1
@[irreducible] def tk₁ := (d16 zk0a.1).2.1
@[irreducible] def th := (d16 zk0a.1).2.2.1
@[irreducible] def u1 := (d16 zk0a.1).2.2.2.1
@[irreducible] def u2 := (d4 (d16 zk0a.1)).1
@[irreducible] def fvs := (d4 (d16 zk0a.1)).2.1
@[irreducible] def vals := (d4 (d16 zk0a.1)).2.2.1
@[irreducible] def lns := (d4 (d16 zk0a.1)).2.2.2.1
@[irreducible] def cs := (d4 (d4 (d16 zk0a.1))).1
@[irreducible] def at9 := (d4 (d4 (d16 zk0a.1))).2.1
@[irreducible] def sd := (d4 (d4 (d16 zk0a.1))).2.2.1
@[irreducible] def u := (d4 (d4 (d16 zk0a.1))).2.2.2.1
@[irreducible] def own := (d4 (d4 (d4 (d16 zk0a.1))))
theorem zt0a : zp0.1 g0 h1 h2 h₁ L0 fl tk10 t9 qk ek r13 i fn vn pn hv tk1 tk₁ th u1 u2 fvs vals lns cs at9 sd u own := by
  delta zp0
  dsimp only
  set_option tactic.hygienic false in intros
  k_steps
  walk_at "9b"
  walk_at "9a"
  refine c_law_dip (many := 9) (Gd.of kF X0 T0) (by walk_at "m_room") (led_get kN Z2) (led_get kN Z3) ⟨led_new kN Z2, led_new kN Z3⟩ hI hc hcn b1 b6 b3 b4 (by decide) (by decide) (NeA.ne n1') ?_
  intro ra w1a w2a w3a sda pna ha tka hra hsla hsua kca hpaa htka
  obtain ⟨Fa', Na'⟩ := after1 kF kN (by k_updF) kca hpaa
  dsimp only at htka Na'
  clear kF kN
  k_steps
  · walk_at "9b"
    walk_at "9a"
    refine c_law_dip (many := 8) (Gd.of kF X0 T0) (by walk_at "m_room") (led_get kN Z3) (led_get kN Z4) ⟨led_new kN Z3, led_new kN Z4⟩ hI hc hcn b5 b7 hsla hsua (by decide) (by decide) (NeA.ne n1') ?_
    walk_at "9K"
    walk_at "9Q"
    dsimp only at htkb Nb'
    clear kF kN
    obtain ⟨x, a, hx, hva, hma, htn⟩ := pick8 Nb' (.head _) rfl hrb
    have htx := htn tk₁ tkb ([] : List Value) (by refine ⟨?_, ?_, ?_, ?_, ?_, ?_⟩ <;> walk_at "om") (by refine ⟨?_, ?_, ?_, ?_, ?_, ?_⟩ <;> walk_at "om")
    clear htn
    have hvt : TokFor vals x := tok_for (xs := []) B.ok9 (fun _ q => nomatch q) B.tk9 (Nat.le_refl _) B.t19 htx
    k_steps
    walk_at "9b"
    walk_at "9a"
    refine wpAny_with_toks (Nat.le_refl _) (c_index_of (Gd.of kF X0 T0) (by walk_at "m_room") (led_get kN Z5) (led_get kN Z6) (led_get kN Z2) ⟨led_new kN Z5, led_new kN Z6, led_new kN Z2⟩ B.av9 B.ok9 hva hvt (Nat.le_trans B.lv9 (by walk_at "om")) ?_ ?_)
    · intro k t7 h4 tk4 hpos kk4 ht4
      dsimp only at ht4
      walk_at "9ag"
      clear kF kN
      k_steps
      walk_at "9b"
      walk_at "9a"
      have hz : LnZ h₀ _ (.ref _) (.c k) := ⟨_, _, t7, rfl, ⟨_, (kN _ (.head _)).1, rfl, _, rfl⟩, none_base hst (kN _ (.head _)).2.2⟩
      walk_at "9L"
      have NX := fun (tkz : Nat) (htz : tkb ≤ tkz) => LS.next (x := .c k) (tk' := tkz) B hL0 flN (ns_mu hns) (hdrop (led_get kN Z5) (led_get kN Z6) (led_get kN Z7) (turn_kept (X' := [_, _, _, _, _, _, _, _]) kF kN hall)) (led_get kN Z2) (led_get kN Z3) (led_get kN Z4) hz (List.getElem?_eq_some_iff.mp (posOf_get hpos)).1 Ext.refl B.av9 B.ok9 (fun j t q => Nat.lt_of_lt_of_le (B.tk9 j t q) (Nat.le_trans ht1b htz)) (Nat.le_trans ht1b htz) B.bd9 (Nat.le_succ_of_le B.lv9) (B.rn9.const (List.getElem?_eq_some_iff.mp (posOf_get hpos)).1) (by walk_at "om") (by walk_at "om") hslb hsub
      show EndH _ _ _ _ _ _
      walk_at "9q"
      walk_at "9af"
      (case tks => walk_at "m_tok")
    · intro t7 n4 h4 tk4 hpos kk4 hvl4 ht4
      dsimp only at ht4
      walk_at "9aH"
      (try dsimp only at N')
      clear kF kN
      k_steps
      walk_at "9b"
      walk_at "9a"
      have hz : LnZ h₀ _ (.ref _) (.c vals.length) := ⟨_, _, t7, rfl, ⟨_, (kN _ (.head _)).1, rfl, _, rfl⟩, none_base hst (kN _ (.head _)).2.2⟩
      walk_at "9L"
      have NX := fun (tkz : Nat) (htz : tkb ≤ tkz) => LS.next (x := .c vals.length) (tk' := tkz) B hL0 flN (ns_mu hns) (hdrop (led_get kN Z5) (led_get kN Z6) (led_get kN Z7) (turn_kept (X' := [_, _, _, _, _, _, _, _]) kF kN hall)) (led_get kN Z2) (led_get kN Z3) (led_get kN Z4) hz (by show vals.length < (cs ++ [a]).length; rw [B.av9.length, List.length_append]; exact Nat.lt_succ_self _) Ext.app (B.av9.snoc hva) (B.ok9.snoc hvt) (tok_lt (xs := []) (fun _ q => nomatch q) B.tk9 (Nat.le_trans ht1b htz) htz htx) (Nat.le_trans ht1b htz) (fun j q => by rcases List.mem_append.mp q with q | q; exact B.bd9 j q; exact atoms8_bits a hma j (List.mem_singleton.mp q).symm) (by rw [List.length_append]; exact Nat.succ_le_succ B.lv9) ((B.rn9.ext Ext.app B.lk9).const (by rw [B.av9.length, List.length_append]; exact Nat.lt_succ_self _)) (by walk_at "om") (by walk_at "om") hslb hsub
      show EndH _ _ _ _ _ _
      walk_at "9q"
      walk_at "9af"
      (case tks => walk_at "m_tok")
  · walk_at "9b"
    walk_at "9a"
    refine c_law_dip (many := 8) (Gd.of kF X0 T0) (by walk_at "m_room") (led_get kN Z3) (led_get kN Z4) ⟨led_new kN Z3, led_new kN Z4⟩ hI hc hcn b5 b7 hsla hsua (by decide) (by decide) (NeA.ne n1') ?_
    walk_at "9K"
    walk_at "9Q"
    dsimp only at htkb Nb'
    clear kF kN
    obtain ⟨x, a, hx, hva, hma, htn⟩ := pick8 Nb' (.head _) rfl hrb
    have htx := htn tk₁ tkb ([] : List Value) (by refine ⟨?_, ?_, ?_, ?_, ?_, ?_⟩ <;> walk_at "om") (by refine ⟨?_, ?_, ?_, ?_, ?_, ?_⟩ <;> walk_at "om")
    clear htn
    have hvt : TokFor vals x := tok_for (xs := []) B.ok9 (fun _ q => nomatch q) B.tk9 (Nat.le_refl _) B.t19 htx
    k_steps
    walk_at "9b"
    walk_at "9a"
    refine wpAny_with_toks (Nat.le_refl _) (c_index_of (Gd.of kF X0 T0) (by walk_at "m_room") (led_get kN Z5) (led_get kN Z6) (led_get kN Z2) ⟨led_new kN Z5, led_new kN Z6, led_new kN Z2⟩ B.av9 B.ok9 hva hvt (Nat.le_trans B.lv9 (by walk_at "om")) ?_ ?_)
    · intro k t7 h4 tk4 hpos kk4 ht4
      dsimp only at ht4
      walk_at "9ag"
      clear kF kN
      k_steps
      walk_at "9b"
      walk_at "9a"
      have hz : LnZ h₀ _ (.ref _) (.c k) := ⟨_, _, t7, rfl, ⟨_, (kN _ (.head _)).1, rfl, _, rfl⟩, none_base hst (kN _ (.head _)).2.2⟩
      walk_at "9L"
      have NX := fun (tkz : Nat) (htz : tkb ≤ tkz) => LS.next (x := .c k) (tk' := tkz) B hL0 flN (ns_mu hns) (hdrop (led_get kN Z5) (led_get kN Z6) (led_get kN Z7) (turn_kept (X' := [_, _, _, _, _, _, _, _]) kF kN hall)) (led_get kN Z2) (led_get kN Z3) (led_get kN Z4) hz (List.getElem?_eq_some_iff.mp (posOf_get hpos)).1 Ext.refl B.av9 B.ok9 (fun j t q => Nat.lt_of_lt_of_le (B.tk9 j t q) (Nat.le_trans ht1b htz)) (Nat.le_trans ht1b htz) B.bd9 (Nat.le_succ_of_le B.lv9) (B.rn9.const (List.getElem?_eq_some_iff.mp (posOf_get hpos)).1) (by walk_at "om") (by walk_at "om") hslb hsub
      show EndH _ _ _ _ _ _
      walk_at "9q"
      walk_at "9af"
      (case tks => walk_at "m_tok")
    · intro t7 n4 h4 tk4 hpos kk4 hvl4 ht4
      dsimp only at ht4
      walk_at "9aH"
      (try dsimp only at N')
      clear kF kN
      k_steps
      walk_at "9b"
      walk_at "9a"
      have hz : LnZ h₀ _ (.ref _) (.c vals.length) := ⟨_, _, t7, rfl, ⟨_, (kN _ (.head _)).1, rfl, _, rfl⟩, none_base hst (kN _ (.head _)).2.2⟩
      walk_at "9L"
      have NX := fun (tkz : Nat) (htz : tkb ≤ tkz) => LS.next (x := .c vals.length) (tk' := tkz) B hL0 flN (ns_mu hns) (hdrop (led_get kN Z5) (led_get kN Z6) (led_get kN Z7) (turn_kept (X' := [_, _, _, _, _, _, _, _]) kF kN hall)) (led_get kN Z2) (led_get kN Z3) (led_get kN Z4) hz (by show vals.length < (cs ++ [a]).length; rw [B.av9.length, List.length_append]; exact Nat.lt_succ_self _) Ext.app (B.av9.snoc hva) (B.ok9.snoc hvt) (tok_lt (xs := []) (fun _ q => nomatch q) B.tk9 (Nat.le_trans ht1b htz) htz htx) (Nat.le_trans ht1b htz) (fun j q => by rcases List.mem_append.mp q with q | q; exact B.bd9 j q; exact atoms8_bits a hma j (List.mem_singleton.mp q).symm) (by rw [List.length_append]; exact Nat.succ_le_succ B.lv9) ((B.rn9.ext Ext.app B.lk9).const (by rw [B.av9.length, List.length_append]; exact Nat.lt_succ_self _)) (by walk_at "om") (by walk_at "om") hslb hsub
      show EndH _ _ _ _ _ _
      walk_at "9q"
      walk_at "9af"
      (case tks => walk_at "m_tok")
  · walk_at "9b"
    walk_at "9a"
    refine c_law_dip (many := 3) (Gd.of kF X0 T0) (by walk_at "m_room") (led_get kN Z2) (led_get kN Z3) ⟨led_new kN Z2, led_new kN Z3⟩ hI hc hcn b5 b7 hsla hsua (by decide) (by decide) (NeA.ne n1') ?_
    walk_at "9K"
    walk_at "9Q"
    dsimp only at htkb Nb'
    clear kF kN
    k_steps
    walk_at "9b"
    walk_at "9a"
    have hz : LnZ h₀ _ (.ref _) (.v rb) := ⟨_, _, w3b, rfl, ⟨_, (kN _ (.head _)).1, rfl, _, rfl⟩, none_base hst (kN _ (.head _)).2.2⟩
    walk_at "9L"
    have NX := fun (tkz : Nat) (htz : tkb ≤ tkz) => LS.next (x := .v rb) (tk' := tkz) B hL0 flN (ns_mu hns) (hdrop (led_get kN Z4) (led_get kN Z5) (led_get kN Z6) (turn_kept (X' := [_, _, _, _, _, _, _]) kF kN hall)) (led_get kN Z1) (led_get kN Z2) (led_get kN Z3) hz trivial Ext.refl B.av9 B.ok9 (fun j t q => Nat.lt_of_lt_of_le (B.tk9 j t q) (Nat.le_trans ht1b htz)) (Nat.le_trans ht1b htz) B.bd9 (Nat.le_succ_of_le B.lv9) B.rn9.var (by walk_at "om") (by walk_at "om") hslb hsub
    show EndH _ _ _ _ _ _
    walk_at "9q"
    walk_at "9af"
    (case tks => walk_at "m_tok")
  · walk_at "9b"
    walk_at "9a"
    refine c_law_dip (many := 11) (Gd.of kF X0 T0) (by walk_at "m_room") (led_get kN Z3) (led_get kN Z4) ⟨led_new kN Z3, led_new kN Z4⟩ hI hc hcn b5 b7 hsla hsua (by decide) (by decide) (NeA.ne n1') ?_
    walk_at "9K"
    walk_at "9Q"
    dsimp only at htkb Nb'
    clear kF kN
    obtain ⟨o, ho, hgd⟩ := pickG hrb
    have hmo := ops2_many o ho
    have hr1 := o.row
    have hf1 := plain_first o
    rw [hmo] at hr1 hf1
    have rn : Runs (lns ++ [.p o]) cs (hv - 1) := by
      walk_at "9aI"
      rw [hmo, show hv + 1 - 2 = hv - 1 by walk_at "om"] at this
      exact this
    have hp := @int_pred hv
    k_steps
    rw [hgd]
    walk_at "9b"
    walk_at "9a"
    walk_at "9A"
    intro t7 h4 tk4 kk4 ht4
    dsimp only at ht4
    walk_at "9ag"
    clear kF kN
    k_steps
    rw [hp (by walk_at "om")] at *
    walk_at "9b"
    walk_at "9a"
    walk_at "9F"
    walk_at "9L"
    walk_at "9l"
    show EndH _ _ _ _ _ _
    refine' EndH.mk kF (fun b o e q => (NX tkb (Nat.le_refl _)).1 b o e (it_nmu (q.resolve_right (fun z => nomatch z)))) ⟨_, _, _, _, _, _, _, hv - 1, _, _, _, _, _, ?loc, (NX _ ?tks).2⟩
    walk_at "9af"
    (case tks => walk_at "m_tok")
  · walk_at "9b"
    walk_at "9a"
    refine c_law_dip (many := 6) (Gd.of kF X0 T0) (by walk_at "m_room") (led_get kN Z3) (led_get kN Z4) ⟨led_new kN Z3, led_new kN Z4⟩ hI hc hcn b5 b7 hsla hsua (by decide) (by decide) (NeA.ne n1') ?_
    walk_at "9K"
    walk_at "9Q"
    dsimp only at htkb Nb'
    clear kF kN
    obtain ⟨o, to, ho, hx⟩ := pickS (os := ops1) Nb' (.head _) ⟨⟨_, rfl⟩, ⟨_, rfl⟩, ⟨_, rfl⟩, ⟨_, rfl⟩, ⟨_, rfl⟩, ⟨_, rfl⟩, trivial⟩ (by have := hrb; show rb < 6; walk_at "om")
    have hmo := ops1_many o ho
    have hr1 := o.row
    have hf1 := plain_first o
    rw [hmo] at hr1 hf1
    have rn : Runs (lns ++ [.p o]) cs hv := by
      walk_at "9aI"
      rw [hmo, show hv + 1 - 1 = hv by walk_at "om"] at this
      exact this
    k_steps
    walk_at "9b"
    walk_at "9a"
    walk_at "9A"
    intro t7 h4 tk4 kk4 ht4
    dsimp only at ht4
    walk_at "9ag"
    clear kF kN
    k_steps
    walk_at "9b"
    walk_at "9a"
    walk_at "9F"
    walk_at "9L"
    walk_at "9l"
    show EndH _ _ _ _ _ _
    refine' EndH.mk kF (fun b o e q => (NX tkb (Nat.le_refl _)).1 b o e (it_nmu (q.resolve_right (fun z => nomatch z)))) ⟨_, _, _, _, _, _, _, hv, _, _, _, _, _, ?loc, (NX _ ?tks).2⟩
    walk_at "9af"
    (case tks => walk_at "m_tok")
  · walk_at "9b"
    walk_at "9a"
    refine c_law_dip (many := 6) (Gd.of kF X0 T0) (by walk_at "m_room") (led_get kN Z3) (led_get kN Z4) ⟨led_new kN Z3, led_new kN Z4⟩ hI hc hcn b5 b7 hsla hsua (by decide) (by decide) (NeA.ne n1') ?_
    walk_at "9K"
    walk_at "9Q"
    dsimp only at htkb Nb'
    clear kF kN
    obtain ⟨o, to, ho, hx⟩ := pickS (os := ops1) Nb' (.head _) ⟨⟨_, rfl⟩, ⟨_, rfl⟩, ⟨_, rfl⟩, ⟨_, rfl⟩, ⟨_, rfl⟩, ⟨_, rfl⟩, trivial⟩ (by have := hrb; show rb < 6; walk_at "om")
    have hmo := ops1_many o ho
    have hr1 := o.row
    have hf1 := plain_first o
    rw [hmo] at hr1 hf1
    have rn : Runs (lns ++ [.p o]) cs hv := by
      walk_at "9aI"
      rw [hmo, show hv + 1 - 1 = hv by walk_at "om"] at this
      exact this
    k_steps
    walk_at "9b"
    walk_at "9a"
    walk_at "9A"
    intro t7 h4 tk4 kk4 ht4
    dsimp only at ht4
    walk_at "9ag"
    clear kF kN
    k_steps
    walk_at "9b"
    walk_at "9a"
    walk_at "9F"
    walk_at "9L"
    walk_at "9l"
    show EndH _ _ _ _ _ _
    refine' EndH.mk kF (fun b o e q => (NX tkb (Nat.le_refl _)).1 b o e (it_nmu (q.resolve_right (fun z => nomatch z)))) ⟨_, _, _, _, _, _, _, hv, _, _, _, _, _, ?loc, (NX _ ?tks).2⟩
    walk_at "9af"
    (case tks => walk_at "m_tok")
end z0a
theorem zt0 : @zS prog w dp un fr gd s h₀ p lo mean mg mb Q E pa cl ca cd vl cvs cells seed t0 t1 t2 n n1 n2 := zp0.2 (fun g0 h1 h2 h₁ L0 fl tk10 t9 qk ek r13 i fn vn pn hv tk1 tk₁ th u1 u2 fvs vals lns cs at9 sd u own => by with_unfolding_all exact zk0a.2 z0a.zt0a (g0, h1, h2, h₁, L0, fl, tk10, t9, qk, ek, r13, i, fn, vn, pn, hv, tk1, tk₁, th, u1, u2, fvs, vals, lns, cs, at9, sd, u, own))
end c_law_lines
end
section
variable {prog : Program} {w : World} {dp un : Nat} {fr : Option (List Env)} {gd : Option (List Code)} {s : Shared} {h₀ : Heap} {p : Program} {lo : List Str} {mean : ExcName → Option Value} {mg mb : Str → Option Value} {Q E : Value → Shared → Prop}
theorem c_law_lines {pa cl ca cd vl : Addr} {cvs : List Value} {cells : List Int} {seed : Int} {t0 t1 t2 : Tok} {n n1 n2 : Nat} : @c_law_lines.zS prog w dp un fr gd s h₀ p lo mean mg mb Q E pa cl ca cd vl cvs cells seed t0 t1 t2 n n1 n2 := by with_unfolding_all exact @ep_get _ _ c_law_lines.zk (@c_law_lines.zt0) (prog, w, dp, un, fr, gd, s, h₀, p, lo, mean, mg, mb, Q, E, pa, cl, ca, cd, vl, cvs, cells, seed, t0, t1, t2, n, n1, n2)
theorem zg_lines : True := trivial
theorem zrr30 : True := by
  k_with "@binaryOp Mult int int" => ((fail_if_success have := zg_two); (k_here; (with_reducible show wpAny _ _ (binaryOp Operator.Mult (Value.int _ _) (Value.int _ _)) _ _ _); refine PySem.P.mul_int ?_ (IntMulOk.of_le (m := 65536) (n := 65536) (by walk_at "m_fits") (by walk_at "m_fits") (by decide))))
  trivial
noncomputable def onm (s : Str) : Option Op := [Op.add, .sub, .mul, .lt, .le, .eq, .max, .min, .gt, .eqv, .cons, .inc, .dec, .intp, .consp, .not, .car].find? fun o => o.name == s
theorem onm_name (o : Op) : onm o.name = some o := by cases o <;> decide +kernel
theorem name_inj {o p : Op} (e : o.name = p.name) : o = p := Option.some.inj ((onm_name o).symm.trans ((congrArg onm e).trans (onm_name p)))
theorem nm_3 (o : Op) (a : ([Str.ofString "+", Str.ofString "-", Str.ofString "*"].any fun x => x == o.name) = true) : o = .add ∨ o = .sub ∨ o = .mul := by
  revert a; cases o <;> decide +kernel
theorem nm_4 (o : Op) (hm : o ∈ nine) (a : ([Str.ofString "+", Str.ofString "-", Str.ofString "*"].any fun x => x == o.name) = false) (b : ([Str.ofString "max", Str.ofString "min"].any fun x => x == o.name) = false) : o = .lt ∨ o = .le ∨ o = .eq ∨ o = .gt := by
  revert hm a b; cases o <;> decide +kernel
theorem nm_2 (o : Op) (a : ([Str.ofString "max", Str.ofString "min"].any fun x => x == o.name) = true) : o = .max ∨ o = .min := by
  revert a; cases o <;> decide +kernel
theorem no_3 {o : Op} (a : ([Str.ofString "+", Str.ofString "-", Str.ofString "*"].any fun x => x == o.name) = true) (n1 : ¬ o.name = Str.ofString "+") (n2 : ¬ o.name = Str.ofString "-") (n3 : ¬ o.name = Str.ofString "*") : False :=
  (nm_3 o a).elim (fun e => n1 (congrArg Op.name e)) fun e => e.elim (fun e => n2 (congrArg Op.name e)) fun e => n3 (congrArg Op.name e)
theorem no_4 {o : Op} (hm : o ∈ nine) (a : ([Str.ofString "+", Str.ofString "-", Str.ofString "*"].any fun x => x == o.name) = false) (b : ([Str.ofString "max", Str.ofString "min"].any fun x => x == o.name) = false) (n1 : ¬ o.name = Str.ofString "<") (n2 : ¬ o.name = Str.ofString "<=") (n3 : ¬ o.name = Str.ofString "=") (n4 : ¬ o.name = Str.ofString ">") : False :=
  (nm_4 o hm a b).elim (fun e => n1 (congrArg Op.name e)) fun e => e.elim (fun e => n2 (congrArg Op.name e)) fun e => e.elim (fun e => n3 (congrArg Op.name e)) fun e => n4 (congrArg Op.name e)
section
variable {o : Op} {i j : Int}
theorem cl_add (e : o.name = Str.ofString "+") : called o [.at (.int i), .at (.int j)] = some (.at (.int (i + j))) := by rw [name_inj (p := .add) e]; rfl
theorem cl_sub (e : o.name = Str.ofString "-") : called o [.at (.int i), .at (.int j)] = some (.at (.int (i - j))) := by rw [name_inj (p := .sub) e]; rfl
theorem cl_mul (e : o.name = Str.ofString "*") : called o [.at (.int i), .at (.int j)] = some (.at (.int (i * j))) := by rw [name_inj (p := .mul) e]; rfl
theorem cl_tf {P : Prop} [Decidable P] (e : called o [.at (.int i), .at (.int j)] = some (.at (if P then .t else .nil))) : (P → called o [.at (.int i), .at (.int j)] = some (.at .t)) ∧ (¬ P → called o [.at (.int i), .at (.int j)] = some (.at .nil)) := ⟨fun c => by rw [e, if_pos c], fun c => by rw [e, if_neg c]⟩
theorem cl_lt (e : o.name = Str.ofString "<") : (i < j → called o [.at (.int i), .at (.int j)] = some (.at .t)) ∧ (¬ i < j → called o [.at (.int i), .at (.int j)] = some (.at .nil)) := cl_tf (by rw [name_inj (p := .lt) e]; rfl)
theorem cl_le (e : o.name = Str.ofString "<=") : (i ≤ j → called o [.at (.int i), .at (.int j)] = some (.at .t)) ∧ (¬ i ≤ j → called o [.at (.int i), .at (.int j)] = some (.at .nil)) := cl_tf (by rw [name_inj (p := .le) e]; rfl)
theorem cl_eq (e : o.name = Str.ofString "=") : (i = j → called o [.at (.int i), .at (.int j)] = some (.at .t)) ∧ (¬ i = j → called o [.at (.int i), .at (.int j)] = some (.at .nil)) := cl_tf (by rw [name_inj (p := .eq) e]; rfl)
theorem cl_gt (e : o.name = Str.ofString ">") : (j < i → called o [.at (.int i), .at (.int j)] = some (.at .t)) ∧ (¬ j < i → called o [.at (.int i), .at (.int j)] = some (.at .nil)) := cl_tf (by rw [name_inj (p := .gt) e]; rfl)
theorem cl_m1 (a : ([Str.ofString "max", Str.ofString "min"].any fun x => x == o.name) = true) (b : (decide (j < i) == (o.name == Str.ofString "max")) = true) : called o [.at (.int i), .at (.int j)] = some (.at (.int i)) := by
  rcases nm_2 o a with rfl | rfl
  · rw [show (Op.max.name == Str.ofString "max") = true from by decide +kernel] at b
    have c := of_decide_eq_true (beq_iff_eq.mp b)
    show some (Tr.at (.int (if j > i then j else i))) = _
    rw [if_neg (Int.not_lt.mpr (Int.le_of_lt c))]
  · rw [show (Op.min.name == Str.ofString "max") = false from by decide +kernel] at b
    have c := of_decide_eq_false (beq_iff_eq.mp b)
    show some (Tr.at (.int (if j < i then j else i))) = _
    rw [if_neg c]
theorem cl_m2 (a : ([Str.ofString "max", Str.ofString "min"].any fun x => x == o.name) = true) (b : (decide (j < i) == (o.name == Str.ofString "max")) = false) : called o [.at (.int i), .at (.int j)] = some (.at (.int j)) := by
  rcases nm_2 o a with rfl | rfl
  · rw [show (Op.max.name == Str.ofString "max") = true from by decide +kernel, beq_eq_false_iff_ne] at b
    have c : ¬ j < i := fun q => b (decide_eq_true q)
    show some (Tr.at (.int (if j > i then j else i))) = _
    split
    · rfl
    · rw [Int.le_antisymm (Int.not_lt.mp c) (Int.not_lt.mp (by assumption))]
  · rw [show (Op.min.name == Str.ofString "max") = false from by decide +kernel, beq_eq_false_iff_ne] at b
    have c : j < i := Decidable.byContradiction fun q => b (decide_eq_false q)
    show some (Tr.at (.int (if j < i then j else i))) = _
    rw [if_pos c]
end
theorem c_two {o : Op} {i j : Int} {tn t u : Tok} (ho : o ∈ nine) (G : Gd w p lo mean mg mb h₀ s) (hd : dp + 1 < recursionLimit) (hi : Bits i 30000) (hj : Bits j 30000)
   (h : ∀ v a h' tk', called o [.at (.int i), .at (.int j)] = some (.at a) → AtV v a → Kept [] s.heap h' → s.toks ≤ tk' → Q v {s with heap := h', toks := tk'}) : wpAny (model prog w) (At0 dp un fr gd) (call (.ref 774) [.str o.name tn, .int i t, .int j u]) Q E s := by
  revert ho G hd hi hj h
  revert prog w dp un fr gd s h₀ p lo mean mg mb Q E o i j tn t u
  walk_at "9c"
  intro prog w dp un fr gd s h₀ p lo mean mg mb Q E o
  clear_value prog w dp un fr gd s h₀ p lo mean mg mb Q E o
  walk_at "9f"
  intro i j tn t
  clear_value i j tn t
  walk_at "9g"
  intro u
  clear_value u
  walk_at "in"
  walk_at "9d"
  refine' enterM (binds := [(Str.ofString "name", .str o.name tn), (Str.ofString "one", .int i t), (Str.ofString "other", .int j u)]) G Led.nil ?ho ?hcd ?hr ?hb ?hl ?_ ?c1 ?c2 ?c3 ?c4
  walk_at "m_rest"
  k_steps
  all_goals first | exact no_3 (by assumption) (by assumption) (by assumption) (by assumption) | exact no_4 ho (by assumption) (by assumption) (by assumption) (by assumption) (by assumption) (by assumption) | walk_at "m_end"
  all_goals (intro kk _ ht)
  all_goals first
    | exact h _ _ _ _ (cl_add (by assumption)) AtV.int kk ht
    | exact h _ _ _ _ (cl_sub (by assumption)) AtV.int kk ht
    | exact h _ _ _ _ (cl_mul (by assumption)) AtV.int kk ht
    | exact h _ _ _ _ (cl_m1 (by assumption) (by assumption)) AtV.int kk ht
    | exact h _ _ _ _ (cl_m2 (by assumption) (by assumption)) AtV.int kk ht
    | exact h _ _ _ _ ((cl_lt (by assumption)).1 (by assumption)) AtV.t kk ht
    | exact h _ _ _ _ ((cl_lt (by assumption)).2 (by assumption)) AtV.nil kk ht
    | exact h _ _ _ _ ((cl_le (by assumption)).1 (by assumption)) AtV.t kk ht
    | exact h _ _ _ _ ((cl_le (by assumption)).2 (by assumption)) AtV.nil kk ht
    | exact h _ _ _ _ ((cl_eq (by assumption)).1 (by assumption)) AtV.t kk ht
    | exact h _ _ _ _ ((cl_eq (by assumption)).2 (by assumption)) AtV.nil kk ht
    | exact h _ _ _ _ ((cl_gt (by assumption)).1 (by assumption)) AtV.t kk ht
    | exact h _ _ _ _ ((cl_gt (by assumption)).2 (by assumption)) AtV.nil kk ht
theorem zg_two : True := trivial
end
theorem isI_of {prog : Program} {w : World} {g : Heap} (X : (K w.params).In g) {v : Value} {x : Tr} (z : TrV g v x) : IsI prog w g v x.isInt := by
  rcases z.kinds with ⟨i, t, rfl, rfl⟩ | ⟨e, rfl | rfl | ⟨a, vs, rfl, q⟩⟩
  · exact fun A E s L m Q F h => call_isinstance_yes (typeIs_int _ _ _) meta_int sub_int_int (h _)
  · rw [e]
    intro A E s L m Q F h
    walk_at "call builtin:isinstance"
    exact h _
  · rw [e]
    intro A E s L m Q F h
    walk_at "call builtin:isinstance"
    exact h _
  · rw [e]
    exact fun A E s L m Q F h => IsiPair.isTuple_int q F.keep (h _)
theorem zrr31 : True := by
  k_with "@call builtin:isinstance" => ((fail_if_success have := zg_called); (k_here; (with_reducible rename Fr _ _ _ _ => kF9); (refine' isI_use ?ia_114 kF9 ?_; (case ia_114 => with_reducible assumption)); intro tk9'))
  k_with "@compareOp NotEq ref ref" => ((fail_if_success have := zg_called); (k_here; (with_reducible rename News _ _ _ _ => kN9'); first | (refine ne_nils (led_list kN9' Z1) (led_list kN9' (.head _)) (by walk_at "m_units") ?_) | (refine ne_lens (led_list kN9' Z1) (led_list kN9' (.head _)) rfl (by walk_at "m_units") ?_)))
  k_with "@m_units" => ((fail_if_success have := zg_called); first | (with_unfolding_all (show (_ : Nat) < cLine); (with_reducible assumption)) | (dsimp only [At0]; walk_at "om") | (simp only [cLine] at *; dsimp only [At0]; walk_at "om"))
  trivial
section
variable {prog : Program} {w : World} {dp un : Nat} {fr : Option (List Env)} {gd : Option (List Code)} {s : Shared} {h₀ : Heap} {p : Program} {lo : List Str} {mean : ExcName → Option Value} {mg mb : Str → Option Value} {Q E : Value → Shared → Prop}
theorem c_called2 {v1 v2 : Value} {x1 x2 : Tr} {o : Op} {gl : Addr} {tn : Tok} {n : Nat} (G : Gd w p lo mean mg mb h₀ s) (hd : dp + 4 < recursionLimit) (hu : un + 100 < cLine) (hg : s.heap.get? gl = some (listOf #[v1, v2] n)) (h0 : h₀.get? gl = none)
   (hm : o.many = 2) (z1 : TrV s.heap v1 x1) (z2 : TrV s.heap v2 x2) (hb1 : ∀ i, x1 = .at (.int i) → Bits i 30000) (hb2 : ∀ i, x2 = .at (.int i) → Bits i 30000)
   (hQ : ∀ v y h' tk', called o [x1, x2] = some y → TrV h' v y → Kept [] s.heap h' → s.toks ≤ tk' → Q v {s with heap := h', toks := tk'})
   (hN : ∀ h' tk', called o [x1, x2] = none → Kept [] s.heap h' → s.toks ≤ tk' → Q .none {s with heap := h', toks := tk'}) : wpAny (model prog w) (At0 dp un fr gd) (call (.ref 779) [.str o.name tn, .ref gl]) Q E s := by
  revert G hd hu hg h0 hm z1 z2 hb1 hb2 hQ hN
  revert prog w dp un fr gd s h₀ p lo mean mg mb Q E v1 v2 x1 x2 o gl tn n
  walk_at "9c"
  intro prog w dp un fr gd s h₀ p lo mean mg mb Q E v1
  clear_value prog w dp un fr gd s h₀ p lo mean mg mb Q E v1
  walk_at "9f"
  intro v2 x1 x2 o
  clear_value v2 x1 x2 o
  walk_at "9e"
  intro gl tn
  clear_value gl tn
  walk_at "9g"
  intro n
  clear_value n
  walk_at "in"
  walk_at "9d"
  have LL : Led h₀ s.heap [(gl, listOf #[v1, v2] n)] := fun p hp => by
    walk_at "9ac"
    rcases hp with rfl
    exact ⟨hg, h0⟩
  refine' enterM (binds := [(Str.ofString "name", .str o.name tn), (Str.ofString "given", .ref gl)]) G LL ?ho ?hcd ?hr ?hb ?hl ?_ ?c1 ?c2 ?c3 ?c4
  walk_at "m_rest"
  walk_at "m_rx"
  have kn0 : KN s.heap g0 := fun b o e nm => kb b o (fun q => nm (by
    rw [List.mem_singleton.mp q, hg] at e; cases e; exact mu_list)) e
  have i1 := isI_of (prog := prog) X0 (z1.kn kn0)
  have i2 := isI_of (prog := prog) X0 (z2.kn kn0)
  clear kn0
  k_steps
  · walk_at "m_end"
    walk_at "9a"
    rename List.any _ _ = true => c1
    intro kk ll ht
    walk_at "9s"
    have kn := kn_of_kept kk'
    rcases nm1 o hm c1 with rfl | rfl
    · exact hQ _ (.f2 .eqv x1 x2) _ _ rfl ⟨_, _, _, _, _, rfl, ⟨_, (kN _ (.head _)).1, rfl, _, rfl⟩, ⟨_, (kN _ Z1).1, rfl, _, rfl⟩, z1.kn kn, z2.kn kn⟩ kk' ht
    · exact hQ _ (.f2 .cons x1 x2) _ _ rfl ⟨_, _, _, _, _, rfl, ⟨_, (kN _ (.head _)).1, rfl, _, rfl⟩, ⟨_, (kN _ Z1).1, rfl, _, rfl⟩, z1.kn kn, z2.kn kn⟩ kk' ht
  · exfalso
    rename (_ != _) = false => c2
    rw [nm4 o c2] at hm; cases hm
  · exfalso
    rename (_ != _) = false => c2
    rw [nm4 o c2] at hm; cases hm
  · walk_at "9ai"
    walk_at "9ao"
    obtain ⟨j, rfl⟩ := isInt_of (x := x2) (by with_reducible assumption)
    obtain ⟨t, rfl⟩ := z1.int_of
    obtain ⟨u, rfl⟩ := z2.int_of
    walk_at "9b"
    walk_at "9a"
    refine c_two (nm2 o hm c1) (Gd.of kF X0 T0) (by walk_at "m_room") (hb1 i rfl) (hb2 j rfl) ?_
    intro v a h5 tk5 hc hv k5 t5
    walk_at "98"
    clear kF kN
    k_steps
    walk_at "m_end"
    walk_at "9a"
    intro kk ll ht
    walk_at "9s"
    exact hQ _ _ _ _ hc hv kk' ht
  all_goals
    dsimp only
    walk_at "m_end"
    walk_at "9a"
    walk_at "9ai"
    intro kk ll ht
    walk_at "9s"
    refine hN _ _ (called_none2 (nm2 o hm c1) ?_) kk' ht
    rintro ⟨q1, q2⟩
    simp_all
theorem c_called1 {v1 : Value} {x1 : Tr} {o : Op} {gl : Addr} {tn : Tok} {n : Nat} (G : Gd w p lo mean mg mb h₀ s) (hd : dp + 4 < recursionLimit) (hu : un + 100 < cLine) (hg : s.heap.get? gl = some (listOf #[v1] n)) (h0 : h₀.get? gl = none)
   (hm : o.many = 1) (z1 : TrV s.heap v1 x1)
   (hQ : ∀ v y h' tk', called o [x1] = some y → TrV h' v y → Kept [] s.heap h' → s.toks ≤ tk' → Q v {s with heap := h', toks := tk'})
   (hN : ∀ h' tk', called o [x1] = none → Kept [] s.heap h' → s.toks ≤ tk' → Q .none {s with heap := h', toks := tk'}) : wpAny (model prog w) (At0 dp un fr gd) (call (.ref 779) [.str o.name tn, .ref gl]) Q E s := by
  revert G hd hu hg h0 hm z1 hQ hN
  revert prog w dp un fr gd s h₀ p lo mean mg mb Q E v1 x1 o gl tn n
  walk_at "9c"
  intro prog w dp un fr gd s h₀ p lo mean mg mb Q E v1
  clear_value prog w dp un fr gd s h₀ p lo mean mg mb Q E v1
  walk_at "9f"
  intro x1 o gl tn
  clear_value x1 o gl tn
  walk_at "9g"
  intro n
  clear_value n
  walk_at "in"
  walk_at "9d"
  have LL : Led h₀ s.heap [(gl, listOf #[v1] n)] := fun p hp => by
    walk_at "9ac"
    rcases hp with rfl
    exact ⟨hg, h0⟩
  refine' enterM (binds := [(Str.ofString "name", .str o.name tn), (Str.ofString "given", .ref gl)]) G LL ?ho ?hcd ?hr ?hb ?hl ?_ ?c1 ?c2 ?c3 ?c4
  walk_at "m_rest"
  walk_at "m_rx"
  have kn0 : KN s.heap g0 := fun b o e nm => kb b o (fun q => nm (by
    rw [List.mem_singleton.mp q, hg] at e; cases e; exact mu_list)) e
  have i1 := isI_of (prog := prog) X0 (z1.kn kn0)
  clear kn0
  k_steps
  · walk_at "m_end"
    walk_at "9a"
    rename List.any _ _ = true => c1
    rename (_ != _) = true => c2
    intro kk ll ht
    walk_at "9s"
    have kn := kn_of_kept kk'
    rcases nm3 o hm c1 c2 with rfl | rfl | rfl
    · exact hQ _ (.f1 .consp x1) _ _ rfl ⟨_, _, _, _, rfl, ⟨_, (kN _ (.head _)).1, rfl, _, rfl⟩, ⟨_, (kN _ Z1).1, rfl, _, rfl⟩, z1.kn kn⟩ kk' ht
    · exact hQ _ (.f1 .not x1) _ _ rfl ⟨_, _, _, _, rfl, ⟨_, (kN _ (.head _)).1, rfl, _, rfl⟩, ⟨_, (kN _ Z1).1, rfl, _, rfl⟩, z1.kn kn⟩ kk' ht
    · exact hQ _ (.f1 .car x1) _ _ rfl ⟨_, _, _, _, rfl, ⟨_, (kN _ (.head _)).1, rfl, _, rfl⟩, ⟨_, (kN _ Z1).1, rfl, _, rfl⟩, z1.kn kn⟩ kk' ht
  · rename (_ != _) = false => c2
    walk_at "9a"
    obtain rfl := nm4 o c2
    walk_at "m_end"
    intro kk ll ht
    have kk' := kk.drop (M' := []) fun b hb => by rw [List.mem_singleton.mp hb]; exact .inr ⟨_, hg, (kN _ Z1).1⟩
    exact hQ _ (.at .t) _ _ (called_t (by with_reducible assumption)) .t kk' ht
  · rename (_ != _) = false => c2
    walk_at "9a"
    obtain rfl := nm4 o c2
    walk_at "m_end"
    intro kk ll ht
    have kk' := kk.drop (M' := []) fun b hb => by rw [List.mem_singleton.mp hb]; exact .inr ⟨_, hg, (kN _ Z1).1⟩
    exact hQ _ (.at .nil) _ _ (called_nil (by with_reducible assumption)) .nil kk' ht
  · walk_at "9ai"
    rename (o.name == _) = true => c3
    walk_at "9ao"
    obtain ⟨t, rfl⟩ := z1.int_of
    obtain ⟨-, rfl⟩ | ⟨c4, -⟩ := nm6 o (nm5 o hm c1)
    · k_steps
      walk_at "m_end"
      walk_at "9a"
      intro kk ll ht
      walk_at "9s"
      exact hQ _ (.at (.int (i + 1))) _ _ rfl .int kk' ht
    · rw [c3] at c4; cases c4
  · walk_at "9ai"
    rename (o.name == _) = false => c3
    walk_at "9ao"
    obtain ⟨t, rfl⟩ := z1.int_of
    obtain ⟨c4, -⟩ | ⟨-, rfl⟩ := nm6 o (nm5 o hm c1)
    · rw [c3] at c4; cases c4
    · k_steps
      walk_at "m_end"
      walk_at "9a"
      intro kk ll ht
      walk_at "9s"
      exact hQ _ (.at (.int (i - 1))) _ _ rfl .int kk' ht
  · dsimp only
    walk_at "m_end"
    walk_at "9a"
    walk_at "9ai"
    intro kk ll ht
    walk_at "9s"
    exact hN _ _ (called_none1 (nm5 o hm c1) (by with_reducible assumption)) kk' ht
theorem zg_called : True := trivial
theorem zrr32 : True := by
  k_with "@subscriptTail" => ((fail_if_success have := zg_run); (k_here; (fail_if_success (with_reducible show wpAny _ _ (subscriptTail (PySem.Expr.Name _ _) _ _ _) _ _ _)); k_dflt (refine kba_turn (value' := PySem.Expr.Name (PySem.Str.ofString "_") ⟨0, 0, 0, 0⟩) (fun _ => rfl) ?_)))
  k_with "@exec For Tuple Name cons nil" => ((fail_if_success have := zg_run); (k_here; (with_reducible rename Fr _ _ _ _ => lF9'); (with_unfolding_all refine' For_H lF9' ?_; k_whole)))
  k_with "@subscriptTail Name Name ref int" => ((fail_if_success have := zg_run); (k_here; (with_reducible show wpAny _ _ (subscriptTail _ _ (Value.ref 67) (Value.int _ _)) _ _ _); (refine' item_tupR ?k1_119 ?k2_119 ?k3_119 ?_ ?k4_119; (case k1_119 => exact Heap.IsTuple.at (plain_tup (by k_asm)) (fun o e => Fr.keep (by k_asm) _ o e)); (case k2_119 => exact Nat.le_of_ble_eq_true rfl); (case k3_119 => exact plain_get _); (case k4_119 => with_unfolding_all rfl))))
  k_with "@subscriptTail Name Name ref int" => ((fail_if_success have := zg_run); (k_here; (with_reducible rename News _ _ _ _ => kN9'); (refine' item_base ?k1_120 ?k2_120 ?k3_120 ?k4_120 ?_ ?k5_120; (case k1_120 => exact led_list kN9' (by k_mem)); (case k2_120 => with_reducible assumption); (case k3_120 => with_reducible assumption); (case k4_120 => with_unfolding_all rfl); (case k5_120 => intro _; with_unfolding_all rfl))))
  k_with "@m_ne" => ((fail_if_success have := zg_run); (refine neN ?_; (try dsimp only); first
    | exact NeR.ne (by with_reducible assumption) | exact Ne.symm (NeR.ne (by with_reducible assumption))
    | (with_reducible assumption) | exact Ne.symm (by with_reducible assumption)
    | walk_at "nj"
    | ((try simp only [LCg.Off3, LCg.Off1, and_true] at *); walk_at "om")))
  k_with "@CompRest" => ((fail_if_success have := zg_run); (with_unfolding_all first
    | (refine LCg.CompRest.succ ?_; intro v9' I9' oI9' C9' oC9' D9' m9' h9' tk9' E9' hv9' hC9' hx9' F9' N9' off9' ne9'; obtain ⟨t99', hv99'⟩ := hv9'; subst hv99'; clear ne9'; have oa9' := NeR.intro off9'.1.1; have ob9' := NeR.intro off9'.1.2.1; have oc9' := NeR.intro off9'.1.2.2)
    | refine LCg.CompRest.zero ?_))
  k_with "@compareOp Is" => ((fail_if_success have := zg_run); (k_here; (with_reducible show wpAny _ _ (compareOp CmpOp.Is _ Value.none) _ _ _); refine is_none_nn (by with_reducible assumption) ?_))
  k_with "@CompSrc" => ((fail_if_success have := zg_run); (k_here; k_dflt (first | (refine LCg.CompSrc.range (n := 1) (by rfl) (by k_asm) (by k_asm) (by assumption) (by first | decide | rfl) (by first | decide | rfl) (by exact Nat.le_of_ble_eq_true rfl) ?_) | (refine LCg.CompSrc.range (n := 2) (by rfl) (by k_asm) (by k_asm) (by assumption) (by first | decide | rfl) (by first | decide | rfl) (by exact Nat.le_of_ble_eq_true rfl) ?_)); intro g9'))
  k_with "@CompEnd" => ((fail_if_success have := zg_run); ((with_reducible rename LCg.Off3 _ _ _ _ => hoff9'); (with_reducible rename Fr _ _ _ _ => kF9'); (with_reducible rename News _ _ _ _ => kN9'); refine LCg.CompEnd.intro kF9' kN9' _ (fun p hp => hp) hoff9' trivial ?_))
  k_with "@call builtin:list.pop" => ((fail_if_success have := zg_run); (k_here; (show wpAny _ _ (call (Value.builtin "list.pop") [Value.ref _]) _ _ _); (refine' pop_upd ?k1_126 ?k2_126 ?k3_126 ?k4_126 ?k5_126 ?_; (case k1_126 => k_asm); (case k2_126 => k_asm); (case k3_126 => k_updF); (case k4_126 => first | exact two_last | exact rfl); (case k5_126 => (try simp only [List.length_append, List.length_cons, List.length_nil]); walk_at "om")); intro h9' F9' N9'; (try dsimp only at N9'); (try k_sweep)))
  k_with "@run_loc" => ((fail_if_success have := zg_run); (intro z9 z19 z29 z39 z49 z59 z69; first | (simp only [if_neg z19, if_neg z29, if_neg z39, if_neg z49, if_neg z59, if_neg z69]; done) | (simp only [if_neg z19, if_neg z29, if_neg z39, if_neg z49, if_neg z59, if_neg z69]; rfl)))
  trivial
theorem c_law_run {fl ca cd vl : Addr} {fvs vals : List Value} {lns : List Ln} {cs : List At} {t0 : Tok} {fn vn : Nat} {res : Res} (G : Gd w p lo mean mg mb h₀ s) (hd : dp + 12 < recursionLimit) (hu : un + 200 < cLine)
   (hfl : s.heap.get? fl = some (listOf fvs.toArray fn)) (hca : s.heap.get? ca = some (instObj 276 cd)) (hcd : s.heap.get? cd = some (consD w.params t0 vl)) (hvl : s.heap.get? vl = some (listOf vals.toArray vn))
   (h0 : h₀.get? ca = none ∧ h₀.get? cd = none ∧ h₀.get? vl = none) (hln : All2 (LnZ h₀ s.heap) fvs lns) (hvs : AtsV vals cs) (hlen : vals.length ≤ 1000) (hl12 : lns.length ≤ 12) (hr : run lns cs [] = some res)
   (hB : ∀ k st, run (lns.take k) cs [] = some (.leaves st) → ∀ i, Tr.at (.int i) ∈ st → Bits i 30000) (hne : fl ≠ vl)
   (hQ : ∀ v h' tk', ResV h' v res → Kept [] s.heap h' → s.toks ≤ tk' → Q v {s with heap := h', toks := tk'}) :
   wpAny (model prog w) (At0 dp un fr gd) (call (.ref 784) [.ref fl, .ref ca]) Q E s := by
  revert G hd hu hfl hca hcd hvl h0 hln hvs hlen hl12 hr hB hne hQ
  revert prog w dp un fr gd s h₀ p lo mean mg mb Q E fl ca cd vl fvs vals lns cs t0 fn vn res
  walk_at "9c"
  intro prog w dp un fr gd s h₀ p lo mean mg mb Q E fl
  clear_value prog w dp un fr gd s h₀ p lo mean mg mb Q E fl
  walk_at "9i"
  intro ca cd vl fvs vals lns cs t0
  clear_value ca cd vl fvs vals lns cs t0
  walk_at "9e"
  intro fn vn
  clear_value fn vn
  walk_at "9g"
  intro res
  clear_value res
  walk_at "in"
  walk_at "9d"
  have LL : Led h₀ s.heap [(ca, instObj 276 cd), (cd, consD w.params t0 vl), (vl, listOf vals.toArray vn)] := fa1 ⟨hca, h0.1⟩ (fa1 ⟨hcd, h0.2.1⟩ (fa1 ⟨hvl, h0.2.2⟩ fa0))
  refine' enterC (M := [ca, cd, vl]) (binds := [(Str.ofString "lines", .ref fl), (Str.ofString "constants", .ref ca)]) ?hM G LL ?ho ?hcd ?hr ?hb ?hl ?hnd ?_ ?c1 ?c2 ?c3
  (case hM => exact fa1 (.head _) (fa1 Z1 (fa1 Z2 fa0)))
  walk_at "m_restC"
  rename_i o10 d10
  have hst := base_of G LL kb
  have hL0 : s.heap.get? L0 = none := local_new kb F0 (fun p hp => N0 p (.tail _ hp))
  have gca := (N0 (ca, _) Z1).2.2
  have gcd := (N0 (cd, _) Z2).2.2
  have gvl := (N0 (vl, _) Z3).2.2
  have hfl0 := kb fl _ (na1 (ne_io hfl hca) (na1 (ne_do hfl hcd) (na1 hne na0))) hfl
  have hfl1 : g0.IsList fl fvs.toArray := ⟨_, hfl0, rfl, _, rfl⟩
  k_steps
  walk_at "9b"
  walk_at "9a"
  rename_i sk _ l1 h2 oc d1
  have hthere := there_of kb (fun p hp => (LL p hp).1) kF kN (fun p hp => .tail _ (.tail _ hp))
  have skS : s.heap.get? sk = none := fresh_of kb (led_new kN (.head _)) (na1 (Nat.ne_of_gt l1.2.1) (na1 (Nat.ne_of_gt l1.2.2.1) (na1 (Nat.ne_of_gt l1.2.2.2) na0)))
  have skL := (kN _ (.head _)).2.1
  have ckL := (kN _ Z1).2.1
  have ck0 := (kN _ Z1).2.2
  have hnc : NF oc := fun vs q => by rw [d1] at q; cases q
  have caL := ne_fresh hca hL0
  have cdL := ne_fresh hcd hL0
  have vlL := ne_fresh hvl hL0
  refine h_list [] (RnI s.heap ca sk (L0 + 1) oc lns cs) rfl kF (hfl1.at fun o e => kF.keep _ o e) (.inr ⟨_, hfl0⟩) ⟨⟨[], 0, [], rfl, led_get kN (.head _), led_get kN Z1, trivial, rfl, Nat.le_refl _, fun b o hb e => hthere b o e⟩, RnI.up hnc (fun b o e => ⟨o, hthere b o e⟩), ?_, ?_⟩
  · clear kF kN
    rintro i v m₁ h₁ tk₁ hi hiv ⟨tvs, sn, st, hm, hsk, hck, al, hr', hlt, kp⟩ hle F1
    obtain ⟨u, rfl⟩ := loc1 hm
    clear hm
    refine turn_cut fun PQ hP hR => ?_
    obtain ⟨l, hl, z⟩ := hln.get (i := i) (a := v) (by simpa using hiv)
    obtain ⟨a, t, u2, d, n3, sl, rfl, ha, hna⟩ := z.obj
    have hag := kb a _ (na1 (ne_ti ha hca) (na1 (ne_td ha hcd) (na1 (ne_tl ha hvl) na0))) ha
    have hag' : g0.IsTuple a #[.str l.word t, .int l.opd u2] := ⟨_, hag, rfl, _, rfl⟩
    walk_at "9az"
    have hca1 := kp.get hca
    have hcd1 := kp.get hcd
    have hvl1 := kp.get hvl
    have htl : tvs.length ≤ 12 := by walk_at "om"
    have hns := F1.ns
    have r1 : NeR sk (L0 + 1) := Nat.ne_of_gt l1.1
    have r2 : NeR sk ca := Nat.ne_of_gt l1.2.1
    have r3 : NeR sk cd := Nat.ne_of_gt l1.2.2.1
    have r4 : NeR sk vl := Nat.ne_of_gt l1.2.2.2
    have vcd : NeR vl cd := ne_do hvl hcd
    have vca : NeR vl ca := ne_io hvl hca
    have hX : ∀ p ∈ ([(sk, listOf tvs.toArray sn), (L0 + 1, oc), (ca, instObj 276 cd), (cd, consD w.params t0 vl), (vl, listOf vals.toArray vn)] : List (Addr × Obj)), Heap.get? h₁ p.1 = some p.2 ∧ p.1 ≠ L0 ∧ g0.get? p.1 = none := fa1 ⟨hsk, skL, none_base kg skS⟩ (fa1 ⟨hck, ckL, ck0⟩ (fa1 ⟨hca1, caL, gca⟩ (fa1 ⟨hcd1, cdL, gcd⟩ (fa1 ⟨hvl1, vlL, gvl⟩ fa0))))
    walk_at "9v"
    walk_at "9B"
    clear hX
    have N1 : News g0 L0 h₁ ((sk, listOf tvs.toArray sn) :: (L0 + 1, oc) :: (ca, instObj 276 cd) :: (cd, consD w.params t0 vl) :: (vl, listOf vals.toArray vn) :: own) := N1
    have hoff : OwnOff own [sk, L0 + 1, ca, cd, vl] := hoff
    clear z ha hag
    walk_at "9ad"
    clear_value qk ek
    revert l tvs st G hd hu hfl hca hcd hvl h0 hln hvs hlen hl12 hr hB hne hQ LL hsub0 X0 T0 l10 d10 kg kb hst hL0 gca gcd gvl hfl0 hfl1 l1 d1 htk9' hthere skS skL ckL ck0 hnc caL cdL vlL hi hsk hck al hr' hlt kp hle F1 hP hR hl hiv hna hag' hil hca1 hcd1 hvl1 htl hns r1 r2 r3 r4 vcd vca hall eX N1 hoff hqk
    apply iy24 g0 h10 h2 h₁ L0 sk a tk10 tk9 i tk₁ sn n3 o10 oc qk PQ ek u t u2 d sl own ⟨by walk_at "df"⟩
    intro g0 h10 h2 h₁ L0 sk a tk10 tk9 i tk₁ sn n3 o10 oc qk PQ ek u t u2 d sl own
    clear_value g0 h10 h2 h₁ L0 sk a tk10 tk9 i tk₁ sn n3 o10 oc qk PQ ek u t u2 d sl own
    walk_at "in"
    cases l with
    | c k =>
      obtain ⟨a, hcs, hr2⟩ := run_c hr hl hr'
      obtain ⟨x, hx, hxa⟩ := hvs.at hcs
      dsimp only [Ln.word, Ln.opd] at hag'
      k_steps
      walk_at "9b"
      walk_at "9a"
      have k6 : Kept [L0, sk] h₁ _ := turn_but2 (X' := [_, _, _, _, _]) kF kN eX hall (fa1 (.inl rfl) (fa1 (.inr Z1) (fa1 (.inr Z2) (fa1 (.inr Z3) (fa1 (.inr Z4) fa0)))))
      have kn6 := kn_two k6 hns hsk
      exact hP _ (EndH.mk kF (ro_nil kn6) (rn_next kp hL0 skS k6 (led_get kN Z1) (led_get kN (.head _)) (al.mono fun _ _ z => z.kn kn6) (show TrV _ x (.at a) from hxa) hr2 hlt rfl))
    | v k =>
      have hr2 := run_v hl hr'
      dsimp only [Ln.word, Ln.opd] at hag'
      k_steps
      walk_at "9b"
      walk_at "9a"
      have k6 : Kept [L0, sk] h₁ _ := turn_but2 (X' := [_, _, _, _, _, _]) kF kN eX hall (fa1 (.inl rfl) (fa1 (.inr Z2) (fa1 (.inr Z3) (fa1 (.inr Z4) (fa1 (.inr Z5) fa0)))))
      have kn6 := kn_two k6 hns hsk
      exact hP _ (EndH.mk kF (ro_nil kn6) (rn_next kp hL0 skS k6 (led_get kN Z2) (led_get kN Z1) (al.mono fun _ _ z => z.kn kn6) (show TrV _ _ (.var k) from ⟨_, _, u2, rfl, ⟨_, led_get kN (.head _), rfl, _, rfl⟩⟩) hr2 hlt rfl))
    | p o =>
      walk_at "9aL"
      obtain ⟨qst, args, rfl, hal, hy, hn⟩ := run_p hr hl hr'
      dsimp only [Ln.word, Ln.opd] at hag' hrow
      obtain ⟨p, q, rfl, al1, al2⟩ := al.split
      have hpl : p.length ≤ 12 := by rw [List.length_append] at htl; walk_at "om"
      rcases o.many_cases with hmo | hmo
      · rw [hmo] at hal hrow
        obtain ⟨x1, rfl⟩ := len1 hal
        obtain ⟨y1, rfl⟩ := len1 al2.length
        k_steps
        walk_at "9b"
        walk_at "9a"
        have k1 : Kept [L0, sk] h₁ _ := turn_but2 (X' := [_, _, _, _, _, _, _]) kF kN eX hall (fa1 (.inl rfl) (fa1 (.inr Z3) (fa1 (.inr Z4) (fa1 (.inr Z5) (fa1 (.inr Z6) fa0)))))
        have kn1 := kn_two k1 hns hsk
        refine wpAny_with_toks (Nat.le_refl _) (c_called1 (Gd.of kF X0 T0) (by walk_at "m_room") (by show un + 3 + 100 < cLine; walk_at "om") (led_get kN (.head _)) (led_new kN (.head _)) hmo (al2.1.kn kn1) ?_ ?_)
        · intro v y h5 tk5 hc hv k5 t5 t6
          walk_at "98"
          have k2 := k1.trans (k5.mono fun _ q => nomatch q)
          have hr2 := hy y hc
          have hnn := hv.nn
          obtain ⟨own5, N5, hoff5, -, hall5⟩ := turn_open [_, _, _, _, _, _, _] F' (fun p hp => N' p (List.mem_append_left own hp))
          have eX5 : ∀ p ∈ ([_, _, _, _, _, _, _] : List (Addr × Obj)), Heap.get? h5 p.1 = some p.2 := fun p hp => (N' p (List.mem_append_left own hp)).1
          have e2 := led_get N5 Z2
          have hns5 := F'.ns
          clear kF kN N'
          k_steps
          walk_at "9b"
          rename News _ _ _ (_ :: _ :: _ :: _ :: _ :: _ :: _ :: own5) => kN
          have k7 : Kept [L0, sk] h5 _ := turn_but2 (X := [_, _, _, _, _, _, _]) (X' := [_, _, _, _, _, _, _]) kF kN eX5 hall5 (fa1 (.inr (.head _)) (fa1 (.inr Z1) (fa1 (.inl rfl) (fa1 (.inr Z3) (fa1 (.inr Z4) (fa1 (.inr Z5) (fa1 (.inr Z6) fa0)))))))
          have kn7 := kn_two k7 hns5 e2
          have k8 := k2.trans k7
          have kn8 := kn_two k8 hns hsk
          exact hP _ (EndH.mk kF (ro_nil kn8) (rn_next kp hL0 skS k8 (led_get kN Z3) (led_get kN Z2) (al1.mono fun _ _ z => z.kn kn8) (hv.kn kn7) hr2 (by rw [List.length_append] at hlt; walk_at "om") rfl))
        · intro h5 tk5 hc k5 t5 t6
          walk_at "98"
          have hrs := hn hc
          clear kF kN
          k_steps
          walk_at "9b"
          walk_at "9a"
          have k9 : Kept [L0, sk] h₁ _ := turn_but2 (X' := [_, _, _, _, _, _, _, _, _]) kF kN eX hall (fa1 (.inl rfl) (fa1 (.inr Z5) (fa1 (.inr Z6) (fa1 (.inr Z7) (fa1 (.inr Z8) fa0)))))
          have kn2 := kn_two k9 hns hsk
          refine hR _ _ ?_
          refine hqk _ _ ?_
          walk_at "9h"
          intro kk ll ht
          refine hQ _ _ _ ?_ (kept_two k9 hL0 skS kp) ht
          rw [hrs]
          exact ⟨_, _, _, _, [y1], rfl, ⟨_, led_get kN (.head _), rfl, _, rfl⟩, ⟨_, led_get kN Z1, rfl, _, rfl⟩, al2.mono fun _ _ z => z.kn kn2⟩
      · rw [hmo] at hal hrow
        obtain ⟨x2, x1, rfl⟩ := len2 hal
        obtain ⟨y2, y1, rfl⟩ := len2 al2.length
        k_steps
        walk_at "9b"
        walk_at "9a"
        have k1 : Kept [L0, sk] h₁ _ := turn_but2 (X' := [_, _, _, _, _, _, _]) kF kN eX hall (fa1 (.inl rfl) (fa1 (.inr Z3) (fa1 (.inr Z4) (fa1 (.inr Z5) (fa1 (.inr Z6) fa0)))))
        have kn1 := kn_two k1 hns hsk
        refine wpAny_with_toks (Nat.le_refl _) (c_called2 (Gd.of kF X0 T0) (by walk_at "m_room") (by show un + 3 + 100 < cLine; walk_at "om") (led_get kN (.head _)) (led_new kN (.head _)) hmo (al2.1.kn kn1) (al2.2.1.kn kn1) (fun j e => hB i _ hr' j (by subst e; simp)) (fun j e => hB i _ hr' j (by subst e; simp)) ?_ ?_)
        · intro v y h5 tk5 hc hv k5 t5 t6
          walk_at "98"
          have k2 := k1.trans (k5.mono fun _ q => nomatch q)
          have hr2 := hy y hc
          have hnn := hv.nn
          obtain ⟨own5, N5, hoff5, -, hall5⟩ := turn_open [_, _, _, _, _, _, _] F' (fun p hp => N' p (List.mem_append_left own hp))
          have eX5 : ∀ p ∈ ([_, _, _, _, _, _, _] : List (Addr × Obj)), Heap.get? h5 p.1 = some p.2 := fun p hp => (N' p (List.mem_append_left own hp)).1
          have e2 := led_get N5 Z2
          have hns5 := F'.ns
          clear kF kN N'
          k_steps
          walk_at "9b"
          rename News _ _ _ (_ :: _ :: _ :: _ :: _ :: _ :: _ :: own5) => kN
          have k7 : Kept [L0, sk] h5 _ := turn_but2 (X := [_, _, _, _, _, _, _]) (X' := [_, _, _, _, _, _, _]) kF kN eX5 hall5 (fa1 (.inr (.head _)) (fa1 (.inr Z1) (fa1 (.inl rfl) (fa1 (.inr Z3) (fa1 (.inr Z4) (fa1 (.inr Z5) (fa1 (.inr Z6) fa0)))))))
          have kn7 := kn_two k7 hns5 e2
          have k8 := k2.trans k7
          have kn8 := kn_two k8 hns hsk
          exact hP _ (EndH.mk kF (ro_nil kn8) (rn_next kp hL0 skS k8 (led_get kN Z3) (led_get kN Z2) (al1.mono fun _ _ z => z.kn kn8) (hv.kn kn7) hr2 (by rw [List.length_append] at hlt; walk_at "om") rfl))
        · intro h5 tk5 hc k5 t5 t6
          walk_at "98"
          have hrs := hn hc
          clear kF kN
          k_steps
          walk_at "9b"
          walk_at "9a"
          have k9 : Kept [L0, sk] h₁ _ := turn_but2 (X' := [_, _, _, _, _, _, _, _, _]) kF kN eX hall (fa1 (.inl rfl) (fa1 (.inr Z5) (fa1 (.inr Z6) (fa1 (.inr Z7) (fa1 (.inr Z8) fa0)))))
          have kn2 := kn_two k9 hns hsk
          refine hR _ _ ?_
          refine hqk _ _ ?_
          walk_at "9h"
          intro kk ll ht
          refine hQ _ _ _ ?_ (kept_two k9 hL0 skS kp) ht
          rw [hrs]
          exact ⟨_, _, _, _, [y2, y1], rfl, ⟨_, led_get kN (.head _), rfl, _, rfl⟩, ⟨_, led_get kN Z1, rfl, _, rfl⟩, al2.mono fun _ _ z => z.kn kn2⟩
  · clear kF kN
    rintro h' tk9 m' ht9 F9 ⟨tvs, sn, st, hm, hsk, hck, al, hr', hlt, kp⟩
    obtain ⟨u, rfl⟩ := loc1 hm
    clear hm
    have hsz : fvs.toArray.size = lns.length := by rw [List.size_toArray]; exact hln.length
    rw [hsz] at hr' hlt
    rw [List.take_length, hr] at hr'
    have hrs := Option.some.inj hr'
    have htl : tvs.length ≤ 12 := by walk_at "om"
    have hns := F9.ns
    have hX : ∀ p ∈ ([(sk, listOf tvs.toArray sn), (L0 + 1, oc)] : List (Addr × Obj)), Heap.get? h' p.1 = some p.2 ∧ p.1 ≠ L0 ∧ g0.get? p.1 = none := fa1 ⟨hsk, skL, none_base kg skS⟩ (fa1 ⟨hck, ckL, ck0⟩ fa0)
    obtain ⟨own, N9, hoff, -, hall⟩ := turn_open _ F9 hX
    walk_at "9B"
    clear hX
    have N9 : News g0 L0 h' ((sk, listOf tvs.toArray sn) :: (L0 + 1, oc) :: own) := N9
    k_steps
    walk_at "9b"
    walk_at "9a"
    have k6 : Kept [L0, sk] h' _ := turn_but2 (X' := [_, _, _, _]) kF kN eX hall (fa1 (.inl rfl) (fa1 (.inr Z3) fa0))
    have kn6 := kn_two k6 hns hsk
    walk_at "9h"
    intro kk ll ht
    refine hQ _ _ _ ?_ (kept_two k6 hL0 skS kp) ht
    rw [hrs]
    exact ⟨_, _, _, tvs, rfl, ⟨_, led_get kN (.head _), rfl, _, rfl⟩, ⟨_, led_get kN Z1, rfl, _, rfl⟩, al.mono fun _ _ z => z.kn kn6⟩
theorem zg_run : True := trivial
theorem zrr33 : True := by
  k_with "@exec For Tuple Call cons nil" => ((fail_if_success have := zg_left); (k_here; (with_reducible rename Fr _ _ _ _ => lF9'); (with_unfolding_all refine' For_H lF9' ?_; k_whole)))
  k_with "@subscriptTail" => ((fail_if_success have := zg_left); (k_here; k_dflt (refine kba_turn (value' := PySem.Expr.Name (PySem.Str.ofString "_") ⟨0, 0, 0, 0⟩) (fun _ => rfl) ?_); (k_dflt (refine' item_base ?k1_129 ?k2_129 ?k3_129 ?k4_129 ?_ ?k5_129; (case k1_129 => exact led_list (by k_asm) (by k_mem)); (case k2_129 => with_reducible assumption); (case k3_129 => with_reducible assumption); (case k4_129 => with_unfolding_all rfl); (case k5_129 => intro _; with_unfolding_all rfl)))))
  k_with "@subscriptTail Name Name ref int" => ((fail_if_success have := zg_left); (k_here; first | ((with_reducible show wpAny _ _ (subscriptTail _ _ (Value.ref 67) (Value.int _ _)) _ _ _); (refine' item_tupR ?k1_130 ?k2_130 ?k3_130 ?_ ?k4_130; (case k1_130 => exact Heap.IsTuple.at (plain_tup (by k_asm)) (fun o e => Fr.keep (by k_asm) _ o e)); (case k2_130 => exact Nat.le_of_ble_eq_true rfl); (case k3_130 => exact plain_get _); (case k4_130 => with_unfolding_all rfl))) | (k_dflt (refine' item_base ?k1_130 ?k2_130 ?k3_130 ?k4_130 ?_ ?k5_130; (case k1_130 => exact led_list (by k_asm) (by k_mem)); (case k2_130 => with_reducible assumption); (case k3_130 => with_reducible assumption); (case k4_130 => with_unfolding_all rfl); (case k5_130 => intro _; with_unfolding_all rfl)))))
  k_with "@compareOp NotEq str str" => ((fail_if_success have := zg_left); (k_here; refine ne_str_b (by with_reducible assumption) ?_))
  k_with "@compareOp IsNot" => ((fail_if_success have := zg_left); (k_here; (with_reducible show wpAny _ _ (compareOp CmpOp.IsNot _ Value.none) _ _ _); refine isnot_none_nn (by with_reducible assumption) ?_))
  k_with "@eval ListComp" => ((fail_if_success have := zg_left); (k_here; k_dflt (refine pt_comp (by k_asm) (by with_unfolding_all rfl) (by decide) (by rfl) (by decide) (by rfl) (by rfl) (by decide) ?_)))
  k_with "@compareOp Eq ref ref" => ((fail_if_success have := zg_left); (k_here; (with_reducible rename News _ _ _ _ => kN9'); first | (refine eq_nils (led_list kN9' Z1) (led_list kN9' (.head _)) (by walk_at "m_units") ?_) | (refine eq_lens (led_list kN9' Z1) (led_list kN9' (.head _)) rfl (by walk_at "m_units") ?_)))
  k_with "@m_units" => ((fail_if_success have := zg_left); first | (with_unfolding_all (show (_ : Nat) < cLine); (with_reducible assumption)) | (dsimp only [At0]; walk_at "om") | (simp only [cLine] at *; dsimp only [At0]; walk_at "om"))
  k_with "@subscriptTail Name Slice ref ref" => ((fail_if_success have := zg_left); (k_here; (with_reducible show wpAny _ _ (subscriptTail _ (PySem.Expr.Slice _ _ _ _) (Value.ref _) (Value.ref _)) _ _ _); k_dflt (refine' kmk_slice_lit ?F ?N ?l_136 ?p_136 ?q_136 ?e_136 ?_ ?s_136 ?t_136 ?z_136; (case F => k_asm); (case N => k_asm); (case l_136 => exact Heap.IsList.at (by with_reducible assumption) (fun o e => Fr.keep (by k_asm) _ o e)); (case p_136 => kmk_part); (case q_136 => kmk_part); (case e_136 => with_reducible assumption); (case s_136 => with_unfolding_all rfl); (case t_136 => kmk_pure); (case z_136 => (simp only [List.size_toArray, sizeLine_eq]; walk_at "om"))); intro D9' h9' F9' N9' l19; (try k_lt l19); (try k_sweep)))
  k_with "@CompEnd" => ((fail_if_success have := zg_left); ((with_reducible rename LCg.Off3 _ _ _ _ => hoff9'); (with_reducible rename Fr _ _ _ _ => kF9'); (with_reducible rename News _ _ _ _ => kN9'); refine LCg.CompEnd.intro kF9' kN9' _ (fun p hp => hp) hoff9' (by first | exact trivial | exact (fun p hp => hp) | exact .inr ⟨_, by k_mem, rfl, _, rfl⟩) ?_))
  k_with "@KctRest" => ((fail_if_success have := zg_left); (with_unfolding_all first
    | (refine KctRest.cons ?_; intro t9' I9' oI9' C9' oC9' D9' m9' h9' tk9' E9' hC9' ha9' hb9' F9' N9' off9' ne9'; (try dsimp only at ha9' hb9'); clear ne9'; have oa9' := NeR.intro off9'.1.1; have ob9' := NeR.intro off9'.1.2.1; have oc9' := NeR.intro off9'.1.2.2)
    | refine KctRest.nil ?_))
  k_with "@m_ne" => ((fail_if_success have := zg_left); (refine neN ?_; (try dsimp only); first
    | exact NeR.ne (by with_reducible assumption) | exact Ne.symm (NeR.ne (by with_reducible assumption))
    | (with_reducible assumption) | exact Ne.symm (by with_reducible assumption)
    | walk_at "nj"
    | ((try simp only [LCg.Off3, LCg.Off1, and_true] at *); walk_at "om")))
  k_with "@CompRestP" => ((fail_if_success have := zg_left); (with_unfolding_all first
    | (refine LCp.CompRestP.succ ?_; intro v9' hv9'; lcg_open hv9'; refine ⟨_, _, _, _, _, rfl, by k_mem, rfl, rfl, ?_⟩; intro I9' oI9' C9' oC9' D9' m9' h9' tk9' E9' hC9' hx9' hy9' F9' N9' off9' ne9'; clear ne9'; have oa9' := NeR.intro off9'.1.1; have ob9' := NeR.intro off9'.1.2.1; have oc9' := NeR.intro off9'.1.2.2)
    | refine LCp.CompRestP.zero ?_))
  k_with "@left_loc" => ((fail_if_success have := zg_left); (intro z9 z19 z29 z39 z49 z59 z69 z79; first | (simp only [if_neg z19, if_neg z29, if_neg z39, if_neg z49, if_neg z59, if_neg z69, if_neg z79]; done) | (simp only [if_neg z19, if_neg z29, if_neg z39, if_neg z49, if_neg z59, if_neg z69, if_neg z79]; rfl)))
  trivial
theorem c_law_is_left {fl ca cd vl : Addr} {fvs vals : List Value} {lns : List Ln} {cs : List At} {t0 : Tok} {fn vn : Nat} (G : Gd w p lo mean mg mb h₀ s) (hd : dp + 12 < recursionLimit) (hu : un + 200 < cLine)
   (hfl : s.heap.get? fl = some (listOf fvs.toArray fn)) (hca : s.heap.get? ca = some (instObj 276 cd)) (hcd : s.heap.get? cd = some (consD w.params t0 vl)) (hvl : s.heap.get? vl = some (listOf vals.toArray vn))
   (h0 : h₀.get? ca = none ∧ h₀.get? cd = none ∧ h₀.get? vl = none) (hln : All2 (LnZ h₀ s.heap) fvs lns) (hvs : AtsV vals cs) (hlen : vals.length ≤ 1000) (hl12 : lns.length ≤ 12) (hok : ∀ l ∈ lns, l.ok cs) (hL : isLeft lns cs = false)
   (hB : Bd 30000 cs) (hne : fl ≠ vl)
   (hQ : ∀ h' tk', Kept [] s.heap h' → s.toks ≤ tk' → Q (.bool false) {s with heap := h', toks := tk'}) :
   wpAny (model prog w) (At0 dp un fr gd) (call (.ref 789) [.ref fl, .ref ca]) Q E s := by
  revert G hd hu hfl hca hcd hvl h0 hln hvs hlen hl12 hok hL hB hne hQ
  revert prog w dp un fr gd s h₀ p lo mean mg mb Q E fl ca cd vl fvs vals lns cs t0 fn vn
  walk_at "9c"
  intro prog w dp un fr gd s h₀ p lo mean mg mb Q E fl
  clear_value prog w dp un fr gd s h₀ p lo mean mg mb Q E fl
  walk_at "9i"
  intro ca cd vl fvs vals lns cs t0
  clear_value ca cd vl fvs vals lns cs t0
  walk_at "9e"
  intro fn vn
  clear_value fn vn
  walk_at "in"
  walk_at "9d"
  obtain ⟨lnl, LA, lcls, lmem⟩ := ln_led hln
  have LL : Led h₀ s.heap ((ca, instObj 276 cd) :: (cd, consD w.params t0 vl) :: (vl, listOf vals.toArray vn) :: lnl) := fun p hp => by
    walk_at "9x"
    · exact ⟨hca, h0.1⟩
    walk_at "9x"
    · exact ⟨hcd, h0.2.1⟩
    walk_at "9x"
    · exact ⟨hvl, h0.2.2⟩
    · exact LA p hp
  refine' enterC (M := ca :: cd :: vl :: lnl.map (·.1)) (binds := [(Str.ofString "lines", .ref fl), (Str.ofString "constants", .ref ca)]) ?hM G LL ?ho ?hcd ?hr ?hb ?hl ?hnd ?_ ?c1 ?c2 ?c3
  (case hM => intro p hp; exact List.mem_map_of_mem (f := fun p : Addr × Obj => p.1) hp)
  walk_at "m_restC"
  rename_i oc d10
  have hst := base_of G LL kb
  have hL0 : s.heap.get? L0 = none := local_new kb F0 (fun p hp => N0 p (.tail _ hp))
  have gca := (N0 (ca, _) Z1).2.2
  have gcd := (N0 (cd, _) Z2).2.2
  have gvl := (N0 (vl, _) Z3).2.2
  have gmem : ∀ p ∈ lnl, g0.get? p.1 = none := fun p hp => (N0 p (.tail _ (.tail _ (.tail _ (.tail _ hp))))).2.2
  have hnL : ∀ {y : Addr} {o : Obj}, s.heap.get? y = some o → y ≠ L0 := fun e q => by rw [q, hL0] at e; cases e
  have nca : ∀ {y : Addr} {vs : Array Value} {k : Nat}, s.heap.get? y = some (listOf vs k) → y ≠ ca ∧ y ≠ cd := fun e => ⟨ne_obj e hca (fun q => by cases q), ne_obj e hcd (fun q => by injection q with q; injection q with q; exact absurd q (by decide))⟩
  have hfl0 := kb fl _ (by
    simp only [List.map_cons, List.mem_cons, not_or]
    refine ⟨(nca hfl).1, (nca hfl).2, hne, fun q => ?_⟩
    obtain ⟨p, hp, e⟩ := List.mem_map.mp q
    have h1 := (LA p hp).1
    have h2 := lcls p hp
    rw [e, hfl] at h1
    rw [← Option.some.inj h1] at h2
    injection h2 with h2; exact absurd h2 (by decide)) hfl
  have hfl1 : g0.IsList fl fvs.toArray := ⟨_, hfl0, rfl, _, rfl⟩
  have hflen := hln.length
  k_steps
  walk_at "9b"
  walk_at "9a"
  have hthere : ∀ b o, s.heap.get? b = some o → Heap.get? _ b = some o := there_of kb (fun p hp => (LL p hp).1) kF kN (fun p hp => .tail _ hp)
  have ckL := (kN _ (.head _)).2.1
  have ck0 := (kN _ (.head _)).2.2
  have hnc : NF oc := fun vs q => by rw [d10] at q; cases q
  refine h_enum (LefI s.heap (L0 + 1) oc (some (.ref fl))) rfl kF hfl1 ⟨⟨rfl, led_get kN (.head _), fun b o hb e => hthere b o e⟩, LefI.up hnc (fun b o e => ⟨o, hthere b o e⟩), ?turn, ?fin⟩
  case turn =>
    clear kF kN
    rintro i v m₁ h₁ tk₁ hi ⟨Tt, tvals, rfl, ⟨ti, x, hx, rfl⟩, hT⟩ ⟨hm, hck, kp⟩ hle F1
    obtain ⟨u, rfl⟩ := loc1 hm
    clear hm
    refine turn_cut fun PQ hP _ => ?_
    obtain ⟨l, hl, -⟩ := hln.get (i := i) (a := x) (by simpa using hx)
    obtain ⟨a, t, u2, d, n3, sl, hfa, ham⟩ := lmem i l hl
    obtain rfl : x = .ref a := by
      have : fvs[i]? = some x := by simpa using hx
      rw [hfa] at this; exact (Option.some.inj this).symm
    walk_at "9az"
    have hca1 := kp.get hca
    have hcd1 := kp.get hcd
    have hvl1 := kp.get hvl
    have hns := F1.ns
    clear_value qk ek
    revert l i G hd hu hfl hca hcd hvl h0 hln hvs hlen hl12 hok hL hB hne LA lcls lmem LL hsub0 X0 T0 l10 d10 kg kb hst hL0 gca gcd gvl gmem hnL nca hfl0 hfl1 hflen hthere ckL ck0 hnc hi hck kp hle F1 hP hl hfa ham hx hT hil hca1 hcd1 hvl1 hns
    apply iy24 lnl g0 h10 h₁ L0 Tt a tk10 tk₁ n3 oc qk PQ ek ti t u2 u d sl mb mg mean lo ⟨by walk_at "df"⟩
    intro lnl g0 h10 h₁ L0 Tt a tk10 tk₁ n3 oc qk PQ ek ti t u2 u d sl mb mg mean lo
    clear_value lnl g0 h10 h₁ L0 Tt a tk10 tk₁ n3 oc qk PQ ek ti t u2 u d sl mb mg mean lo
    walk_at "in"
    cases l with
    | c k =>
      have hX : ∀ p ∈ ([(a, ⟨.type "tuple", d, .seq #[.str (Ln.c k).word t, .int (Ln.c k).opd u2] n3, sl⟩), (L0 + 1, oc), (ca, instObj 276 cd), (cd, consD w.params t0 vl), (vl, listOf vals.toArray vn)] : List (Addr × Obj)), Heap.get? h₁ p.1 = some p.2 ∧ p.1 ≠ L0 ∧ g0.get? p.1 = none := (fa1 ⟨kp.get (LA _ ham).1, hnL (LA _ ham).1, gmem _ ham⟩ (fa1 ⟨hck, ckL, ck0⟩ (fa1 ⟨hca1, hnL hca, gca⟩ (fa1 ⟨hcd1, hnL hcd, gcd⟩ (fa1 ⟨hvl1, hnL hvl, gvl⟩ fa0)))))
      walk_at "9v"
      walk_at "9B"
      clear hX
      have N1 : News g0 L0 h₁ ((a, ⟨.type "tuple", d, .seq #[.str (Ln.c k).word t, .int (Ln.c k).opd u2] n3, sl⟩) :: (L0 + 1, oc) :: (ca, instObj 276 cd) :: (cd, consD w.params t0 vl) :: (vl, listOf vals.toArray vn) :: own) := N1
      walk_at "9S"
      walk_at "9ap"
      k_steps
      walk_at "9b"
      walk_at "9a"
      have k6 : Kept [L0] h₁ _ := turn_same (X' := [_, _, _, _, _]) kF kN eX hall (fun _ q => q)
      exact hP _ (EndH.mk kF (ro_nil (kn_loc k6 hns)) ⟨rfl, led_get kN Z1, kept_base k6 hL0 kp⟩)
    | v k =>
      have hX : ∀ p ∈ ([(a, ⟨.type "tuple", d, .seq #[.str (Ln.v k).word t, .int (Ln.v k).opd u2] n3, sl⟩), (L0 + 1, oc), (ca, instObj 276 cd), (cd, consD w.params t0 vl), (vl, listOf vals.toArray vn)] : List (Addr × Obj)), Heap.get? h₁ p.1 = some p.2 ∧ p.1 ≠ L0 ∧ g0.get? p.1 = none := (fa1 ⟨kp.get (LA _ ham).1, hnL (LA _ ham).1, gmem _ ham⟩ (fa1 ⟨hck, ckL, ck0⟩ (fa1 ⟨hca1, hnL hca, gca⟩ (fa1 ⟨hcd1, hnL hcd, gcd⟩ (fa1 ⟨hvl1, hnL hvl, gvl⟩ fa0)))))
      walk_at "9v"
      walk_at "9B"
      clear hX
      have N1 : News g0 L0 h₁ ((a, ⟨.type "tuple", d, .seq #[.str (Ln.v k).word t, .int (Ln.v k).opd u2] n3, sl⟩) :: (L0 + 1, oc) :: (ca, instObj 276 cd) :: (cd, consD w.params t0 vl) :: (vl, listOf vals.toArray vn) :: own) := N1
      walk_at "9S"
      walk_at "9ap"
      k_steps
      walk_at "9b"
      walk_at "9a"
      have k6 : Kept [L0] h₁ _ := turn_same (X' := [_, _, _, _, _]) kF kN eX hall (fun _ q => q)
      exact hP _ (EndH.mk kF (ro_nil (kn_loc k6 hns)) ⟨rfl, led_get kN Z1, kept_base k6 hL0 kp⟩)
    | p o =>
      walk_at "9aL"
      rcases o.many_cases with hmo | hmo
      · rw [hmo] at hrow
        have hrow : g0.IsTuple (22 + o.idx) #[.str o.name rt, .int 1 ru] := hrow
        cases i with
        | zero =>
          have hX : ∀ p ∈ ([(a, ⟨.type "tuple", d, .seq #[.str (Ln.p o).word t, .int (Ln.p o).opd u2] n3, sl⟩), (L0 + 1, oc), (ca, instObj 276 cd), (cd, consD w.params t0 vl), (vl, listOf vals.toArray vn)] : List (Addr × Obj)), Heap.get? h₁ p.1 = some p.2 ∧ p.1 ≠ L0 ∧ g0.get? p.1 = none := (fa1 ⟨kp.get (LA _ ham).1, hnL (LA _ ham).1, gmem _ ham⟩ (fa1 ⟨hck, ckL, ck0⟩ (fa1 ⟨hca1, hnL hca, gca⟩ (fa1 ⟨hcd1, hnL hcd, gcd⟩ (fa1 ⟨hvl1, hnL hvl, gvl⟩ fa0)))))
          walk_at "9v"
          walk_at "9B"
          clear hX
          have N1 : News g0 L0 h₁ ((a, ⟨.type "tuple", d, .seq #[.str (Ln.p o).word t, .int (Ln.p o).opd u2] n3, sl⟩) :: (L0 + 1, oc) :: (ca, instObj 276 cd) :: (cd, consD w.params t0 vl) :: (vl, listOf vals.toArray vn) :: own) := N1
          walk_at "9S"
          walk_at "9ap"
          k_steps
          walk_at "9b"
          walk_at "9a"
          have k6 : Kept [L0] h₁ _ := turn_same (X' := [_, _, _, _, _, _]) kF kN eX hall (fun _ q => sk1 q)
          exact hP _ (EndH.mk kF (ro_nil (kn_loc k6 hns)) ⟨rfl, led_get kN Z2, kept_base k6 hL0 kp⟩)
        | succ j =>
          have hjl : j < lns.length := by walk_at "om"
          obtain ⟨l1, hl1⟩ : ∃ l1, lns[j]? = some l1 := ⟨_, List.getElem?_eq_getElem hjl⟩
          obtain ⟨a1, t1, u1, d1, n1, sl1, hf1, ham1⟩ := lmem j l1 hl1
          have hsl : (slicePick fvs.toArray (some (((j + 1 : Nat) : Int) - 1)) (some ((j + 1 : Nat) : Int)) none).toList = [.ref a1] := by
            rw [show ((j + 1 : Nat) : Int) - 1 = (j : Nat) by walk_at "om", slicePick_run _ _ _ (by rw [List.size_toArray]; walk_at "om") (by walk_at "om")]
            simp only [Nat.add_sub_cancel_left, List.take_one]
            rw [List.head?_drop, hf1]; rfl
          rcases l1.con_or with ⟨k1, rfl⟩ | hw1
          · have hk1 : k1 < cs.length := hok _ (List.mem_of_getElem? hl1)
            obtain ⟨at1, hc1⟩ : ∃ a, cs[k1]? = some a := ⟨_, List.getElem?_eq_getElem hk1⟩
            obtain ⟨x1, hx1, hv1⟩ := hvs.at hc1
            have hX : ∀ p ∈ ([(a, ⟨.type "tuple", d, .seq #[.str (Ln.p o).word t, .int (Ln.p o).opd u2] n3, sl⟩), (a1, ⟨.type "tuple", d1, .seq #[.str (Ln.c k1).word t1, .int (Ln.c k1).opd u1] n1, sl1⟩), (L0 + 1, oc), (ca, instObj 276 cd), (cd, consD w.params t0 vl), (vl, listOf vals.toArray vn)] : List (Addr × Obj)), Heap.get? h₁ p.1 = some p.2 ∧ p.1 ≠ L0 ∧ g0.get? p.1 = none := (fa1 ⟨kp.get (LA _ ham).1, hnL (LA _ ham).1, gmem _ ham⟩ (fa1 ⟨kp.get (LA _ ham1).1, hnL (LA _ ham1).1, gmem _ ham1⟩ (fa1 ⟨hck, ckL, ck0⟩ (fa1 ⟨hca1, hnL hca, gca⟩ (fa1 ⟨hcd1, hnL hcd, gcd⟩ (fa1 ⟨hvl1, hnL hvl, gvl⟩ fa0))))))
            walk_at "9v"
            walk_at "9B"
            clear hX
            have N1 : News g0 L0 h₁ ((a, ⟨.type "tuple", d, .seq #[.str (Ln.p o).word t, .int (Ln.p o).opd u2] n3, sl⟩) :: (a1, ⟨.type "tuple", d1, .seq #[.str (Ln.c k1).word t1, .int (Ln.c k1).opd u1] n1, sl1⟩) :: (L0 + 1, oc) :: (ca, instObj 276 cd) :: (cd, consD w.params t0 vl) :: (vl, listOf vals.toArray vn) :: own) := N1
            walk_at "9S"
            have hoff : OwnOff own [a, a1, L0 + 1, ca, cd, vl] := hoff
            k_steps
            walk_at "9b"
            walk_at "9a"
            refine SrcPT.intro rfl kF kN (.head _) (pairs1 Z2 rfl rfl) (Nat.le_of_ble_eq_true rfl) fun g9 => ?_
            clear kF kN
            k_steps
            · walk_at "9b"
              walk_at "9a"
              walk_at "9R"
              exact hP _ (EndH.mk kF (ro_nil (kn_loc k6 hns)) ⟨rfl, led_get kN Z7, kept_base k6 hL0 kp⟩)
            · walk_at "9b"
              walk_at "9a"
              walk_at "9R"
              walk_at "9ai"
              refine wpAny_with_toks (Nat.le_refl _) (c_called1 (Gd.of kF X0 T0) (by walk_at "m_room") (by show un + 3 + 100 < cLine; walk_at "om") (led_get kN Z1) (led_new kN Z1) hmo (show TrV _ x1 (.at at1) from hv1) ?_ ?_)
              · intro v y h5 tk5 hc hv k5 t5 t6
                exact absurd (isLeft1 hl hmo hl1 hc1 c1 hc) (by rw [hL]; exact Bool.false_ne_true)
              · intro h5 tk5 hc k5 t5 t6
                walk_at "98"
                clear kF kN k6
                k_steps
                walk_at "9b"
                walk_at "9a"
                walk_at "9R"
                exact hP _ (EndH.mk kF (ro_nil (kn_loc k6 hns)) ⟨rfl, led_get kN Z7, kept_base k6 hL0 kp⟩)
          · revert ham1 hw1
            generalize l1.word = wd1
            generalize ((l1.opd : Nat) : Int) = od1
            intro ham1 hw1
            have hX : ∀ p ∈ ([(a, ⟨.type "tuple", d, .seq #[.str (Ln.p o).word t, .int (Ln.p o).opd u2] n3, sl⟩), (a1, ⟨.type "tuple", d1, .seq #[.str wd1 t1, .int od1 u1] n1, sl1⟩), (L0 + 1, oc), (ca, instObj 276 cd), (cd, consD w.params t0 vl), (vl, listOf vals.toArray vn)] : List (Addr × Obj)), Heap.get? h₁ p.1 = some p.2 ∧ p.1 ≠ L0 ∧ g0.get? p.1 = none := (fa1 ⟨kp.get (LA _ ham).1, hnL (LA _ ham).1, gmem _ ham⟩ (fa1 ⟨kp.get (LA _ ham1).1, hnL (LA _ ham1).1, gmem _ ham1⟩ (fa1 ⟨hck, ckL, ck0⟩ (fa1 ⟨hca1, hnL hca, gca⟩ (fa1 ⟨hcd1, hnL hcd, gcd⟩ (fa1 ⟨hvl1, hnL hvl, gvl⟩ fa0))))))
            walk_at "9v"
            walk_at "9B"
            clear hX
            have N1 : News g0 L0 h₁ ((a, ⟨.type "tuple", d, .seq #[.str (Ln.p o).word t, .int (Ln.p o).opd u2] n3, sl⟩) :: (a1, ⟨.type "tuple", d1, .seq #[.str wd1 t1, .int od1 u1] n1, sl1⟩) :: (L0 + 1, oc) :: (ca, instObj 276 cd) :: (cd, consD w.params t0 vl) :: (vl, listOf vals.toArray vn) :: own) := N1
            walk_at "9S"
            have hoff : OwnOff own [a, a1, L0 + 1, ca, cd, vl] := hoff
            k_steps
            walk_at "9b"
            walk_at "9a"
            refine SrcPT.intro rfl kF kN (.head _) (pairs1 Z2 rfl rfl) (Nat.le_of_ble_eq_true rfl) fun g9 => ?_
            clear kF kN
            k_steps
            walk_at "9b"
            walk_at "9a"
            have k6 : Kept [L0] h₁ _ := turn_same (X' := [_, _, _, _, _, _, _, _, _]) kF kN eX hall (fun _ q => sk3 q)
            exact hP _ (EndH.mk kF (ro_nil (kn_loc k6 hns)) ⟨rfl, led_get kN Z5, kept_base k6 hL0 kp⟩)
      · rw [hmo] at hrow
        have hrow : g0.IsTuple (22 + o.idx) #[.str o.name rt, .int 2 ru] := hrow
        rcases Nat.lt_or_ge i 2 with hi2 | hi2
        · have hi3 : ¬ ((i : Int) ≥ 2) := by walk_at "om"
          have hX : ∀ p ∈ ([(a, ⟨.type "tuple", d, .seq #[.str (Ln.p o).word t, .int (Ln.p o).opd u2] n3, sl⟩), (L0 + 1, oc), (ca, instObj 276 cd), (cd, consD w.params t0 vl), (vl, listOf vals.toArray vn)] : List (Addr × Obj)), Heap.get? h₁ p.1 = some p.2 ∧ p.1 ≠ L0 ∧ g0.get? p.1 = none := (fa1 ⟨kp.get (LA _ ham).1, hnL (LA _ ham).1, gmem _ ham⟩ (fa1 ⟨hck, ckL, ck0⟩ (fa1 ⟨hca1, hnL hca, gca⟩ (fa1 ⟨hcd1, hnL hcd, gcd⟩ (fa1 ⟨hvl1, hnL hvl, gvl⟩ fa0)))))
          walk_at "9v"
          walk_at "9B"
          clear hX
          have N1 : News g0 L0 h₁ ((a, ⟨.type "tuple", d, .seq #[.str (Ln.p o).word t, .int (Ln.p o).opd u2] n3, sl⟩) :: (L0 + 1, oc) :: (ca, instObj 276 cd) :: (cd, consD w.params t0 vl) :: (vl, listOf vals.toArray vn) :: own) := N1
          walk_at "9S"
          walk_at "9ap"
          k_steps
          walk_at "9b"
          walk_at "9a"
          have k6 : Kept [L0] h₁ _ := turn_same (X' := [_, _, _, _, _, _]) kF kN eX hall (fun _ q => sk1 q)
          exact hP _ (EndH.mk kF (ro_nil (kn_loc k6 hns)) ⟨rfl, led_get kN Z2, kept_base k6 hL0 kp⟩)
        · obtain ⟨j, rfl⟩ : ∃ j, i = j + 2 := ⟨i - 2, by walk_at "om"⟩
          have hjl : j < lns.length := by walk_at "om"
          have hjl' : j + 1 < lns.length := by walk_at "om"
          obtain ⟨l1, hl1⟩ : ∃ l1, lns[j]? = some l1 := ⟨_, List.getElem?_eq_getElem hjl⟩
          obtain ⟨l2, hl2⟩ : ∃ l2, lns[j + 1]? = some l2 := ⟨_, List.getElem?_eq_getElem hjl'⟩
          obtain ⟨a1, t1, u1, d1, n1, sl1, hf1, ham1⟩ := lmem j l1 hl1
          obtain ⟨a2, t2, u3, d2, n2, sl2, hf2, ham2⟩ := lmem (j + 1) l2 hl2
          have hsl : (slicePick fvs.toArray (some (((j + 2 : Nat) : Int) - 2)) (some ((j + 2 : Nat) : Int)) none).toList = [.ref a1, .ref a2] := by
            rw [show ((j + 2 : Nat) : Int) - 2 = (j : Nat) by walk_at "om", slicePick_run _ _ _ (by rw [List.size_toArray]; walk_at "om") (by walk_at "om")]
            rw [Nat.add_sub_cancel_left]
            have e1 : fvs.drop j = .ref a1 :: .ref a2 :: fvs.drop (j + 2) := by
              rw [List.drop_eq_getElem_cons (show j < fvs.length by walk_at "om"), List.drop_eq_getElem_cons (show j + 1 < fvs.length by walk_at "om")]
              have q1 := List.getElem?_eq_getElem (show j < fvs.length by walk_at "om")
              have q2 := List.getElem?_eq_getElem (show j + 1 < fvs.length by walk_at "om")
              rw [hf1] at q1; rw [hf2] at q2
              rw [← Option.some.inj q1, ← Option.some.inj q2]
            show (fvs.drop j).take 2 = _
            rw [e1]; rfl
          rcases l1.con_or with ⟨k1, rfl⟩ | hw1
          · rcases l2.con_or with ⟨k2, rfl⟩ | hw2
            · have hk1 : k1 < cs.length := hok _ (List.mem_of_getElem? hl1)
              obtain ⟨at1, hc1⟩ : ∃ a, cs[k1]? = some a := ⟨_, List.getElem?_eq_getElem hk1⟩
              obtain ⟨x1, hx1, hv1⟩ := hvs.at hc1
              have hk2 : k2 < cs.length := hok _ (List.mem_of_getElem? hl2)
              obtain ⟨at2, hc2⟩ : ∃ a, cs[k2]? = some a := ⟨_, List.getElem?_eq_getElem hk2⟩
              obtain ⟨x2, hx2, hv2⟩ := hvs.at hc2
              have hX : ∀ p ∈ ([(a, ⟨.type "tuple", d, .seq #[.str (Ln.p o).word t, .int (Ln.p o).opd u2] n3, sl⟩), (a1, ⟨.type "tuple", d1, .seq #[.str (Ln.c k1).word t1, .int (Ln.c k1).opd u1] n1, sl1⟩), (a2, ⟨.type "tuple", d2, .seq #[.str (Ln.c k2).word t2, .int (Ln.c k2).opd u3] n2, sl2⟩), (L0 + 1, oc), (ca, instObj 276 cd), (cd, consD w.params t0 vl), (vl, listOf vals.toArray vn)] : List (Addr × Obj)), Heap.get? h₁ p.1 = some p.2 ∧ p.1 ≠ L0 ∧ g0.get? p.1 = none := (fa1 ⟨kp.get (LA _ ham).1, hnL (LA _ ham).1, gmem _ ham⟩ (fa1 ⟨kp.get (LA _ ham1).1, hnL (LA _ ham1).1, gmem _ ham1⟩ (fa1 ⟨kp.get (LA _ ham2).1, hnL (LA _ ham2).1, gmem _ ham2⟩ (fa1 ⟨hck, ckL, ck0⟩ (fa1 ⟨hca1, hnL hca, gca⟩ (fa1 ⟨hcd1, hnL hcd, gcd⟩ (fa1 ⟨hvl1, hnL hvl, gvl⟩ fa0)))))))
              walk_at "9v"
              walk_at "9B"
              clear hX
              have N1 : News g0 L0 h₁ ((a, ⟨.type "tuple", d, .seq #[.str (Ln.p o).word t, .int (Ln.p o).opd u2] n3, sl⟩) :: (a1, ⟨.type "tuple", d1, .seq #[.str (Ln.c k1).word t1, .int (Ln.c k1).opd u1] n1, sl1⟩) :: (a2, ⟨.type "tuple", d2, .seq #[.str (Ln.c k2).word t2, .int (Ln.c k2).opd u3] n2, sl2⟩) :: (L0 + 1, oc) :: (ca, instObj 276 cd) :: (cd, consD w.params t0 vl) :: (vl, listOf vals.toArray vn) :: own) := N1
              walk_at "9S"
              walk_at "9aa"
              k_steps
              walk_at "9b"
              walk_at "9a"
              walk_at "9D"
              clear kF kN
              k_steps
              · walk_at "9b"
                walk_at "9a"
                walk_at "9P"
                exact hP _ (EndH.mk kF (ro_nil (kn_loc k6 hns)) ⟨rfl, led_get kN Z8, kept_base k6 hL0 kp⟩)
              · walk_at "9b"
                walk_at "9a"
                walk_at "9P"
                walk_at "9ai"
                refine wpAny_with_toks (Nat.le_refl _) (c_called2 (Gd.of kF X0 T0) (by walk_at "m_room") (by show un + 3 + 100 < cLine; walk_at "om") (led_get kN Z1) (led_new kN Z1) hmo (show TrV _ x1 (.at at1) from hv1) (show TrV _ x2 (.at at2) from hv2) (fun i e => hB i (by injection e with e; rw [← e]; exact List.mem_of_getElem? hc1)) (fun i e => hB i (by injection e with e; rw [← e]; exact List.mem_of_getElem? hc2)) ?_ ?_)
                · intro v y h5 tk5 hc hv k5 t5 t6
                  exact absurd (isLeft2 hl hmo hl1 hl2 hc1 hc2 c1 hc) (by rw [hL]; exact Bool.false_ne_true)
                · intro h5 tk5 hc k5 t5 t6
                  walk_at "98"
                  clear kF kN k6
                  k_steps
                  walk_at "9b"
                  walk_at "9a"
                  walk_at "9P"
                  exact hP _ (EndH.mk kF (ro_nil (kn_loc k6 hns)) ⟨rfl, led_get kN Z8, kept_base k6 hL0 kp⟩)
            · revert ham2 hw2
              generalize l2.word = wd2
              generalize ((l2.opd : Nat) : Int) = od2
              intro ham2 hw2
              have hX : ∀ p ∈ ([(a, ⟨.type "tuple", d, .seq #[.str (Ln.p o).word t, .int (Ln.p o).opd u2] n3, sl⟩), (a1, ⟨.type "tuple", d1, .seq #[.str (Ln.c k1).word t1, .int (Ln.c k1).opd u1] n1, sl1⟩), (a2, ⟨.type "tuple", d2, .seq #[.str wd2 t2, .int od2 u3] n2, sl2⟩), (L0 + 1, oc), (ca, instObj 276 cd), (cd, consD w.params t0 vl), (vl, listOf vals.toArray vn)] : List (Addr × Obj)), Heap.get? h₁ p.1 = some p.2 ∧ p.1 ≠ L0 ∧ g0.get? p.1 = none := (fa1 ⟨kp.get (LA _ ham).1, hnL (LA _ ham).1, gmem _ ham⟩ (fa1 ⟨kp.get (LA _ ham1).1, hnL (LA _ ham1).1, gmem _ ham1⟩ (fa1 ⟨kp.get (LA _ ham2).1, hnL (LA _ ham2).1, gmem _ ham2⟩ (fa1 ⟨hck, ckL, ck0⟩ (fa1 ⟨hca1, hnL hca, gca⟩ (fa1 ⟨hcd1, hnL hcd, gcd⟩ (fa1 ⟨hvl1, hnL hvl, gvl⟩ fa0)))))))
              walk_at "9v"
              walk_at "9B"
              clear hX
              have N1 : News g0 L0 h₁ ((a, ⟨.type "tuple", d, .seq #[.str (Ln.p o).word t, .int (Ln.p o).opd u2] n3, sl⟩) :: (a1, ⟨.type "tuple", d1, .seq #[.str (Ln.c k1).word t1, .int (Ln.c k1).opd u1] n1, sl1⟩) :: (a2, ⟨.type "tuple", d2, .seq #[.str wd2 t2, .int od2 u3] n2, sl2⟩) :: (L0 + 1, oc) :: (ca, instObj 276 cd) :: (cd, consD w.params t0 vl) :: (vl, listOf vals.toArray vn) :: own) := N1
              walk_at "9S"
              walk_at "9aa"
              k_steps
              walk_at "9b"
              walk_at "9a"
              walk_at "9D"
              clear kF kN
              k_steps
              walk_at "9b"
              walk_at "9a"
              walk_at "9T"
              walk_at "92"
          · rcases l2.con_or with ⟨k2, rfl⟩ | hw2
            · revert ham1 hw1
              generalize l1.word = wd1
              generalize ((l1.opd : Nat) : Int) = od1
              intro ham1 hw1
              have hX : ∀ p ∈ ([(a, ⟨.type "tuple", d, .seq #[.str (Ln.p o).word t, .int (Ln.p o).opd u2] n3, sl⟩), (a1, ⟨.type "tuple", d1, .seq #[.str wd1 t1, .int od1 u1] n1, sl1⟩), (a2, ⟨.type "tuple", d2, .seq #[.str (Ln.c k2).word t2, .int (Ln.c k2).opd u3] n2, sl2⟩), (L0 + 1, oc), (ca, instObj 276 cd), (cd, consD w.params t0 vl), (vl, listOf vals.toArray vn)] : List (Addr × Obj)), Heap.get? h₁ p.1 = some p.2 ∧ p.1 ≠ L0 ∧ g0.get? p.1 = none := (fa1 ⟨kp.get (LA _ ham).1, hnL (LA _ ham).1, gmem _ ham⟩ (fa1 ⟨kp.get (LA _ ham1).1, hnL (LA _ ham1).1, gmem _ ham1⟩ (fa1 ⟨kp.get (LA _ ham2).1, hnL (LA _ ham2).1, gmem _ ham2⟩ (fa1 ⟨hck, ckL, ck0⟩ (fa1 ⟨hca1, hnL hca, gca⟩ (fa1 ⟨hcd1, hnL hcd, gcd⟩ (fa1 ⟨hvl1, hnL hvl, gvl⟩ fa0)))))))
              walk_at "9v"
              walk_at "9B"
              clear hX
              have N1 : News g0 L0 h₁ ((a, ⟨.type "tuple", d, .seq #[.str (Ln.p o).word t, .int (Ln.p o).opd u2] n3, sl⟩) :: (a1, ⟨.type "tuple", d1, .seq #[.str wd1 t1, .int od1 u1] n1, sl1⟩) :: (a2, ⟨.type "tuple", d2, .seq #[.str (Ln.c k2).word t2, .int (Ln.c k2).opd u3] n2, sl2⟩) :: (L0 + 1, oc) :: (ca, instObj 276 cd) :: (cd, consD w.params t0 vl) :: (vl, listOf vals.toArray vn) :: own) := N1
              walk_at "9S"
              walk_at "9aa"
              k_steps
              walk_at "9b"
              walk_at "9a"
              walk_at "9D"
              clear kF kN
              k_steps
              walk_at "9b"
              walk_at "9a"
              walk_at "9T"
              walk_at "92"
            · revert ham1 hw1
              generalize l1.word = wd1
              generalize ((l1.opd : Nat) : Int) = od1
              intro ham1 hw1
              revert ham2 hw2
              generalize l2.word = wd2
              generalize ((l2.opd : Nat) : Int) = od2
              intro ham2 hw2
              have hX : ∀ p ∈ ([(a, ⟨.type "tuple", d, .seq #[.str (Ln.p o).word t, .int (Ln.p o).opd u2] n3, sl⟩), (a1, ⟨.type "tuple", d1, .seq #[.str wd1 t1, .int od1 u1] n1, sl1⟩), (a2, ⟨.type "tuple", d2, .seq #[.str wd2 t2, .int od2 u3] n2, sl2⟩), (L0 + 1, oc), (ca, instObj 276 cd), (cd, consD w.params t0 vl), (vl, listOf vals.toArray vn)] : List (Addr × Obj)), Heap.get? h₁ p.1 = some p.2 ∧ p.1 ≠ L0 ∧ g0.get? p.1 = none := (fa1 ⟨kp.get (LA _ ham).1, hnL (LA _ ham).1, gmem _ ham⟩ (fa1 ⟨kp.get (LA _ ham1).1, hnL (LA _ ham1).1, gmem _ ham1⟩ (fa1 ⟨kp.get (LA _ ham2).1, hnL (LA _ ham2).1, gmem _ ham2⟩ (fa1 ⟨hck, ckL, ck0⟩ (fa1 ⟨hca1, hnL hca, gca⟩ (fa1 ⟨hcd1, hnL hcd, gcd⟩ (fa1 ⟨hvl1, hnL hvl, gvl⟩ fa0)))))))
              walk_at "9v"
              walk_at "9B"
              clear hX
              have N1 : News g0 L0 h₁ ((a, ⟨.type "tuple", d, .seq #[.str (Ln.p o).word t, .int (Ln.p o).opd u2] n3, sl⟩) :: (a1, ⟨.type "tuple", d1, .seq #[.str wd1 t1, .int od1 u1] n1, sl1⟩) :: (a2, ⟨.type "tuple", d2, .seq #[.str wd2 t2, .int od2 u3] n2, sl2⟩) :: (L0 + 1, oc) :: (ca, instObj 276 cd) :: (cd, consD w.params t0 vl) :: (vl, listOf vals.toArray vn) :: own) := N1
              walk_at "9S"
              walk_at "9aa"
              k_steps
              walk_at "9b"
              walk_at "9a"
              walk_at "9D"
              clear kF kN
              k_steps
              walk_at "9b"
              walk_at "9a"
              walk_at "9T"
              walk_at "92"
  case fin =>
    clear kF kN
    rintro h' tk9 m' ht9 F9 ⟨hm, hck, kp⟩
    clear hm
    have hX : ∀ p ∈ ([(L0 + 1, oc)] : List (Addr × Obj)), Heap.get? h' p.1 = some p.2 ∧ p.1 ≠ L0 ∧ g0.get? p.1 = none := fa1 ⟨hck, ckL, ck0⟩ fa0
    obtain ⟨own, N9, hoff, -, hall⟩ := turn_open _ F9 hX
    walk_at "9B"
    clear hX
    have N9 : News g0 L0 h' ((L0 + 1, oc) :: own) := N9
    k_steps
    walk_at "9b"
    walk_at "9a"
    have k6 : Kept [L0] h' _ := turn_same (X' := [_]) kF kN eX hall (fun _ q => q)
    walk_at "9h"
    intro kk ll ht
    exact hQ _ _ (kept_base k6 hL0 kp) ht
theorem zg_left : True := trivial
theorem zrr34 : True := by
  k_with "@compareOp Eq ref ref" => ((fail_if_success have := zg_law); (k_here; (with_reducible rename News _ _ _ _ => kN9'); k_dflt (refine lines_eq (led_list kN9' Z1) (led_list kN9' (.head _)) (by assumption) (by assumption) (by show un + 3 + 10 < cLine; walk_at "om") ?_)))
  trivial
theorem c_law_body {L fa : Addr} {cdv : Value} {sl : Addr} {vs : List Value} {ns : List Int} {Q : Flow → Shared → Prop} (X : (K w.params).In h₀) (T : Top p lo mean mg mb h₀) (F : Fr h₀ L s.heap (fun x => List.lookup x [(Str.ofString "script", Value.ref sl)])) (N : News h₀ L s.heap [])
   (hd : dp + 60 < recursionLimit) (hu : un + 1000 < cLine) (ht1 : 1 ≤ s.toks) (hl : h₀.IsList sl vs.toArray) (hI : IntsAre vs ns) (hn : ns.length ≤ 63)
   (hQ : ∀ h' tk' m', Fr h₀ L h' m' → Q (.ret (.bool true)) {s with heap := h', toks := tk'}) :
   wpAny (model prog w) ((At0 dp un (some []) gd).deeper (envOf dlaw.name dlaw.scope L fa cdv)) (execs dlaw.body (envOf dlaw.name dlaw.scope L fa cdv)) Q E s := by
  revert X T F N hd hu ht1 hl hI hn hQ
  revert prog w dp un gd s h₀ p lo mean mg mb E L fa cdv sl vs ns Q
  walk_at "9c"
  intro prog w dp un gd s h₀ p lo mean mg mb E L fa cdv
  clear_value prog w dp un gd s h₀ p lo mean mg mb E L fa cdv
  walk_at "9f"
  intro sl vs ns Q
  clear_value sl vs ns Q
  walk_at "in"
  have hL0 : h₀.get? L = none := Heap.get?_none_of_le F.above
  k_steps
  walk_at "9b"
  walk_at "9a"
  refine wpAny_with_toks (Nat.le_refl _) (c_law_pot (Gd.of kF X T) (by walk_at "m_room") hl hI hn ?_)
  intro pa cl cvs cells t1 t2 seed n1 n2 h1 tk1 kc1 hp0 hc0 hpc hpa hcl hIc hc9 hcn hs hs2 tkA tkB
  try dsimp only at tkA tkB
  obtain ⟨F1, -⟩ := after0 kF kN kc1
  have bp := off_base kF hp0
  have bc := off_base kF hc0
  clear kF kN
  have hX1 : ∀ p ∈ ([(pa, listOf #[.ref cl, .int 0 t1, .int seed t2] n1), (cl, listOf cvs.toArray n2)] : List (Addr × Obj)), Heap.get? h1 p.1 = some p.2 ∧ p.1 ≠ L ∧ h₀.get? p.1 = none := (fa1 ⟨hpa, bp.2, bp.1⟩ (fa1 ⟨hcl, bc.2, bc.1⟩ fa0))
  obtain ⟨own1, N1, off1, -, all1⟩ := turn_open _ F1 hX1
  have eX1 := fun p hp => (hX1 p hp).1
  clear hX1
  walk_at "9aG"
  try dsimp only [map_cons, map_nil] at off1
  k_steps
  walk_at "9b"
  walk_at "9a"
  have k1 : Kept [L] h1 _ := turn_same (X' := [_, _]) kF kN eX1 all1 (fun _ q => q)
  show wpAny _ _ (call (Value.ref 760) []) _ _ _
  refine wpAny_with_toks (Nat.le_refl _) (c_law_world (Gd.of kF X T) (by walk_at "m_room") ?_)
  intro W D h2 tk2 kc2 hW tkC tkD
  try dsimp only at tkC tkD
  obtain ⟨F2, -⟩ := after0 kF kN kc2
  have hpa2 := kc2.get (led_get kN (.head _))
  have hcl2 := kc2.get (led_get kN Z1)
  have W2 : WPd prog w (HZ h₀ h2 [L, pa, cl]) W D 14 := hW.mono fun b x z => ⟨z.1, (off_base kF z.2).1, na1 (off_base kF z.2).2 (na1 (ne_of_none z.2 (led_get kN (.head _))) (na1 (ne_of_none z.2 (led_get kN Z1)) na0))⟩
  clear kF kN hW
  have hX2 : ∀ p ∈ ([(pa, listOf #[.ref cl, .int 0 t1, .int seed t2] n1), (cl, listOf cvs.toArray n2)] : List (Addr × Obj)), Heap.get? h2 p.1 = some p.2 ∧ p.1 ≠ L ∧ h₀.get? p.1 = none := (fa1 ⟨hpa2, bp.2, bp.1⟩ (fa1 ⟨hcl2, bc.2, bc.1⟩ fa0))
  obtain ⟨own2, N2, off2, -, all2⟩ := turn_open _ F2 hX2
  have eX2 := fun p hp => (hX2 p hp).1
  clear hX2
  try dsimp only [List.cons_append, List.nil_append] at N2
  try dsimp only [map_cons, map_nil] at off2
  k_steps
  walk_at "9b"
  walk_at "9a"
  have k2 : Kept [L] h2 _ := turn_same (X' := [_, _]) kF kN eX2 all2 (fun _ q => q)
  show wpAny _ _ (call (Value.ref 276) []) _ _ _
  refine wpAny_with_toks (Nat.le_refl _) (c_new_constants (Gd.of kF X T) (by walk_at "m_room") ?_)
  intro ca cd vl t0 h3 tk3 kc3 na nd nv hca hcd hvl tkE tkF
  try dsimp only at tkE tkF
  obtain ⟨F3, -⟩ := after0 kF kN kc3
  have hpa3 := kc3.get (led_get kN (.head _))
  have hcl3 := kc3.get (led_get kN Z1)
  have ba := off_base kF na
  have bd := off_base kF nd
  have bv := off_base kF nv
  have W3 : WPd prog w (HZ h₀ h3 [vl, cd, ca, L, pa, cl]) W D 14 := ((((W2.up k2 (fa1 (.head _) fa0)).exc na).exc nd).exc nv).up kc3 fa0
  have pv : pa ≠ vl := Ne.symm (ne_of_none nv (led_get kN (.head _)))
  have cv : cl ≠ vl := Ne.symm (ne_of_none nv (led_get kN Z1))
  clear kF kN W2
  have hX3 : ∀ p ∈ ([(pa, listOf #[.ref cl, .int 0 t1, .int seed t2] n1), (cl, listOf cvs.toArray n2), (ca, instObj 276 cd), (cd, consD w.params t0 vl), (vl, listOf #[] 0)] : List (Addr × Obj)), Heap.get? h3 p.1 = some p.2 ∧ p.1 ≠ L ∧ h₀.get? p.1 = none := (fa1 ⟨hpa3, bp.2, bp.1⟩ (fa1 ⟨hcl3, bc.2, bc.1⟩ (fa1 ⟨hca, ba.2, ba.1⟩ (fa1 ⟨hcd, bd.2, bd.1⟩ (fa1 ⟨hvl, bv.2, bv.1⟩ fa0)))))
  obtain ⟨own3, N3, off3, -, all3⟩ := turn_open _ F3 hX3
  have eX3 := fun p hp => (hX3 p hp).1
  clear hX3
  try dsimp only [List.cons_append, List.nil_append] at N3
  try dsimp only [map_cons, map_nil] at off3
  k_steps
  walk_at "9b"
  walk_at "9a"
  have k3 : Kept [L] h3 _ := turn_same (X' := [_, _, _, _, _, _]) kF kN eX3 all3 (fun _ q => sk1 q)
  show wpAny _ _ (call (Value.ref 767) _) _ _ _
  refine wpAny_with_toks (Nat.le_refl _) (c_law_lines (Gd.of kF X T) (by walk_at "m_room") (by show un + 3 + 200 < cLine; walk_at "om") (led_get kN Z1) (led_get kN Z2) (led_get kN Z3) (led_get kN Z4) (led_get kN Z5) ⟨bp.1, bc.1, ba.1, bd.1, bv.1⟩ hIc hc9 hcn hs hs2 (by (try dsimp only); walk_at "om") ⟨hpc.symm, pv, cv⟩ ?_)
  intro fl fvs vals fn vn lns cs n9 h4 tk4 nf hfl hvl4 hln hok hav hT hTt hB3 hl12 hv12 hR kc4 tkG tkH
  try dsimp only at tkG tkH
  have F4 := fr_keptM kF kc4 (na1 bp.2.symm (na1 bv.2.symm na0)) (fa1 bp.1 (fa1 bv.1 fa0))
  have bf := off_base kF nf
  have fv : fl ≠ vl := ne_of_none nf (led_get kN Z5)
  have W4 : WPd prog w (HZ h₀ h4 [fl, vl, cd, ca, L, pa, cl]) W D 14 := ((W3.up k3 (fa1 Z3 fa0)).exc nf).up kc4 (fa1 Z5 (fa1 Z1 fa0))
  have hca4 := kc4 ca _ (na1 (ne_obj hca hpa3 io_list) (na1 (ne_obj hca hvl io_list) na0)) (led_get kN Z3)
  have hcd4 := kc4 cd _ (na1 (ne_obj hcd hpa3 do_list) (na1 (ne_obj hcd hvl do_list) na0)) (led_get kN Z4)
  obtain ⟨res, hres⟩ := hR.some
  have hdep := res_dep hres hl12 hB3
  have cav : ca ≠ vl := ne_obj hca hvl io_list
  have cdvl : cd ≠ vl := ne_obj hcd hvl do_list
  have ns4 := F4.ns
  clear kF kN W3 hR
  have hX4 : ∀ p ∈ ([(fl, listOf fvs.toArray fn), (ca, instObj 276 cd), (cd, consD w.params t0 vl), (vl, listOf vals.toArray vn)] : List (Addr × Obj)), Heap.get? h4 p.1 = some p.2 ∧ p.1 ≠ L ∧ h₀.get? p.1 = none := (fa1 ⟨hfl, bf.2, bf.1⟩ (fa1 ⟨hca4, ba.2, ba.1⟩ (fa1 ⟨hcd4, bd.2, bd.1⟩ (fa1 ⟨hvl4, bv.2, bv.1⟩ fa0))))
  obtain ⟨own4, N4, off4, -, all4⟩ := turn_open _ F4 hX4
  have eX4 := fun p hp => (hX4 p hp).1
  clear hX4
  try dsimp only [List.cons_append, List.nil_append] at N4
  try dsimp only [map_cons, map_nil] at off4
  k_steps
  walk_at "9b"
  walk_at "9a"
  have k4 : Kept [L] h4 _ := turn_same (X' := [_, _, _, _]) kF kN eX4 all4 (fun _ q => q)
  show wpAny _ _ (call (Value.ref 784) _) _ _ _
  have kn4 : KN h4 _ := kn_all k4 (fa1 (ns_mu ns4) fa0)
  refine wpAny_with_toks (Nat.le_refl _) (c_law_run (Gd.of kF X T) (by walk_at "m_room") (by show un + 3 + 200 < cLine; walk_at "om") (led_get kN (.head _)) (led_get kN Z1) (led_get kN Z2) (led_get kN Z3) ⟨ba.1, bd.1, bv.1⟩ (lnz_kn kn4 hln) hav (by walk_at "om") hl12 hres (fun k st hk i hi => Nat.le_trans ((run_first hB3 hl12 k hk _ hi).2 i rfl) (by decide)) fv ?_)
  intro v1 h5 tk5 hv1 kc5 tkI tkJ
  try dsimp only at tkI tkJ
  obtain ⟨F5, N5'⟩ := after0 kF kN kc5
  have hfl5 := led_get N5' (.head _)
  have hca5 := led_get N5' Z1
  have hcd5 := led_get N5' Z2
  have hvl5 := led_get N5' Z3
  have hln5 : All2 (LnZ h₀ h5) fvs lns := lnz_kn (kn_of_kept kc5) (lnz_kn kn4 hln)
  have W5 : WPd prog w (HZ h₀ h5 [fl, vl, cd, ca, L, pa, cl]) W D 14 := (W4.up k4 (fa1 Z4 fa0)).up kc5 fa0
  have ns5 := F5.ns
  clear kF kN W4 N5' hln
  have hX5 : ∀ p ∈ ([(fl, listOf fvs.toArray fn), (ca, instObj 276 cd), (cd, consD w.params t0 vl), (vl, listOf vals.toArray vn)] : List (Addr × Obj)), Heap.get? h5 p.1 = some p.2 ∧ p.1 ≠ L ∧ h₀.get? p.1 = none := (fa1 ⟨hfl5, bf.2, bf.1⟩ (fa1 ⟨hca5, ba.2, ba.1⟩ (fa1 ⟨hcd5, bd.2, bd.1⟩ (fa1 ⟨hvl5, bv.2, bv.1⟩ fa0))))
  obtain ⟨own5, N5, off5, -, all5⟩ := turn_open _ F5 hX5
  have eX5 := fun p hp => (hX5 p hp).1
  clear hX5
  try dsimp only [List.cons_append, List.nil_append] at N5
  try dsimp only [map_cons, map_nil] at off5
  k_steps
  walk_at "9b"
  walk_at "9a"
  have k5 : Kept [L] h5 _ := turn_same (X' := [_, _, _, _]) kF kN eX5 all5 (fun _ q => q)
  show wpAny _ _ (call (Value.ref 245) _) _ _ _
  have kn5 : KN h5 _ := kn_all k5 (fa1 (ns_mu ns5) fa0)
  have WE := W5.up k5 (fa1 Z4 fa0)
  have wo := W5.off (y := vl) Z1
  have wf := W5.off (y := fl) (.head _)
  have wc := W5.off (y := ca) Z3
  have wd := W5.off (y := cd) Z2
  refine wpAny_with_toks (Nat.le_refl _) (c_folded (outer := [envOf dlaw.name dlaw.scope L fa cdv]) (Gd.of kF X T) (by walk_at "m_room") (led_get kN (.head _)) (led_get kN Z1) (led_get kN Z2) (led_get kN Z3) ⟨bf.1, ba.1, bd.1, bv.1⟩ (lnz_kn kn5 hln5) hav hT
    (fun j t q => Nat.lt_of_lt_of_le (hTt j t q) (by (try dsimp only); walk_at "om")) (by (try dsimp only); walk_at "om") (WE.less (fa1 Z4 fa0)) (FF.push2 FF.nil kF) (fa1 (l := []) hL0 fa0)
    (fa1 (l := []) (ns_dict kF.ns) fa0) (fun i hi => ⟨(stAt_facts hok hB3 hl12 i).ok, (stAt_facts hok hB3 hl12 i).bits.mono (by decide)⟩) hl12 (by walk_at "om") (by decide) ⟨fv, wo.2, wf.2, wd.1, fun hb => bd.2 (List.mem_singleton.mp (show cd ∈ [L] from hb))⟩ ?_)
  intro ra rvs vals' n5 n6 D' h6 tk6 nr hra6 hlr hvl6 hav6 hT6 hTt6 hv6 W6 fu6 kc6 tkK tkL
  try dsimp only at tkK tkL
  have br := off_base kF nr
  have hM6 : ∀ b ∈ vl :: W.nd :: W.rl :: [L], h₀.get? b = none := fa1 bv.1 (fa1 WE.nd.2.1 (fa1 WE.rl.2.1 (fa1 hL0 fa0)))
  have kc6 : Kept (vl :: W.nd :: W.rl :: [L]) _ h6 := kc6
  have F6 := fr_fru kF kc6 fu6 (.head _) hM6
  have kn6 : KN _ h6 := kn_all kc6 (fa1 ⟨_, led_get kN Z3, mu_list⟩ (fa1 ⟨_, WE.nd.1, mu_dict WE.hk⟩ (fa1 ⟨_, WE.rl.1, mu_list⟩ (fa1 (ns_mu kF.ns) fa0))))
  have off6 : ∀ {y : Addr}, y ≠ vl → y ≠ W.nd → y ≠ W.rl → y ≠ L → y ∉ vl :: W.nd :: W.rl :: [L] := fun a b c d => na1 a (na1 b (na1 c (na1 d na0)))
  have hfl6 := kc6 fl _ (off6 fv wf.1 wf.2 bf.2) (led_get kN (.head _))
  have hca6 := kc6 ca _ (off6 cav wc.1 wc.2 ba.2) (led_get kN Z1)
  have hcd6 := kc6 cd _ (off6 cdvl wd.1 wd.2 bd.2) (led_get kN Z2)
  have rv : ra ≠ vl := ne_of_none nr (led_get kN Z3)
  have rn : ra ≠ W.nd := ne_of_none nr WE.nd.1
  have rr : ra ≠ W.rl := ne_of_none nr WE.rl.1
  have hv16 : ResV h6 v1 res := (hv1.kn kn5).kn kn6
  have W6 : WPd prog w (HZ h₀ h6 [L]) W D' 26 := W6
  obtain ⟨q1, q2, q3, q4, q5, q6, q7⟩ := plain_law hok hB3 hl12
  have q8 := hlr.length
  have q9 := hln5.length
  have ns6 := F6.ns
  clear kF kN WE W5 hln5
  have hX6 : ∀ p ∈ ([(fl, listOf fvs.toArray fn), (ca, instObj 276 cd), (cd, consD w.params t0 vl), (vl, listOf vals'.toArray n6), (ra, listOf rvs.toArray n5)] : List (Addr × Obj)), Heap.get? h6 p.1 = some p.2 ∧ p.1 ≠ L ∧ h₀.get? p.1 = none := (fa1 ⟨hfl6, bf.2, bf.1⟩ (fa1 ⟨hca6, ba.2, ba.1⟩ (fa1 ⟨hcd6, bd.2, bd.1⟩ (fa1 ⟨hvl6, bv.2, bv.1⟩ (fa1 ⟨hra6, br.2, br.1⟩ fa0)))))
  obtain ⟨own6, N6, off6, -, all6⟩ := turn_open _ F6 hX6
  have eX6 := fun p hp => (hX6 p hp).1
  clear hX6
  try dsimp only [List.cons_append, List.nil_append] at N6
  try dsimp only [map_cons, map_nil] at off6
  k_steps
  walk_at "9b"
  walk_at "9a"
  have k6 : Kept [L] h6 _ := turn_same (X' := [_, _, _, _, _]) kF kN eX6 all6 (fun _ q => q)
  show wpAny _ _ (call (Value.ref 784) _) _ _ _
  have kn7 : KN h6 _ := kn_all k6 (fa1 (ns_mu ns6) fa0)
  refine wpAny_with_toks (Nat.le_refl _) (c_law_run (Gd.of kF X T) (by walk_at "m_room") (by show un + 3 + 200 < cLine; walk_at "om") (led_get kN Z4) (led_get kN Z1) (led_get kN Z2) (led_get kN Z3) ⟨ba.1, bd.1, bv.1⟩ (lnz_kn kn7 hlr) hav6 (by walk_at "om") (Nat.le_trans q2 hl12) (q1.trans hres)
    (fun k st hk i hi => Nat.le_trans ((run_second hok hB3 hl12 lns.length (Nat.le_refl _) k st (by rw [stAt_all]; exact hk) _ hi).2 i rfl) (by decide)) rv ?_)
  intro v2 h7 tk7 hv2 kc7 tkM tkN
  try dsimp only at tkM tkN
  obtain ⟨F7, N7'⟩ := after0 kF kN kc7
  have hfl7 := led_get N7' (.head _)
  have hca7 := led_get N7' Z1
  have hcd7 := led_get N7' Z2
  have hvl7 := led_get N7' Z3
  have hra7 := led_get N7' Z4
  have kn7' := kn7.trans (kn_of_kept kc7)
  have hlr7 : All2 (LnZ h₀ h7) rvs (foldL lns cs).1 := lnz_kn kn7' hlr
  have hv17 : ResV h7 v1 res := hv16.kn kn7'
  have W7 : WPd prog w (HZ h₀ h7 [L]) W D' 26 := (W6.up k6 (fun _ q => q)).up kc7 fa0
  have ns7 := F7.ns
  clear kF kN W6 N7' hlr kn7 kn7'
  have hX7 : ∀ p ∈ ([(fl, listOf fvs.toArray fn), (ca, instObj 276 cd), (cd, consD w.params t0 vl), (vl, listOf vals'.toArray n6), (ra, listOf rvs.toArray n5)] : List (Addr × Obj)), Heap.get? h7 p.1 = some p.2 ∧ p.1 ≠ L ∧ h₀.get? p.1 = none := (fa1 ⟨hfl7, bf.2, bf.1⟩ (fa1 ⟨hca7, ba.2, ba.1⟩ (fa1 ⟨hcd7, bd.2, bd.1⟩ (fa1 ⟨hvl7, bv.2, bv.1⟩ (fa1 ⟨hra7, br.2, br.1⟩ fa0)))))
  obtain ⟨own7, N7, off7, -, all7⟩ := turn_open _ F7 hX7
  have eX7 := fun p hp => (hX7 p hp).1
  clear hX7
  try dsimp only [List.cons_append, List.nil_append] at N7
  try dsimp only [map_cons, map_nil] at off7
  k_steps
  walk_at "9b"
  walk_at "9a"
  have k7 : Kept [L] h7 _ := turn_same (X' := [_, _, _, _, _]) kF kN eX7 all7 (fun _ q => q)
  have kn8 : KN h7 _ := kn_all k7 (fa1 (ns_mu ns7) fa0)
  refine res_ne (hv2.kn kn8) (hv17.kn kn8) hdep (by show un + 3 + 40 < cLine; walk_at "om") ?_
  have hlr8 := lnz_kn kn8 hlr7
  have W8 := W7.up k7 (fun _ q => q)
  dsimp only
  clear hv2 hv17 kn8
  k_steps
  walk_at "9b"
  walk_at "9a"
  show wpAny _ _ (call (Value.ref 789) _) _ _ _
  refine wpAny_with_toks (Nat.le_refl _) (c_law_is_left (Gd.of kF X T) (by walk_at "m_room") (by show un + 3 + 200 < cLine; walk_at "om") (led_get kN Z4) (led_get kN Z1) (led_get kN Z2) (led_get kN Z3) ⟨ba.1, bd.1, bv.1⟩ hlr8 hav6 (by walk_at "om") (Nat.le_trans q2 hl12) q6 q3 (q5.mono (by decide)) rv ?_)
  intro h8 tk8 kc8 tkO tkP
  try dsimp only at tkO tkP
  obtain ⟨F8, N8'⟩ := after0 kF kN kc8
  have hfl8 := led_get N8' (.head _)
  have hca8 := led_get N8' Z1
  have hcd8 := led_get N8' Z2
  have hvl8 := led_get N8' Z3
  have hra8 := led_get N8' Z4
  have hlr9 : All2 (LnZ h₀ h8) rvs (foldL lns cs).1 := lnz_kn (kn_of_kept kc8) hlr8
  have W9 : WPd prog w (HZ h₀ h8 [L]) W D' 26 := W8.up kc8 fa0
  have ns8 := F8.ns
  clear kF kN W7 W8 N8' hlr7 hlr8
  have hX8 : ∀ p ∈ ([(fl, listOf fvs.toArray fn), (ca, instObj 276 cd), (cd, consD w.params t0 vl), (vl, listOf vals'.toArray n6), (ra, listOf rvs.toArray n5)] : List (Addr × Obj)), Heap.get? h8 p.1 = some p.2 ∧ p.1 ≠ L ∧ h₀.get? p.1 = none := (fa1 ⟨hfl8, bf.2, bf.1⟩ (fa1 ⟨hca8, ba.2, ba.1⟩ (fa1 ⟨hcd8, bd.2, bd.1⟩ (fa1 ⟨hvl8, bv.2, bv.1⟩ (fa1 ⟨hra8, br.2, br.1⟩ fa0)))))
  obtain ⟨own8, N8, off8, -, all8⟩ := turn_open _ F8 hX8
  have eX8 := fun p hp => (hX8 p hp).1
  clear hX8
  try dsimp only [List.cons_append, List.nil_append] at N8
  try dsimp only [map_cons, map_nil] at off8
  k_steps
  walk_at "9b"
  walk_at "9a"
  have k8 : Kept [L] h8 _ := turn_same (X' := [_, _, _, _, _]) kF kN eX8 all8 (fun _ q => q)
  show wpAny _ _ (call (Value.ref 245) _) _ _ _
  have kn9 : KN h8 _ := kn_all k8 (fa1 (ns_mu ns8) fa0)
  have WE := W9.up k8 (fun _ q => q)
  have hlrE := lnz_kn kn9 hlr9
  refine wpAny_with_toks (Nat.le_refl _) (c_folded (outer := [envOf dlaw.name dlaw.scope L fa cdv]) (Gd.of kF X T) (by walk_at "m_room") (led_get kN Z4) (led_get kN Z1) (led_get kN Z2) (led_get kN Z3) ⟨br.1, ba.1, bd.1, bv.1⟩ hlrE hav6 hT6
    (fun j t q => Nat.lt_of_lt_of_le (hTt6 j t q) (by (try dsimp only); walk_at "om")) (by (try dsimp only); walk_at "om") WE (FF.push2 FF.nil kF) (fa1 (l := []) hL0 fa0)
    (fa1 (l := []) (ns_dict kF.ns) fa0) (fun i hi => by rw [stAt_second hok hB3 hl12 i]; exact ⟨fun l h => q6 l (List.mem_of_mem_take h), q5.mono (by decide)⟩) (Nat.le_trans q2 hl12) (by walk_at "om") (by decide) ⟨rv, wo.2, rr, wd.1, fun hb => bd.2 (List.mem_singleton.mp (show cd ∈ [L] from hb))⟩ ?_)
  intro rb rvs2 vals2 n7 n8 D2 h9 tk9 nb hrb hlb hvl9 hav9 hT9 hTt9 hv9 W10 fu9 kc9 tkQ tkR
  have bb := off_base kF nb
  have kc9 : Kept (vl :: W.nd :: W.rl :: [L]) _ h9 := kc9
  have F9 := fr_fru kF kc9 fu9 (.head _) (fa1 bv.1 (fa1 WE.nd.2.1 (fa1 WE.rl.2.1 (fa1 hL0 fa0))))
  have kn10 : KN _ h9 := kn_all kc9 (fa1 ⟨_, led_get kN Z3, mu_list⟩ (fa1 ⟨_, WE.nd.1, mu_dict WE.hk⟩ (fa1 ⟨_, WE.rl.1, mu_list⟩ (fa1 (ns_mu kF.ns) fa0))))
  have hra9 := kc9 ra _ (na1 rv (na1 rn (na1 rr (na1 br.2 na0)))) (led_get kN Z4)
  rw [q4] at hlb
  have hlr10 := lnz_kn kn10 hlrE
  have ns9 := F9.ns
  clear kF kN WE W9 W10 hlrE
  have hX9 : ∀ p ∈ ([(ra, listOf rvs.toArray n5), (rb, listOf rvs2.toArray n7)] : List (Addr × Obj)), Heap.get? h9 p.1 = some p.2 ∧ p.1 ≠ L ∧ h₀.get? p.1 = none := (fa1 ⟨hra9, br.2, br.1⟩ (fa1 ⟨hrb, bb.2, bb.1⟩ fa0))
  obtain ⟨own9, N9, off9, -, all9⟩ := turn_open _ F9 hX9
  have eX9 := fun p hp => (hX9 p hp).1
  clear hX9
  try dsimp only [List.cons_append, List.nil_append] at N9
  try dsimp only [map_cons, map_nil] at off9
  k_steps
  walk_at "9b"
  walk_at "9a"
  exact hQ _ _ _ kF
theorem holds0 : PySem.Challenge.rw_oj0029_01.Holds := by
  refine head ?_
  k_fill
  intro w s₀ s₁ mg mb G Y fa o pm cd doc dV kV ho hd hcd hD hmg hg args vals as hpre hlay hrd hwl hlo
  have KX : (K w.params).In s₁.heap := Y
  refine Ground.open G ?_
  intro T B D TE TW
  try (refine guard_noD D (by decide +kernel) ?_; clear D)
  obtain ⟨_, _, M⟩ := bmod_of_top T
  have TA := at_of_top T
  try (obtain ⟨_, _, he, B0⟩ := based_of_top T rfl hmg ho hd; have he' : cd = _ := he; subst he'; clear he)
  clear hmg
  wrow_args hpre hlay hrd hwl hlo
  all_goals (
    first | refine callC_kw (enter_call ?_) | refine enter_call ?_
    w_top on
    try refine codeAny_mono ?_ (fun _ _ g => GoodW.toG g)
    have K0 := below_caller (Top.heap T)
    w_call any ho hd hcd hD T F
    clear hd TA
    k_drop
    skip)
  all_goals (try k_fold)
  rename_i hN0
  with_reducible rename IntsAre _ _ => hI
  with_reducible rename Heap.IsList _ _ _ => hL
  rename ¬ (((63 : Nat) : Int) < _) => hc
  refine c_law_body (gd := some []) (dp := 1 + claimMargin) (un := 4) KX T F hN0 (by decide) (by decide) (Nat.le_add_left _ _) hL hI (by walk_at "om") ?_
  intro h' tk' m' F'
  kc_bool
  refine goodW_bool F' hg (raisesW_false ?_) ?_
  · wrow_none_raised
  · kc_post
theorem zg_law : True := trivial
theorem zgg_fold : True := trivial
end
end Mine
end
theorem PySem.Challenge.cw_oj0029_01_holds : PySem.Challenge.rw_oj0029_01.Holds := by
  exact Mine.holds0
